/- Contracts of the functions of this seat (each: the call of the function does what the plain Lean function of the same name tells; the conditions stand in each statement). Written by a program of this session and by hand; checked by Lean. -/
import Derived.Test.YtkmnachdibhdhaaP0
import Derived.Test.YtkmnachdibhdhaaP2
import Derived.Test.YtkmnachdibhdhaaP3
import Derived.Test.YtkmnachdibhdhaaP5
namespace Go.Proofs.Ytkmnachdibhdhaa.P
open Go.RowKit Go.Proofs.YtkmnachdibhdhaaW.PrintWords Go.Proofs.YtkmnachdibhdhaaW.PrintLast Go.Proofs.YtkmnachdibhdhaaW.PrintMore
attribute [local go_sem] max2_int min2_int max_two min_two max_three min_three max_four min_four   -- for this text's walks alone
set_option linter.unusedVariables false
set_option linter.unusedSimpArgs false

/-! ### capstanlaw11_CallsRound: function 7 -/
mutual
def capstanlaw11_CallsRound.l0 : Nat → Int → List Int → Int → Int → Bool → List Int → Int → Option (Bool)
 | 0, _, _, _, _, _, _, _ => none
 | k + 1, x0, x1, x2, x3, x4, x11, x12 => if x12 < x0 then (capstanlaw11_CallsRound.l1 k x0 x1 x2 x3 x4 x11 x12 0 0) else ((capstanlaw11_made.f k x0 x11).bind fun bt208 => ((calls_Check.f k bt208.1 bt208.2.1 bt208.2.2.1 bt208.2.2.2).bind fun t219 => (if t219 = 0 then ((calls_Leads.f k bt208.1 bt208.2.1 bt208.2.2.1 bt208.2.2.2 x2).bind fun bt220 => (if bt220.2 = 0 then (capstanlaw11_CallsRound.j3 k x0 x2 x3 x11 bt220.1 (x2 == x3)) else (none))) else (none))))
def capstanlaw11_CallsRound.l1 : Nat → Int → List Int → Int → Int → Bool → List Int → Int → Int → Int → Option (Bool)
 | 0, _, _, _, _, _, _, _, _, _ => none
 | k + 1, x0, x1, x2, x3, x4, x11, x12, x13, x14 => if x14 < x0 then (capstanlaw11_CallsRound.j2 k x0 x1 x2 x3 x4 x11 x12 x13 x14 (decide (x12 < (x1.length : Int)))) else (capstanlaw11_CallsRound.j2 k x0 x1 x2 x3 x4 x11 x12 x13 x14 false)
def capstanlaw11_CallsRound.j2 : Nat → Int → List Int → Int → Int → Bool → List Int → Int → Int → Int → Bool → Option (Bool)
 | 0, _, _, _, _, _, _, _, _, _, _ => none
 | k + 1, x0, x1, x2, x3, x4, x11, x12, x13, x14, x53 => if x53 = true then (if ((decide (x14 > x12)) != x4) = true then (if x14 = x12 then (capstanlaw11_CallsRound.l1 k x0 x1 x2 x3 x4 x11 x12 x13 (wrap64 (x14 + 1))) else (if 0 ≤ x12 then (if x12 < (x1.length : Int) then (if 0 ≤ x14 then (if (Go.bits .and .u16 (shr .u16 (rd x1 x12) x14) 1) = 1 then (capstanlaw11_CallsRound.l1 k x0 x1 x2 x3 x4 x11 x12 (Go.bits .or .u16 x13 (shl .u16 1 x14)) (wrap64 (x14 + 1))) else (capstanlaw11_CallsRound.l1 k x0 x1 x2 x3 x4 x11 x12 x13 (wrap64 (x14 + 1)))) else (none)) else (none)) else (none))) else (capstanlaw11_CallsRound.l1 k x0 x1 x2 x3 x4 x11 x12 x13 (wrap64 (x14 + 1)))) else (if x11.length < 70368744177664 then (capstanlaw11_CallsRound.l0 k x0 x1 x2 x3 x4 (x11 ++ [x13]) (wrap64 (x12 + 1))) else (none))
def capstanlaw11_CallsRound.j3 : Nat → Int → Int → Int → List Int → List Int → Bool → Option (Bool)
 | 0, _, _, _, _, _, _ => none
 | k + 1, x0, x2, x3, x11, x16, x18 => capstanlaw11_CallsRound.l2 k x0 x2 x3 x11 x16 x18 0
def capstanlaw11_CallsRound.l2 : Nat → Int → Int → Int → List Int → List Int → Bool → Int → Option (Bool)
 | 0, _, _, _, _, _, _, _ => none
 | k + 1, x0, x2, x3, x11, x16, x18, x19 => if x19 < (x16.length : Int) then (if x18 = true then (capstanlaw11_CallsRound.l2 k x0 x2 x3 x11 x16 true (wrap64 (x19 + 1))) else (if 0 ≤ x19 then (capstanlaw11_CallsRound.l2 k x0 x2 x3 x11 x16 ((rd x16 x19) == x3) (wrap64 (x19 + 1))) else (none))) else (if 0 ≤ x3 then (if x3 < (x11.length : Int) then (if 0 ≤ x2 then ((some (x11.set (x3 : Int).toNat (Go.bits .or .u16 (rd x11 x3) (shl .u16 1 x2)) : List Int)).bind fun y226 => (if x18 = true then ((capstanlaw11_made.f k x0 y226).bind fun bt227 => ((calls_Check.f k bt227.1 bt227.2.1 bt227.2.2.1 bt227.2.2.2).bind fun t237 => (some (t237 == 110)))) else ((capstanlaw11_made.f k x0 y226).bind fun bt238 => ((calls_Check.f k bt238.1 bt238.2.1 bt238.2.2.1 bt238.2.2.2).bind fun t248 => (some (t248 == 0)))))) else (none)) else (none)) else (none))
end
def capstanlaw11_CallsRound.f (k : Nat) (a0 : Int) (l1 : List Int) (a2 : Int) (a3 : Int) (a4 : Bool) : Option (Bool) := (capstanlaw11_awake.f k).bind fun t203 => (if t203 = true then (if (IntKind.u64.wrap (wrap64 (1 + (wrap64 (Int.tmod (IntKind.u64.wrap (a0)) 16))))) = 0 then (none) else (capstanlaw11_CallsRound.l0 k (wrap64 (1 + (wrap64 (Int.tmod (IntKind.u64.wrap (a0)) 16)))) l1 (wrap64 (Int.tmod (IntKind.u64.wrap (a2)) (IntKind.u64.wrap (wrap64 (1 + (wrap64 (Int.tmod (IntKind.u64.wrap (a0)) 16))))))) (wrap64 (Int.tmod (IntKind.u64.wrap (a3)) (IntKind.u64.wrap (wrap64 (1 + (wrap64 (Int.tmod (IntKind.u64.wrap (a0)) 16))))))) a4 ([] : List Int) 0)) else (none))
theorem capstanlaw11_CallsRound.mono_l : ∀ k, (∀ y0 y1 y2 y3 y4 y5 y6, LeO (capstanlaw11_CallsRound.l0 k y0 y1 y2 y3 y4 y5 y6) (capstanlaw11_CallsRound.l0 (k + 1) y0 y1 y2 y3 y4 y5 y6)) ∧ (∀ y0 y1 y2 y3 y4 y5 y6 y7 y8, LeO (capstanlaw11_CallsRound.l1 k y0 y1 y2 y3 y4 y5 y6 y7 y8) (capstanlaw11_CallsRound.l1 (k + 1) y0 y1 y2 y3 y4 y5 y6 y7 y8)) ∧ (∀ y0 y1 y2 y3 y4 y5 y6 y7 y8 y9, LeO (capstanlaw11_CallsRound.j2 k y0 y1 y2 y3 y4 y5 y6 y7 y8 y9) (capstanlaw11_CallsRound.j2 (k + 1) y0 y1 y2 y3 y4 y5 y6 y7 y8 y9)) ∧ (∀ y0 y1 y2 y3 y4 y5, LeO (capstanlaw11_CallsRound.j3 k y0 y1 y2 y3 y4 y5) (capstanlaw11_CallsRound.j3 (k + 1) y0 y1 y2 y3 y4 y5)) ∧ (∀ y0 y1 y2 y3 y4 y5 y6, LeO (capstanlaw11_CallsRound.l2 k y0 y1 y2 y3 y4 y5 y6) (capstanlaw11_CallsRound.l2 (k + 1) y0 y1 y2 y3 y4 y5 y6))
 | 0 => ⟨fun _ _ _ _ _ _ _ r h => by simp [capstanlaw11_CallsRound.l0] at h, fun _ _ _ _ _ _ _ _ _ r h => by simp [capstanlaw11_CallsRound.l1] at h, fun _ _ _ _ _ _ _ _ _ _ r h => by simp [capstanlaw11_CallsRound.j2] at h, fun _ _ _ _ _ _ r h => by simp [capstanlaw11_CallsRound.j3] at h, fun _ _ _ _ _ _ _ r h => by simp [capstanlaw11_CallsRound.l2] at h⟩
 | k + 1 => by
  obtain ⟨ih0, ih1, ih2, ih3, ih4⟩ := capstanlaw11_CallsRound.mono_l k
  refine ⟨?_, ?_, ?_, ?_, ?_⟩
  ·
   intro y0 y1 y2 y3 y4 y5 y6
   unfold capstanlaw11_CallsRound.l0
   repeat' first
   | (with_reducible exact ih0 _ _ _ _ _ _ _)
   | (with_reducible exact ih1 _ _ _ _ _ _ _ _ _)
   | (with_reducible exact ih2 _ _ _ _ _ _ _ _ _ _)
   | (with_reducible exact ih3 _ _ _ _ _ _)
   | (with_reducible exact ih4 _ _ _ _ _ _ _)
   | (with_reducible exact calls_Check.mono _ _ _ _ _)
   | (with_reducible exact calls_Leads.mono _ _ _ _ _ _)
   | (with_reducible exact capstanlaw11_awake.mono _)
   | (with_reducible exact capstanlaw11_made.mono _ _ _)
   | (with_reducible exact LeO.refl _)
   | (with_reducible exact LeO.none _)
   | (with_reducible refine LeO.ite ?_ ?_)
   | (with_reducible refine LeO.bind ?_ (fun _ => ?_))
   | exact ih0 _ _ _ _ _ _ _
   | exact ih1 _ _ _ _ _ _ _ _ _
   | exact ih2 _ _ _ _ _ _ _ _ _ _
   | exact ih3 _ _ _ _ _ _
   | exact ih4 _ _ _ _ _ _ _
   | exact calls_Check.mono _ _ _ _ _
   | exact calls_Leads.mono _ _ _ _ _ _
   | exact capstanlaw11_awake.mono _
   | exact capstanlaw11_made.mono _ _ _
   | exact LeO.none _
   | refine LeO.ite ?_ ?_
   | refine LeO.bind ?_ (fun _ => ?_)
  ·
   intro y0 y1 y2 y3 y4 y5 y6 y7 y8
   unfold capstanlaw11_CallsRound.l1
   repeat' first
   | (with_reducible exact ih0 _ _ _ _ _ _ _)
   | (with_reducible exact ih1 _ _ _ _ _ _ _ _ _)
   | (with_reducible exact ih2 _ _ _ _ _ _ _ _ _ _)
   | (with_reducible exact ih3 _ _ _ _ _ _)
   | (with_reducible exact ih4 _ _ _ _ _ _ _)
   | (with_reducible exact calls_Check.mono _ _ _ _ _)
   | (with_reducible exact calls_Leads.mono _ _ _ _ _ _)
   | (with_reducible exact capstanlaw11_awake.mono _)
   | (with_reducible exact capstanlaw11_made.mono _ _ _)
   | (with_reducible exact LeO.refl _)
   | (with_reducible exact LeO.none _)
   | (with_reducible refine LeO.ite ?_ ?_)
   | (with_reducible refine LeO.bind ?_ (fun _ => ?_))
   | exact ih0 _ _ _ _ _ _ _
   | exact ih1 _ _ _ _ _ _ _ _ _
   | exact ih2 _ _ _ _ _ _ _ _ _ _
   | exact ih3 _ _ _ _ _ _
   | exact ih4 _ _ _ _ _ _ _
   | exact calls_Check.mono _ _ _ _ _
   | exact calls_Leads.mono _ _ _ _ _ _
   | exact capstanlaw11_awake.mono _
   | exact capstanlaw11_made.mono _ _ _
   | exact LeO.none _
   | refine LeO.ite ?_ ?_
   | refine LeO.bind ?_ (fun _ => ?_)
  ·
   intro y0 y1 y2 y3 y4 y5 y6 y7 y8 y9
   unfold capstanlaw11_CallsRound.j2
   repeat' first
   | (with_reducible exact ih0 _ _ _ _ _ _ _)
   | (with_reducible exact ih1 _ _ _ _ _ _ _ _ _)
   | (with_reducible exact ih2 _ _ _ _ _ _ _ _ _ _)
   | (with_reducible exact ih3 _ _ _ _ _ _)
   | (with_reducible exact ih4 _ _ _ _ _ _ _)
   | (with_reducible exact calls_Check.mono _ _ _ _ _)
   | (with_reducible exact calls_Leads.mono _ _ _ _ _ _)
   | (with_reducible exact capstanlaw11_awake.mono _)
   | (with_reducible exact capstanlaw11_made.mono _ _ _)
   | (with_reducible exact LeO.refl _)
   | (with_reducible exact LeO.none _)
   | (with_reducible refine LeO.ite ?_ ?_)
   | (with_reducible refine LeO.bind ?_ (fun _ => ?_))
   | exact ih0 _ _ _ _ _ _ _
   | exact ih1 _ _ _ _ _ _ _ _ _
   | exact ih2 _ _ _ _ _ _ _ _ _ _
   | exact ih3 _ _ _ _ _ _
   | exact ih4 _ _ _ _ _ _ _
   | exact calls_Check.mono _ _ _ _ _
   | exact calls_Leads.mono _ _ _ _ _ _
   | exact capstanlaw11_awake.mono _
   | exact capstanlaw11_made.mono _ _ _
   | exact LeO.none _
   | refine LeO.ite ?_ ?_
   | refine LeO.bind ?_ (fun _ => ?_)
  ·
   intro y0 y1 y2 y3 y4 y5
   unfold capstanlaw11_CallsRound.j3
   repeat' first
   | (with_reducible exact ih0 _ _ _ _ _ _ _)
   | (with_reducible exact ih1 _ _ _ _ _ _ _ _ _)
   | (with_reducible exact ih2 _ _ _ _ _ _ _ _ _ _)
   | (with_reducible exact ih3 _ _ _ _ _ _)
   | (with_reducible exact ih4 _ _ _ _ _ _ _)
   | (with_reducible exact calls_Check.mono _ _ _ _ _)
   | (with_reducible exact calls_Leads.mono _ _ _ _ _ _)
   | (with_reducible exact capstanlaw11_awake.mono _)
   | (with_reducible exact capstanlaw11_made.mono _ _ _)
   | (with_reducible exact LeO.refl _)
   | (with_reducible exact LeO.none _)
   | (with_reducible refine LeO.ite ?_ ?_)
   | (with_reducible refine LeO.bind ?_ (fun _ => ?_))
   | exact ih0 _ _ _ _ _ _ _
   | exact ih1 _ _ _ _ _ _ _ _ _
   | exact ih2 _ _ _ _ _ _ _ _ _ _
   | exact ih3 _ _ _ _ _ _
   | exact ih4 _ _ _ _ _ _ _
   | exact calls_Check.mono _ _ _ _ _
   | exact calls_Leads.mono _ _ _ _ _ _
   | exact capstanlaw11_awake.mono _
   | exact capstanlaw11_made.mono _ _ _
   | exact LeO.none _
   | refine LeO.ite ?_ ?_
   | refine LeO.bind ?_ (fun _ => ?_)
  ·
   intro y0 y1 y2 y3 y4 y5 y6
   unfold capstanlaw11_CallsRound.l2
   repeat' first
   | (with_reducible exact ih0 _ _ _ _ _ _ _)
   | (with_reducible exact ih1 _ _ _ _ _ _ _ _ _)
   | (with_reducible exact ih2 _ _ _ _ _ _ _ _ _ _)
   | (with_reducible exact ih3 _ _ _ _ _ _)
   | (with_reducible exact ih4 _ _ _ _ _ _ _)
   | (with_reducible exact calls_Check.mono _ _ _ _ _)
   | (with_reducible exact calls_Leads.mono _ _ _ _ _ _)
   | (with_reducible exact capstanlaw11_awake.mono _)
   | (with_reducible exact capstanlaw11_made.mono _ _ _)
   | (with_reducible exact LeO.refl _)
   | (with_reducible exact LeO.none _)
   | (with_reducible refine LeO.ite ?_ ?_)
   | (with_reducible refine LeO.bind ?_ (fun _ => ?_))
   | exact ih0 _ _ _ _ _ _ _
   | exact ih1 _ _ _ _ _ _ _ _ _
   | exact ih2 _ _ _ _ _ _ _ _ _ _
   | exact ih3 _ _ _ _ _ _
   | exact ih4 _ _ _ _ _ _ _
   | exact calls_Check.mono _ _ _ _ _
   | exact calls_Leads.mono _ _ _ _ _ _
   | exact capstanlaw11_awake.mono _
   | exact capstanlaw11_made.mono _ _ _
   | exact LeO.none _
   | refine LeO.ite ?_ ?_
   | refine LeO.bind ?_ (fun _ => ?_)
theorem capstanlaw11_CallsRound.mono : ∀ a0 a1 a2 a3 a4 k, LeO (capstanlaw11_CallsRound.f k a0 a1 a2 a3 a4) (capstanlaw11_CallsRound.f (k + 1) a0 a1 a2 a3 a4) := by
 intro a0 a1 a2 a3 a4 k
 obtain ⟨ih0, ih1, ih2, ih3, ih4⟩ := capstanlaw11_CallsRound.mono_l k
 unfold capstanlaw11_CallsRound.f
 repeat' first
   | (with_reducible exact ih0 _ _ _ _ _ _ _)
   | (with_reducible exact ih1 _ _ _ _ _ _ _ _ _)
   | (with_reducible exact ih2 _ _ _ _ _ _ _ _ _ _)
   | (with_reducible exact ih3 _ _ _ _ _ _)
   | (with_reducible exact ih4 _ _ _ _ _ _ _)
   | (with_reducible exact calls_Check.mono _ _ _ _ _)
   | (with_reducible exact calls_Leads.mono _ _ _ _ _ _)
   | (with_reducible exact capstanlaw11_awake.mono _)
   | (with_reducible exact capstanlaw11_made.mono _ _ _)
   | (with_reducible exact LeO.refl _)
   | (with_reducible exact LeO.none _)
   | (with_reducible refine LeO.ite ?_ ?_)
   | (with_reducible refine LeO.bind ?_ (fun _ => ?_))
   | exact ih0 _ _ _ _ _ _ _
   | exact ih1 _ _ _ _ _ _ _ _ _
   | exact ih2 _ _ _ _ _ _ _ _ _ _
   | exact ih3 _ _ _ _ _ _
   | exact ih4 _ _ _ _ _ _ _
   | exact calls_Check.mono _ _ _ _ _
   | exact calls_Leads.mono _ _ _ _ _ _
   | exact capstanlaw11_awake.mono _
   | exact capstanlaw11_made.mono _ _ _
   | exact LeO.none _
   | refine LeO.ite ?_ ?_
   | refine LeO.bind ?_ (fun _ => ?_)
def capstanlaw11_CallsRound.T4 : Bool × List (List Nat × List Nat) := (true, [([], []), ([0], [0]), ([], []), ([2], [2]), ([1, 3], [1, 3]), ([4], [4]), ([], []), ([6], [6]), ([], []), ([8], [8]), ([7, 9], [7, 9]), ([10], [10]), ([5, 0, 1, 2, 3, 4, 5], [0, 5]), ([11, 12, 0, 1, 2, 3, 4, 5, 6, 7, 8, 9, 10, 11, 12], [6, 11])])
def capstanlaw11_CallsRound.B4 : List Nat := [0, 1, 0, 4, 15, 31, 0, 64, 0, 256, 960, 1984, 63, 8191]
theorem capstanlaw11_CallsRound.tab4 : rtab .any (opsOf Try.f7 4) = capstanlaw11_CallsRound.T4 := by kernel_rfl
theorem capstanlaw11_CallsRound.bits4 : waitsOk capstanlaw11_CallsRound.T4.2 capstanlaw11_CallsRound.B4 = true := by kernel_rfl
def capstanlaw11_CallsRound.T27 : Bool × List (List Nat × List Nat) := (true, [([], []), ([], []), ([], []), ([], []), ([2, 3], [2, 3]), ([4], [4]), ([], []), ([6], [6]), ([5, 7], [5, 7]), ([0, 1, 0, 1, 2, 3, 4, 5, 6, 7, 8], [0, 1]), ([9, 8, 0, 1, 2, 3, 4, 5, 6, 7, 8], [8, 9])])
def capstanlaw11_CallsRound.B27 : List Nat := [0, 0, 0, 0, 12, 28, 0, 64, 252, 511, 1023]
theorem capstanlaw11_CallsRound.tab27 : rtab .any (opsOf Try.f7 27) = capstanlaw11_CallsRound.T27 := by kernel_rfl
theorem capstanlaw11_CallsRound.bits27 : waitsOk capstanlaw11_CallsRound.T27.2 capstanlaw11_CallsRound.B27 = true := by kernel_rfl
set_option maxHeartbeats 8000000 in
set_option maxRecDepth 100000 in
theorem capstanlaw11_CallsRound.calls (k : Nat) (a0 : Int) (A1 : Option Addr) (c1 : Nat) (l1 : List Int) (a2 : Int) (a3 : Int) (a4 : Bool) (r : Bool) (w : World) (hr1 : Kd.C (Kd.int .u16) w A1 l1.length l1) (hc1 : l1.length ≤ c1) (h : capstanlaw11_CallsRound.f k a0 l1 a2 a3 a4 = some r) :
  Calls Try.prog 7 #[.int .i64 a0, .slice A1 l1.length c1, .int .i64 a2, .int .i64 a3, .bool a4] w fun e w' => e = .returned (.bool r) ∧ Below w.heap.size w w' := by
 have hu25 := Try.underlying25
 have HR1 := Aside0.mk hr1
 have HC1 := Aside0.mk hc1
 clear hr1 hc1
 have HB := Aside0.mk (Below.refl w.heap.size w)
 have H : ((capstanlaw11_awake.f k).bind fun t203 => (if t203 = true then (if (IntKind.u64.wrap (wrap64 (1 + (wrap64 (Int.tmod (IntKind.u64.wrap (a0)) 16))))) = 0 then (none) else (capstanlaw11_CallsRound.l0 k (wrap64 (1 + (wrap64 (Int.tmod (IntKind.u64.wrap (a0)) 16)))) l1 (wrap64 (Int.tmod (IntKind.u64.wrap (a2)) (IntKind.u64.wrap (wrap64 (1 + (wrap64 (Int.tmod (IntKind.u64.wrap (a0)) 16))))))) (wrap64 (Int.tmod (IntKind.u64.wrap (a3)) (IntKind.u64.wrap (wrap64 (1 + (wrap64 (Int.tmod (IntKind.u64.wrap (a0)) 16))))))) a4 ([] : List Int) 0)) else (none))) = some r := h
 clear h
 replace H := Option.bind_eq_some_iff.mp H
 obtain ⟨t203, A60, H⟩ := H
 replace H : (if t203 = true then (if (IntKind.u64.wrap (wrap64 (1 + (wrap64 (Int.tmod (IntKind.u64.wrap (a0)) 16))))) = 0 then (none) else (capstanlaw11_CallsRound.l0 k (wrap64 (1 + (wrap64 (Int.tmod (IntKind.u64.wrap (a0)) 16)))) l1 (wrap64 (Int.tmod (IntKind.u64.wrap (a2)) (IntKind.u64.wrap (wrap64 (1 + (wrap64 (Int.tmod (IntKind.u64.wrap (a0)) 16))))))) (wrap64 (Int.tmod (IntKind.u64.wrap (a3)) (IntKind.u64.wrap (wrap64 (1 + (wrap64 (Int.tmod (IntKind.u64.wrap (a0)) 16))))))) a4 ([] : List Int) 0)) else (none)) = some r := H
 have A6 := Aside0.mk A60
 clear A60
 by_cases c7 : t203 = true
 ·
  subst c7
  have H1 : (if (IntKind.u64.wrap (wrap64 (1 + (wrap64 (Int.tmod (IntKind.u64.wrap (a0)) 16))))) = 0 then (none) else (capstanlaw11_CallsRound.l0 k (wrap64 (1 + (wrap64 (Int.tmod (IntKind.u64.wrap (a0)) 16)))) l1 (wrap64 (Int.tmod (IntKind.u64.wrap (a2)) (IntKind.u64.wrap (wrap64 (1 + (wrap64 (Int.tmod (IntKind.u64.wrap (a0)) 16))))))) (wrap64 (Int.tmod (IntKind.u64.wrap (a3)) (IntKind.u64.wrap (wrap64 (1 + (wrap64 (Int.tmod (IntKind.u64.wrap (a0)) 16))))))) a4 ([] : List Int) 0)) = some r := by rw [if_pos rfl] at H; exact H
  clear H
  have H := H1
  clear H1
  by_cases c8 : (IntKind.u64.wrap (wrap64 (1 + (wrap64 (Int.tmod (IntKind.u64.wrap (a0)) 16))))) = 0
  ·
   rw [if_pos c8] at H
   exact absurd H (by simp)
  ·
   rw [if_neg c8] at H
   have c8b0 : ((IntKind.u64.wrap (wrap64 (1 + (wrap64 (Int.tmod (IntKind.u64.wrap (a0)) 16))))) == 0) = false := beq_eq_false_iff_ne.mpr c8
   have c8b1 : ((IntKind.u64.wrap (wrap64 (1 + (wrap64 (Int.tmod (IntKind.u64.wrap (a0)) 16))))) != 0) = true := bne_iff_ne.mpr c8
   have H' := Aside0.mk H
   clear H
   go_enter Try.func7, Try.ntmps7
   try go_wp2_with (first | ((with_reducible refine gate_callee (f := 36) rfl ?_); refine goesL_ (some 21) rfl rfl Try.func36 (by kernel_rfl) rfl #[] rfl (by (try simp only [List.map_toArray, List.map_cons, List.map_nil]); first | done | rfl | (simp only [List.length_drop, List.length_take]; rfl)) ?_; (with_reducible refine (capstanlaw11_awake.calls k  true _ A6.out).mono ?_); rintro e w9 ⟨rfl, hb⟩; refine ⟨_, rfl, ?_⟩; have n0_ := Aside0.mk (below_step (by repeat (first | (with_reducible first | exact HB.out | apply below_alloc | apply pw_below_drewN | apply below_drew1) | exact HB.out | exact ⟨HB.out.os, HB.out.tape, HB.out.output, HB.out.size, HB.out.block⟩)) hb); clear HB; have HB := n0_; clear n0_; (try clear hb); (try clear hb2); (try clear hk); (try clear hi)))
   (try (rw [drewN_self w9]; generalize hq_ : World.drewN w9 _ = w9; have n0_ : Aside0 (Below w.heap.size w w9) := ⟨by rw [← hq_]; exact (by repeat (first | (with_reducible first | exact HB.out | apply below_alloc | apply pw_below_drewN | apply below_drew1) | exact HB.out | exact ⟨HB.out.os, HB.out.tape, HB.out.output, HB.out.size, HB.out.block⟩))⟩; clear HB hq_; have HB := n0_; clear n0_))
   have n0_ := Aside0.mk (below_drew1 HB.out)
   clear HB
   have HB := n0_
   clear n0_
   refine start_ (n := 14) (S := fun w' => True) (ds := []) #[false, false, false, false, false, false, false, false, false, false, false, false, false, false] (by kernel_rfl) rfl rfl trivial (fun hHeld => ?_); refine with_tabW capstanlaw11_CallsRound.tab4 capstanlaw11_CallsRound.bits4 (fun HT_ HW_ => ?_)
   generalize w9.drew = w10 at HB hHeld ⊢
   refine pure_ (i := 0) (N := some 28) (v := ?_) (a' := ?_) #[true, false, false, false, false, false, false, false, false, false, false, false, false, false] rfl rfl (any_of HT_.out (by kernel_rfl)) (fun _ _ _ h => h) (Or.inl ⟨by rfl, ?_⟩) ?_ ?_
   rotate_left
   ·
    intro w'
    go_simp
    with_reducible rfl
   rotate_left
   ·
    simp only [Act.put, List.setIfInBounds_toArray, List.set_cons_zero, List.set_cons_succ, i64_w, i32_w]
    rfl
   refine pure_ (i := 1) (N := some 29) (v := ?_) (a' := ?_) #[true, true, false, false, false, false, false, false, false, false, false, false, false, false] rfl rfl (any_of HT_.out (by kernel_rfl)) (fun _ _ _ h => h) (Or.inl ⟨by rfl, ?_⟩) ?_ ?_
   rotate_left
   ·
    intro w'
    go_simp
    with_reducible rfl
   rotate_left
   ·
    simp only [Act.put, List.setIfInBounds_toArray, List.set_cons_zero, List.set_cons_succ, i64_w, i32_w]
    rfl
   refine pure_ (i := 2) (N := some 30) (v := ?_) (a' := ?_) #[true, true, true, false, false, false, false, false, false, false, false, false, false, false] rfl rfl (any_of HT_.out (by kernel_rfl)) (fun _ _ _ h => h) (Or.inl ⟨by rfl, ?_⟩) ?_ ?_
   rotate_left
   ·
    intro w'
    go_simp
    with_reducible rfl
   rotate_left
   ·
    simp only [Act.put, List.setIfInBounds_toArray, List.set_cons_zero, List.set_cons_succ, i64_w, i32_w]
    rfl
   refine pure_ (i := 3) (N := some 31) (v := ?_) (a' := ?_) #[true, true, true, true, false, false, false, false, false, false, false, false, false, false] rfl rfl (any_of HT_.out (by kernel_rfl)) (fun _ _ _ h => h) (Or.inl ⟨by rfl, ?_⟩) ?_ ?_
   rotate_left
   ·
    intro w'
    go_simp
    with_reducible rfl
   rotate_left
   ·
    simp only [Act.put, List.setIfInBounds_toArray, List.set_cons_zero, List.set_cons_succ, i64_w, i32_w]
    rfl
   refine pure_ (i := 4) (N := some 32) (v := ?_) (a' := ?_) #[true, true, true, true, true, false, false, false, false, false, false, false, false, false] rfl rfl (any_of HT_.out (by kernel_rfl)) (fun _ _ _ h => h) (Or.inl ⟨by rfl, ?_⟩) ?_ ?_
   rotate_left
   ·
    intro w'
    go_simp
    with_reducible rfl
   rotate_left
   ·
    simp only [Act.put, List.setIfInBounds_toArray, List.set_cons_zero, List.set_cons_succ, i64_w, i32_w]
    rfl
   refine pure_ (i := 5) (N := some 33) (v := ?_) (a' := ?_) #[true, true, true, true, true, true, false, false, false, false, false, false, false, false] rfl rfl (any_of HT_.out (by kernel_rfl)) (fun _ _ _ h => h) (Or.inl ⟨by rfl, ?_⟩) ?_ ?_
   rotate_left
   ·
    intro w'
    go_simp
    with_reducible rfl
   rotate_left
   ·
    simp only [Act.put, List.setIfInBounds_toArray, List.set_cons_zero, List.set_cons_succ, i64_w, i32_w]
    rfl
   refine pure_ (i := 6) (N := some 34) (v := ?_) (a' := ?_) #[true, true, true, true, true, true, true, false, false, false, false, false, false, false] rfl rfl (any_of HT_.out (by kernel_rfl)) (fun _ _ _ h => h) (Or.inl ⟨by rfl, ?_⟩) ?_ ?_
   rotate_left
   ·
    intro w'
    go_simp
    with_reducible rfl
   rotate_left
   ·
    simp only [Act.put, List.setIfInBounds_toArray, List.set_cons_zero, List.set_cons_succ, i64_w, i32_w]
    rfl
   refine pure_ (i := 7) (N := some 35) (v := ?_) (a' := ?_) #[true, true, true, true, true, true, true, true, false, false, false, false, false, false] rfl rfl (any_of HT_.out (by kernel_rfl)) (fun _ _ _ h => h) (Or.inl ⟨by rfl, ?_⟩) ?_ ?_
   rotate_left
   ·
    intro w'
    go_simp
    with_reducible rfl
   rotate_left
   ·
    simp only [Act.put, List.setIfInBounds_toArray, List.set_cons_zero, List.set_cons_succ, i64_w, i32_w]
    rfl
   refine pure_ (i := 8) (N := some 36) (v := ?_) (a' := ?_) #[true, true, true, true, true, true, true, true, true, false, false, false, false, false] rfl rfl (any_of HT_.out (by kernel_rfl)) (fun _ _ _ h => h) (Or.inl ⟨by rfl, ?_⟩) ?_ ?_
   rotate_left
   ·
    intro w'
    go_simp
    with_reducible rfl
   rotate_left
   ·
    simp only [Act.put, List.setIfInBounds_toArray, List.set_cons_zero, List.set_cons_succ, i64_w, i32_w]
    rfl
   refine pure_ (i := 9) (N := some 37) (v := ?_) (a' := ?_) #[true, true, true, true, true, true, true, true, true, true, false, false, false, false] rfl rfl (any_of HT_.out (by kernel_rfl)) (fun _ _ _ h => h) (Or.inl ⟨by rfl, ?_⟩) ?_ ?_
   rotate_left
   ·
    intro w'
    go_simp
    with_reducible rfl
   rotate_left
   ·
    simp only [Act.put, List.setIfInBounds_toArray, List.set_cons_zero, List.set_cons_succ, i64_w, i32_w]
    rfl
   refine pure_ (i := 10) (N := some 38) (v := ?_) (a' := ?_) #[true, true, true, true, true, true, true, true, true, true, true, false, false, false] rfl rfl (any_of HT_.out (by kernel_rfl)) (fun _ _ _ h => h) (Or.inl ⟨by rfl, ?_⟩) ?_ ?_
   rotate_left
   ·
    intro w'
    go_simp
    with_reducible rfl
   rotate_left
   ·
    simp only [Act.put, List.setIfInBounds_toArray, List.set_cons_zero, List.set_cons_succ, i64_w, i32_w]
    rfl
   refine pure_ (i := 11) (N := some 39) (v := ?_) (a' := ?_) #[true, true, true, true, true, true, true, true, true, true, true, true, false, false] rfl rfl (any_of HT_.out (by kernel_rfl)) (fun _ _ _ h => h) (Or.inl ⟨by rfl, ?_⟩) ?_ ?_
   rotate_left
   ·
    intro w'
    go_simp
    with_reducible rfl
   rotate_left
   ·
    simp only [Act.put, List.setIfInBounds_toArray, List.set_cons_zero, List.set_cons_succ, i64_w, i32_w]
    rfl
   refine pure_ (i := 12) (N := some 2) (v := ?_) (a' := ?_) #[true, true, true, true, true, true, true, true, true, true, true, true, true, false] rfl rfl (any_of HT_.out (by kernel_rfl)) (fun _ _ _ h => h) (Or.inl ⟨by rfl, ?_⟩) ?_ ?_
   rotate_left
   ·
    intro w'
    go_simp
    with_reducible rfl
   rotate_left
   ·
    simp only [Act.put, List.setIfInBounds_toArray, List.set_cons_zero, List.set_cons_succ, i64_w, i32_w]
    rfl
   refine pure_ (i := 13) (N := some 3) (v := ?_) (a' := ?_) #[true, true, true, true, true, true, true, true, true, true, true, true, true, true] rfl rfl (any_of HT_.out (by kernel_rfl)) (fun _ _ _ h => h) (Or.inl ⟨by rfl, ?_⟩) ?_ ?_
   rotate_left
   ·
    intro w'
    go_simp
    with_reducible rfl
   rotate_left
   ·
    simp only [Act.put, List.setIfInBounds_toArray, List.set_cons_zero, List.set_cons_succ, i64_w, i32_w]
    rfl
   refine done_ (done_of HT_.out (by kernel_rfl)) ?_
   try go_wp2
   go_loopg [11, 12] k (fun kq v11 v12 w' => ∃ (x11_1 : List Int) (x12_1 : Int), v12 = .int .i64 x12_1 ∧ Aside0 (capstanlaw11_CallsRound.l0 kq (wrap64 (1 + (wrap64 (Int.tmod (IntKind.u64.wrap (a0)) 16)))) l1 (wrap64 (Int.tmod (IntKind.u64.wrap (a2)) (IntKind.u64.wrap (wrap64 (1 + (wrap64 (Int.tmod (IntKind.u64.wrap (a0)) 16))))))) (wrap64 (Int.tmod (IntKind.u64.wrap (a3)) (IntKind.u64.wrap (wrap64 (1 + (wrap64 (Int.tmod (IntKind.u64.wrap (a0)) 16))))))) a4 x11_1 x12_1 = some r) ∧ Aside0 (kq ≤ k) ∧ Aside0 (Kd.R (Kd.int .u16) 66 w' w.heap.size (fun _ => True) v11 x11_1) ∧ Aside0 (Below w.heap.size w w'))
   case atStart => exact ⟨(([] : List Int)), (0), (by first | rfl | (simp; done) | (simp [*]; done)), H', ⟨Nat.le_refl _⟩, ⟨by first | exact Kd.R_nil _ _ _ _ _ | exact Kd.N_nil _ _ _ _ _ | exact Kd.V_nil _ _ _ _ _ | exact Kd.Q_nil _ _ _ _ _ | exact Kd.S_nil _ _ _ _ _⟩, ⟨by repeat (first | (with_reducible first | exact HB.out | apply below_alloc | apply pw_below_drewN | apply below_drew1) | exact HB.out | exact ⟨HB.out.os, HB.out.tape, HB.out.output, HB.out.size, HB.out.block⟩)⟩⟩
   case round =>
    clear H'
    try clear c1
    try clear p2
    try clear c3
    try clear p6
    try clear c7
    try clear c8
    try clear c8b0
    try clear c8b1
    obtain ⟨x11_1, x12_1, rfl, HA, HK1, HO_11, HB⟩ := hrel
    cases gk with
    | zero => exact absurd HA.out (by simp [capstanlaw11_CallsRound.l0])
    | succ k1 =>
     have H := HA.out
     clear HA
     simp only [capstanlaw11_CallsRound.l0] at H
     by_cases c11 : x12_1 < (wrap64 (1 + (wrap64 (Int.tmod (IntKind.u64.wrap (a0)) 16))))
     ·
      rw [if_pos c11] at H
      have c11b0 : decide (x12_1 < (wrap64 (1 + (wrap64 (Int.tmod (IntKind.u64.wrap (a0)) 16))))) = true := decide_eq_true c11
      clear c11
      have H' := Aside0.mk H
      clear H
      go_wp2
      go_loopg [13, 14] k1 (fun kq v13 v14 w' => ∃ (x13_2 : Int) (x14_2 : Int), v13 = .int .u16 x13_2 ∧ v14 = .int .i64 x14_2 ∧ Aside0 (capstanlaw11_CallsRound.l1 kq (wrap64 (1 + (wrap64 (Int.tmod (IntKind.u64.wrap (a0)) 16)))) l1 (wrap64 (Int.tmod (IntKind.u64.wrap (a2)) (IntKind.u64.wrap (wrap64 (1 + (wrap64 (Int.tmod (IntKind.u64.wrap (a0)) 16))))))) (wrap64 (Int.tmod (IntKind.u64.wrap (a3)) (IntKind.u64.wrap (wrap64 (1 + (wrap64 (Int.tmod (IntKind.u64.wrap (a0)) 16))))))) a4 x11_1 x12_1 x13_2 x14_2 = some r) ∧ Aside0 (kq ≤ k1) ∧ Aside0 (Kd.R (Kd.int .u16) 66 w' w.heap.size (fun _ => True) u11 x11_1) ∧ Aside0 (Below w.heap.size w w'))
      case atStart => exact ⟨(0), (0), (by first | rfl | (simp; done) | (simp [*]; done)), (by first | rfl | (simp; done) | (simp [*]; done)), H', ⟨Nat.le_refl _⟩, ⟨by (with_reducible repeat (first | apply Kd.R_alloc | apply Kd.R_drewN | apply Kd.R_drew)); first | exact HO_11.out | exact Kd.R_mono (HO_11.out) (fun _ h_ => h_.2)⟩, ⟨by repeat (first | (with_reducible first | exact HB.out | apply below_alloc | apply pw_below_drewN | apply below_drew1) | exact HB.out | exact ⟨HB.out.os, HB.out.tape, HB.out.output, HB.out.size, HB.out.block⟩)⟩⟩
      case round =>
       clear H'
       try clear c1
       try clear p2
       try clear c3
       try clear p6
       try clear c7
       try clear c8
       try clear c8b0
       try clear c8b1
       try clear c11
       try clear c11b0
       try clear p2
       try clear p6
       obtain ⟨x13_2, x14_2, rfl, rfl, HA, HK2, HO_11, HB⟩ := hrel
       cases gk with
       | zero => exact absurd HA.out (by simp [capstanlaw11_CallsRound.l1])
       | succ k2 =>
        have H := HA.out
        clear HA
        simp only [capstanlaw11_CallsRound.l1] at H
        have HC12 := Aside0.mk H
        clear H
        go_upto_region 11 with (fail)
        go_cut [53] (fun v53 wc => ∃ (kq : Nat) (x53_11 : Bool), v53 = .bool x53_11 ∧ Aside0 (capstanlaw11_CallsRound.j2 kq (wrap64 (1 + (wrap64 (Int.tmod (IntKind.u64.wrap (a0)) 16)))) l1 (wrap64 (Int.tmod (IntKind.u64.wrap (a2)) (IntKind.u64.wrap (wrap64 (1 + (wrap64 (Int.tmod (IntKind.u64.wrap (a0)) 16))))))) (wrap64 (Int.tmod (IntKind.u64.wrap (a3)) (IntKind.u64.wrap (wrap64 (1 + (wrap64 (Int.tmod (IntKind.u64.wrap (a0)) 16))))))) a4 x11_1 x12_1 x13_2 x14_2 x53_11 = some r) ∧ Aside0 (kq ≤ k2) ∧ Aside0 (Kd.R (Kd.int .u16) 66 wc w.heap.size (fun _ => True) u11 x11_1) ∧ Aside0 (Below w.heap.size w wc))
        case first =>
         have H := HC12.out
         clear HC12
         by_cases c13 : x14_2 < (wrap64 (1 + (wrap64 (Int.tmod (IntKind.u64.wrap (a0)) 16))))
         ·
          rw [if_pos c13] at H
          have c13b0 : decide (x14_2 < (wrap64 (1 + (wrap64 (Int.tmod (IntKind.u64.wrap (a0)) 16))))) = true := decide_eq_true c13
          clear c13
          (first | rw [c13b0] | (simp only [i64_w, i32_w]; rw [c13b0]) | skip)
          have H' := Aside0.mk H
          clear H
          go_wp2
          go_meet
          case rel => exact ⟨_, (decide (x12_1 < (l1.length : Int))), (by first | rfl | (simp; done) | (simp [*]; done)), H', ⟨by have := HK1.out; have := HK2.out; first | omega | exact Nat.le_refl _⟩, ⟨by (with_reducible repeat (first | apply Kd.R_alloc | apply Kd.R_drewN | apply Kd.R_drew)); first | exact HO_11.out | exact Kd.R_mono (HO_11.out) (fun _ h_ => h_.2)⟩, ⟨by repeat (first | (with_reducible first | exact HB.out | apply below_alloc | apply pw_below_drewN | apply below_drew1) | exact HB.out | exact ⟨HB.out.os, HB.out.tape, HB.out.output, HB.out.size, HB.out.block⟩)⟩⟩
         ·
          rw [if_neg c13] at H
          have c13b0 : decide (x14_2 < (wrap64 (1 + (wrap64 (Int.tmod (IntKind.u64.wrap (a0)) 16))))) = false := decide_eq_false c13
          clear c13
          (first | rw [c13b0] | (simp only [i64_w, i32_w]; rw [c13b0]) | skip)
          have H' := Aside0.mk H
          clear H
          go_wp2
          go_meet
          case rel => exact ⟨_, (false), (by first | rfl | (simp; done) | (simp [*]; done)), H', ⟨by have := HK1.out; have := HK2.out; first | omega | exact Nat.le_refl _⟩, ⟨by (with_reducible repeat (first | apply Kd.R_alloc | apply Kd.R_drewN | apply Kd.R_drew)); first | exact HO_11.out | exact Kd.R_mono (HO_11.out) (fun _ h_ => h_.2)⟩, ⟨by repeat (first | (with_reducible first | exact HB.out | apply below_alloc | apply pw_below_drewN | apply below_drew1) | exact HB.out | exact ⟨HB.out.os, HB.out.tape, HB.out.output, HB.out.size, HB.out.block⟩)⟩⟩
        case rest =>
         clear HC12
         try clear c1
         try clear p2
         try clear c3
         try clear p6
         try clear c7
         try clear c8
         try clear c8b0
         try clear c8b1
         try clear c11
         try clear c11b0
         try clear c13
         try clear c13b0
         try clear p2
         try clear p6
         obtain ⟨kq, x53_11, rfl, HA, HJ11, HO_11, HB⟩ := hcut
         cases kq with
         | zero => exact absurd HA.out (by simp [capstanlaw11_CallsRound.j2])
         | succ kj11 =>
          have H := HA.out
          clear HA
          simp only [capstanlaw11_CallsRound.j2] at H
          by_cases c14 : x53_11 = true
          ·
           subst c14
           have H1 : (if ((decide (x14_2 > x12_1)) != a4) = true then (if x14_2 = x12_1 then (capstanlaw11_CallsRound.l1 kj11 (wrap64 (1 + (wrap64 (Int.tmod (IntKind.u64.wrap (a0)) 16)))) l1 (wrap64 (Int.tmod (IntKind.u64.wrap (a2)) (IntKind.u64.wrap (wrap64 (1 + (wrap64 (Int.tmod (IntKind.u64.wrap (a0)) 16))))))) (wrap64 (Int.tmod (IntKind.u64.wrap (a3)) (IntKind.u64.wrap (wrap64 (1 + (wrap64 (Int.tmod (IntKind.u64.wrap (a0)) 16))))))) a4 x11_1 x12_1 x13_2 (wrap64 (x14_2 + 1))) else (if 0 ≤ x12_1 then (if x12_1 < (l1.length : Int) then (if 0 ≤ x14_2 then (if (Go.bits .and .u16 (shr .u16 (rd l1 x12_1) x14_2) 1) = 1 then (capstanlaw11_CallsRound.l1 kj11 (wrap64 (1 + (wrap64 (Int.tmod (IntKind.u64.wrap (a0)) 16)))) l1 (wrap64 (Int.tmod (IntKind.u64.wrap (a2)) (IntKind.u64.wrap (wrap64 (1 + (wrap64 (Int.tmod (IntKind.u64.wrap (a0)) 16))))))) (wrap64 (Int.tmod (IntKind.u64.wrap (a3)) (IntKind.u64.wrap (wrap64 (1 + (wrap64 (Int.tmod (IntKind.u64.wrap (a0)) 16))))))) a4 x11_1 x12_1 (Go.bits .or .u16 x13_2 (shl .u16 1 x14_2)) (wrap64 (x14_2 + 1))) else (capstanlaw11_CallsRound.l1 kj11 (wrap64 (1 + (wrap64 (Int.tmod (IntKind.u64.wrap (a0)) 16)))) l1 (wrap64 (Int.tmod (IntKind.u64.wrap (a2)) (IntKind.u64.wrap (wrap64 (1 + (wrap64 (Int.tmod (IntKind.u64.wrap (a0)) 16))))))) (wrap64 (Int.tmod (IntKind.u64.wrap (a3)) (IntKind.u64.wrap (wrap64 (1 + (wrap64 (Int.tmod (IntKind.u64.wrap (a0)) 16))))))) a4 x11_1 x12_1 x13_2 (wrap64 (x14_2 + 1)))) else (none)) else (none)) else (none))) else (capstanlaw11_CallsRound.l1 kj11 (wrap64 (1 + (wrap64 (Int.tmod (IntKind.u64.wrap (a0)) 16)))) l1 (wrap64 (Int.tmod (IntKind.u64.wrap (a2)) (IntKind.u64.wrap (wrap64 (1 + (wrap64 (Int.tmod (IntKind.u64.wrap (a0)) 16))))))) (wrap64 (Int.tmod (IntKind.u64.wrap (a3)) (IntKind.u64.wrap (wrap64 (1 + (wrap64 (Int.tmod (IntKind.u64.wrap (a0)) 16))))))) a4 x11_1 x12_1 x13_2 (wrap64 (x14_2 + 1)))) = some r := by rw [if_pos rfl] at H; exact H
           clear H
           have H := H1
           clear H1
           by_cases c15 : ((decide (x14_2 > x12_1)) != a4) = true
           ·
            rw [if_pos c15] at H
            have c15b0 : ((decide (x14_2 > x12_1)) != a4) = true := c15
            (try (have c15b1 : decide ((decide (x14_2 > x12_1)) = a4) = false := by first | (simp; done) | simpa using c15))
            (try (have c15b2 : ((decide (x14_2 > x12_1)) == a4) = false := by first | (simp; done) | simpa using c15))
            (try (have c15b3 : ¬ ((decide (x14_2 > x12_1)) = a4) := by first | (simp; done) | simpa using c15))
            clear c15
            by_cases c16 : x14_2 = x12_1
            ·
             rw [if_pos c16] at H
             have c16b0 : (x14_2 == x12_1) = true := beq_iff_eq.mpr c16
             have c16b1 : (x14_2 != x12_1) = false := bne_eq_false_iff_eq.mpr c16
             clear c16
             have H' := Aside0.mk H
             clear H
             go_wp2
             go_roundg kj11
             case measure => have := HK1.out; have := HK2.out; have := HJ11.out; omega
             case rel => exact ⟨(x13_2), (wrap64 (x14_2 + 1)), (by first | rfl | (simp; done) | (simp [*]; done)), (by first | rfl | (simp; done) | (simp [*]; done)), H', ⟨by have := HK1.out; have := HK2.out; have := HJ11.out; omega⟩, ⟨by (with_reducible repeat (first | apply Kd.R_alloc | apply Kd.R_drewN | apply Kd.R_drew)); first | exact HO_11.out | exact Kd.R_mono (HO_11.out) (fun _ h_ => h_.2)⟩, ⟨by repeat (first | (with_reducible first | exact HB.out | apply below_alloc | apply pw_below_drewN | apply below_drew1) | exact HB.out | exact ⟨HB.out.os, HB.out.tape, HB.out.output, HB.out.size, HB.out.block⟩)⟩⟩
            ·
             rw [if_neg c16] at H
             have c16b0 : (x14_2 == x12_1) = false := beq_eq_false_iff_ne.mpr c16
             have c16b1 : (x14_2 != x12_1) = true := bne_iff_ne.mpr c16
             by_cases c17 : 0 ≤ x12_1
             ·
              rw [if_pos c17] at H
              have c17b0 : decide (0 ≤ x12_1) = true := decide_eq_true c17
              clear c17
              by_cases c18 : x12_1 < (l1.length : Int)
              ·
               rw [if_pos c18] at H
               have c18b0 : decide (x12_1 < (l1.length : Int)) = true := decide_eq_true c18
               clear c18
               by_cases c19 : 0 ≤ x14_2
               ·
                rw [if_pos c19] at H
                have c19b0 := eq_true c19
                have c19b1 : decide (0 ≤ x14_2) = true := decide_eq_true c19
                clear c19
                obtain ⟨ji20, hji20⟩ : ∃ j_ : Int, (shr .u16 (rd l1 x12_1) x14_2) = j_ := ⟨_, rfl⟩
                replace H : (if (Go.bits .and .u16 (ji20) 1) = 1 then (capstanlaw11_CallsRound.l1 kj11 (wrap64 (1 + (wrap64 (Int.tmod (IntKind.u64.wrap (a0)) 16)))) l1 (wrap64 (Int.tmod (IntKind.u64.wrap (a2)) (IntKind.u64.wrap (wrap64 (1 + (wrap64 (Int.tmod (IntKind.u64.wrap (a0)) 16))))))) (wrap64 (Int.tmod (IntKind.u64.wrap (a3)) (IntKind.u64.wrap (wrap64 (1 + (wrap64 (Int.tmod (IntKind.u64.wrap (a0)) 16))))))) a4 x11_1 x12_1 (Go.bits .or .u16 x13_2 (shl .u16 1 x14_2)) (wrap64 (x14_2 + 1))) else (capstanlaw11_CallsRound.l1 kj11 (wrap64 (1 + (wrap64 (Int.tmod (IntKind.u64.wrap (a0)) 16)))) l1 (wrap64 (Int.tmod (IntKind.u64.wrap (a2)) (IntKind.u64.wrap (wrap64 (1 + (wrap64 (Int.tmod (IntKind.u64.wrap (a0)) 16))))))) (wrap64 (Int.tmod (IntKind.u64.wrap (a3)) (IntKind.u64.wrap (wrap64 (1 + (wrap64 (Int.tmod (IntKind.u64.wrap (a0)) 16))))))) a4 x11_1 x12_1 x13_2 (wrap64 (x14_2 + 1)))) = some r := by first | (rw [hji20] at H; exact H) | (simp only [hji20] at H ⊢; exact H)
                have hji20_ : ((rd l1 x12_1) / 2 ^ min x14_2.toNat 16) = ji20 := hji20
                have hji20z : x14_2 ≤ 16 → ((rd l1 x12_1) / 2 ^ x14_2.toNat) = ji20 := shr_small hji20
                by_cases c21 : (Go.bits .and .u16 (ji20) 1) = 1
                ·
                 rw [if_pos c21] at H
                 have c21b0 : ((Go.bits .and .u16 (ji20) 1) == 1) = true := beq_iff_eq.mpr c21
                 have c21b1 : ((Go.bits .and .u16 (ji20) 1) != 1) = false := bne_eq_false_iff_eq.mpr c21
                 clear c21
                 have c22b0 := eq_true (of_decide_eq_true (by first | (with_reducible assumption) | assumption) : 0 ≤ x14_2)
                 obtain ⟨ji23, hji23⟩ : ∃ j_ : Int, (shl .u16 1 x14_2) = j_ := ⟨_, rfl⟩
                 replace H : (capstanlaw11_CallsRound.l1 kj11 (wrap64 (1 + (wrap64 (Int.tmod (IntKind.u64.wrap (a0)) 16)))) l1 (wrap64 (Int.tmod (IntKind.u64.wrap (a2)) (IntKind.u64.wrap (wrap64 (1 + (wrap64 (Int.tmod (IntKind.u64.wrap (a0)) 16))))))) (wrap64 (Int.tmod (IntKind.u64.wrap (a3)) (IntKind.u64.wrap (wrap64 (1 + (wrap64 (Int.tmod (IntKind.u64.wrap (a0)) 16))))))) a4 x11_1 x12_1 (Go.bits .or .u16 x13_2 (ji23)) (wrap64 (x14_2 + 1))) = some r := by first | (rw [hji23] at H; exact H) | (simp only [hji23] at H ⊢; exact H)
                 have hji23_ : (IntKind.u16.wrap (1 * 2 ^ min x14_2.toNat 16)) = ji23 := hji23
                 have hji23z : x14_2 ≤ 16 → (IntKind.u16.wrap (1 * 2 ^ x14_2.toNat)) = ji23 := shl_small hji23
                 have hji23u : (IntKind.u16.wrap (2 ^ min x14_2.toNat 16)) = ji23 := by have h_ := hji23_; rw [Int.one_mul] at h_; exact h_
                 have hji23v : x14_2 ≤ 16 → (IntKind.u16.wrap (2 ^ x14_2.toNat)) = ji23 := fun hle_ => by have h_ := hji23z hle_; rw [Int.one_mul] at h_; exact h_
                 have H' := Aside0.mk H
                 clear H
                 have p204 : 0 ≤ (x12_1 : Int) := of_decide_eq_true (by first | (with_reducible assumption) | assumption)
                 have q204 : x12_1 < (l1.length : Int) := of_decide_eq_true (by first | (with_reducible assumption) | assumption)
                 obtain ⟨ad204, e204, hx204_0⟩ := Kd.at_int HR1.out x12_1 p204 q204
                 cases e204
                 replace hx204_0 := (HB.out.cell (World.block_lt_of_cell? w _ hx204_0)).trans hx204_0
                 replace p204 := eq_true p204
                 replace q204 := eq_true q204
                 go_wp2
                 go_roundg kj11
                 case measure => have := HK1.out; have := HK2.out; have := HJ11.out; omega
                 case rel => exact ⟨(Go.bits .or .u16 x13_2 (ji23)), (wrap64 (x14_2 + 1)), (by first | rfl | (simp; done) | (simp only [← hji23] <;> (first | rfl | simp)) | (simp [*]; done)), (by first | rfl | (simp; done) | (simp [*]; done)), H', ⟨by have := HK1.out; have := HK2.out; have := HJ11.out; omega⟩, ⟨by (with_reducible repeat (first | apply Kd.R_alloc | apply Kd.R_drewN | apply Kd.R_drew)); first | exact HO_11.out | exact Kd.R_mono (HO_11.out) (fun _ h_ => h_.2)⟩, ⟨by repeat (first | (with_reducible first | exact HB.out | apply below_alloc | apply pw_below_drewN | apply below_drew1) | exact HB.out | exact ⟨HB.out.os, HB.out.tape, HB.out.output, HB.out.size, HB.out.block⟩)⟩⟩
                ·
                 rw [if_neg c21] at H
                 have c21b0 : ((Go.bits .and .u16 (ji20) 1) == 1) = false := beq_eq_false_iff_ne.mpr c21
                 have c21b1 : ((Go.bits .and .u16 (ji20) 1) != 1) = true := bne_iff_ne.mpr c21
                 have H' := Aside0.mk H
                 clear H
                 have p204 : 0 ≤ (x12_1 : Int) := of_decide_eq_true (by first | (with_reducible assumption) | assumption)
                 have q204 : x12_1 < (l1.length : Int) := of_decide_eq_true (by first | (with_reducible assumption) | assumption)
                 obtain ⟨ad204, e204, hx204_0⟩ := Kd.at_int HR1.out x12_1 p204 q204
                 cases e204
                 replace hx204_0 := (HB.out.cell (World.block_lt_of_cell? w _ hx204_0)).trans hx204_0
                 replace p204 := eq_true p204
                 replace q204 := eq_true q204
                 go_wp2
                 go_roundg kj11
                 case measure => have := HK1.out; have := HK2.out; have := HJ11.out; omega
                 case rel => exact ⟨(x13_2), (wrap64 (x14_2 + 1)), (by first | rfl | (simp; done) | (simp [*]; done)), (by first | rfl | (simp; done) | (simp [*]; done)), H', ⟨by have := HK1.out; have := HK2.out; have := HJ11.out; omega⟩, ⟨by (with_reducible repeat (first | apply Kd.R_alloc | apply Kd.R_drewN | apply Kd.R_drew)); first | exact HO_11.out | exact Kd.R_mono (HO_11.out) (fun _ h_ => h_.2)⟩, ⟨by repeat (first | (with_reducible first | exact HB.out | apply below_alloc | apply pw_below_drewN | apply below_drew1) | exact HB.out | exact ⟨HB.out.os, HB.out.tape, HB.out.output, HB.out.size, HB.out.block⟩)⟩⟩
               ·
                rw [if_neg c19] at H
                exact absurd H (by simp)
              ·
               rw [if_neg c18] at H
               exact absurd H (by simp)
             ·
              rw [if_neg c17] at H
              exact absurd H (by simp)
           ·
            rw [if_neg c15] at H
            have c15b0 : ((decide (x14_2 > x12_1)) != a4) = false := by simpa using c15
            (try (have c15b1 : decide ((decide (x14_2 > x12_1)) = a4) = true := by first | (simp; done) | simpa using c15))
            (try (have c15b2 : ((decide (x14_2 > x12_1)) == a4) = true := by first | (simp; done) | simpa using c15))
            clear c15
            have H' := Aside0.mk H
            clear H
            go_wp2
            go_roundg kj11
            case measure => have := HK1.out; have := HK2.out; have := HJ11.out; omega
            case rel => exact ⟨(x13_2), (wrap64 (x14_2 + 1)), (by first | rfl | (simp; done) | (simp [*]; done)), (by first | rfl | (simp; done) | (simp [*]; done)), H', ⟨by have := HK1.out; have := HK2.out; have := HJ11.out; omega⟩, ⟨by (with_reducible repeat (first | apply Kd.R_alloc | apply Kd.R_drewN | apply Kd.R_drew)); first | exact HO_11.out | exact Kd.R_mono (HO_11.out) (fun _ h_ => h_.2)⟩, ⟨by repeat (first | (with_reducible first | exact HB.out | apply below_alloc | apply pw_below_drewN | apply below_drew1) | exact HB.out | exact ⟨HB.out.os, HB.out.tape, HB.out.output, HB.out.size, HB.out.block⟩)⟩⟩
          ·
           replace c14 := Bool.eq_false_iff.mpr c14
           subst c14
           have H1 : (if x11_1.length < 70368744177664 then (capstanlaw11_CallsRound.l0 kj11 (wrap64 (1 + (wrap64 (Int.tmod (IntKind.u64.wrap (a0)) 16)))) l1 (wrap64 (Int.tmod (IntKind.u64.wrap (a2)) (IntKind.u64.wrap (wrap64 (1 + (wrap64 (Int.tmod (IntKind.u64.wrap (a0)) 16))))))) (wrap64 (Int.tmod (IntKind.u64.wrap (a3)) (IntKind.u64.wrap (wrap64 (1 + (wrap64 (Int.tmod (IntKind.u64.wrap (a0)) 16))))))) a4 (x11_1 ++ [x13_2]) (wrap64 (x12_1 + 1))) else (none)) = some r := by rw [if_neg (show ¬ (false = true) by decide)] at H; exact H
           clear H
           have H := H1
           clear H1
           by_cases c24 : x11_1.length < 70368744177664
           ·
            rw [if_pos c24] at H
            have LMc24 := Aside0.mk c24
            clear c24
            obtain ⟨y205, hy205⟩ : ∃ y_ : List Int, y_ = (x11_1 ++ [x13_2]) := ⟨_, rfl⟩
            replace H : (capstanlaw11_CallsRound.l0 kj11 (wrap64 (1 + (wrap64 (Int.tmod (IntKind.u64.wrap (a0)) 16)))) l1 (wrap64 (Int.tmod (IntKind.u64.wrap (a2)) (IntKind.u64.wrap (wrap64 (1 + (wrap64 (Int.tmod (IntKind.u64.wrap (a0)) 16))))))) (wrap64 (Int.tmod (IntKind.u64.wrap (a3)) (IntKind.u64.wrap (wrap64 (1 + (wrap64 (Int.tmod (IntKind.u64.wrap (a0)) 16))))))) a4 y205 (wrap64 (x12_1 + 1))) = some r := by first | (rw [hy205]; with_reducible exact H) | (have H2_ := (Option.bind_some _ _).symm.trans H; rw [hy205]; with_reducible exact H2_) | (have H2_ := (Option.bind_some _ _).symm.trans H; with_reducible exact H2_) | with_reducible exact H | (rw [hy205]; exact H) | exact H
            have Ny205 := Aside0.mk hy205
            clear hy205
            have H' := Aside0.mk H
            clear H
            go_wp2_with (first | ((with_reducible refine gate_builtin (b := .append) (xs := #[.tmp 80, .tmp 82]) rfl ?_); (try (refine gate_guard (by rfl) ?_; dsimp only)); at_builtin; refine Kd.R_append (Kd.int .u16) (w0 := w) w.heap.size rfl (.tmp 80) (.tmp 82) 64 66 (.int .u16 0) 2 rfl Try.underlying64 info66 rfl (by decide) (by omega) u11 x11_1 x13_2 [.int .u16 x13_2] (fun _ => True) (fun _ => False) rfl rfl ?aP (fun _ hk => hk.elim) ?aF ?aO ?aB ?aS ?aL ?_; (case aP => exact rfl); (case aB => exact (by repeat (first | (with_reducible first | exact HB.out | apply below_alloc | apply pw_below_drewN | apply below_drew1) | exact HB.out | exact ⟨HB.out.os, HB.out.tape, HB.out.output, HB.out.size, HB.out.block⟩))); (case aF => exact (fun _ _ => trivial)); (case aO => exact (by (with_reducible repeat (first | apply Kd.R_alloc | apply Kd.R_drewN | apply Kd.R_drew)); first | exact HO_11.out | exact Kd.R_mono (HO_11.out) (fun _ h_ => h_.2))); (case aS => exact (below_size (by repeat (first | (with_reducible first | exact HB.out | apply below_alloc | apply pw_below_drewN | apply below_drew1) | exact HB.out | exact ⟨HB.out.os, HB.out.tape, HB.out.output, HB.out.size, HB.out.block⟩)))); (case aL => have := LMc24.out; omega); intro v206 w25 ho hb hg hat; rw [← Ny205.out] at ho; have n0_ := Aside0.mk (hb); have n1_ := Aside0.mk (ho); clear HB; clear HO_11; have HB := n0_; have HO207 := n1_; clear n0_ n1_; clear ho hb hg hat))
            go_roundg kj11
            case measure => have := HK1.out; have := HK2.out; have := HJ11.out; omega
            case rel => exact ⟨(y205), (wrap64 (x12_1 + 1)), (by first | rfl | (simp; done) | (simp [*]; done)), H', ⟨by have := HK1.out; have := HK2.out; have := HJ11.out; omega⟩, ⟨by (with_reducible repeat (first | apply Kd.R_alloc | apply Kd.R_drewN | apply Kd.R_drew)); first | exact HO207.out | exact Kd.R_mono (HO207.out) (fun _ h_ => h_.2)⟩, ⟨by repeat (first | (with_reducible first | exact HB.out | apply below_alloc | apply pw_below_drewN | apply below_drew1) | exact HB.out | exact ⟨HB.out.os, HB.out.tape, HB.out.output, HB.out.size, HB.out.block⟩)⟩⟩
           ·
            rw [if_neg c24] at H
            exact absurd H (by simp)
     ·
      rw [if_neg c11] at H
      have c11b0 : decide (x12_1 < (wrap64 (1 + (wrap64 (Int.tmod (IntKind.u64.wrap (a0)) 16))))) = false := decide_eq_false c11
      clear c11
      replace H := Option.bind_eq_some_iff.mp H
      obtain ⟨⟨t208, t211, t214, t217⟩, A260, H⟩ := H
      replace H : ((calls_Check.f k1 t208 t211 t214 t217).bind fun t219 => (if t219 = 0 then ((calls_Leads.f k1 t208 t211 t214 t217 (wrap64 (Int.tmod (IntKind.u64.wrap (a2)) (IntKind.u64.wrap (wrap64 (1 + (wrap64 (Int.tmod (IntKind.u64.wrap (a0)) 16)))))))).bind fun bt220 => (if bt220.2 = 0 then (capstanlaw11_CallsRound.j3 k1 (wrap64 (1 + (wrap64 (Int.tmod (IntKind.u64.wrap (a0)) 16)))) (wrap64 (Int.tmod (IntKind.u64.wrap (a2)) (IntKind.u64.wrap (wrap64 (1 + (wrap64 (Int.tmod (IntKind.u64.wrap (a0)) 16))))))) (wrap64 (Int.tmod (IntKind.u64.wrap (a3)) (IntKind.u64.wrap (wrap64 (1 + (wrap64 (Int.tmod (IntKind.u64.wrap (a0)) 16))))))) x11_1 bt220.1 ((wrap64 (Int.tmod (IntKind.u64.wrap (a2)) (IntKind.u64.wrap (wrap64 (1 + (wrap64 (Int.tmod (IntKind.u64.wrap (a0)) 16))))))) == (wrap64 (Int.tmod (IntKind.u64.wrap (a3)) (IntKind.u64.wrap (wrap64 (1 + (wrap64 (Int.tmod (IntKind.u64.wrap (a0)) 16))))))))) else (none))) else (none))) = some r := H
      have A26 := Aside0.mk A260
      clear A260
      replace H := Option.bind_eq_some_iff.mp H
      obtain ⟨t219, A270, H⟩ := H
      replace H : (if t219 = 0 then ((calls_Leads.f k1 t208 t211 t214 t217 (wrap64 (Int.tmod (IntKind.u64.wrap (a2)) (IntKind.u64.wrap (wrap64 (1 + (wrap64 (Int.tmod (IntKind.u64.wrap (a0)) 16)))))))).bind fun bt220 => (if bt220.2 = 0 then (capstanlaw11_CallsRound.j3 k1 (wrap64 (1 + (wrap64 (Int.tmod (IntKind.u64.wrap (a0)) 16)))) (wrap64 (Int.tmod (IntKind.u64.wrap (a2)) (IntKind.u64.wrap (wrap64 (1 + (wrap64 (Int.tmod (IntKind.u64.wrap (a0)) 16))))))) (wrap64 (Int.tmod (IntKind.u64.wrap (a3)) (IntKind.u64.wrap (wrap64 (1 + (wrap64 (Int.tmod (IntKind.u64.wrap (a0)) 16))))))) x11_1 bt220.1 ((wrap64 (Int.tmod (IntKind.u64.wrap (a2)) (IntKind.u64.wrap (wrap64 (1 + (wrap64 (Int.tmod (IntKind.u64.wrap (a0)) 16))))))) == (wrap64 (Int.tmod (IntKind.u64.wrap (a3)) (IntKind.u64.wrap (wrap64 (1 + (wrap64 (Int.tmod (IntKind.u64.wrap (a0)) 16))))))))) else (none))) else (none)) = some r := H
      have A27 := Aside0.mk A270
      clear A270
      by_cases c28 : t219 = 0
      ·
       rw [if_pos c28] at H
       have c28b0 : (t219 == 0) = true := beq_iff_eq.mpr c28
       have c28b1 : (t219 != 0) = false := bne_eq_false_iff_eq.mpr c28
       clear c28
       replace H := Option.bind_eq_some_iff.mp H
       obtain ⟨⟨t220, t223⟩, A290, H⟩ := H
       replace H : (if t223 = 0 then (capstanlaw11_CallsRound.j3 k1 (wrap64 (1 + (wrap64 (Int.tmod (IntKind.u64.wrap (a0)) 16)))) (wrap64 (Int.tmod (IntKind.u64.wrap (a2)) (IntKind.u64.wrap (wrap64 (1 + (wrap64 (Int.tmod (IntKind.u64.wrap (a0)) 16))))))) (wrap64 (Int.tmod (IntKind.u64.wrap (a3)) (IntKind.u64.wrap (wrap64 (1 + (wrap64 (Int.tmod (IntKind.u64.wrap (a0)) 16))))))) x11_1 t220 ((wrap64 (Int.tmod (IntKind.u64.wrap (a2)) (IntKind.u64.wrap (wrap64 (1 + (wrap64 (Int.tmod (IntKind.u64.wrap (a0)) 16))))))) == (wrap64 (Int.tmod (IntKind.u64.wrap (a3)) (IntKind.u64.wrap (wrap64 (1 + (wrap64 (Int.tmod (IntKind.u64.wrap (a0)) 16))))))))) else (none)) = some r := H
       have A29 := Aside0.mk A290
       clear A290
       by_cases c30 : t223 = 0
       ·
        rw [if_pos c30] at H
        have c30b0 : (t223 == 0) = true := beq_iff_eq.mpr c30
        have c30b1 : (t223 != 0) = false := bne_eq_false_iff_eq.mpr c30
        clear c30
        have HC31 := Aside0.mk H
        clear H
        obtain ⟨Ao32, co32, eo32⟩ := Kd.R_slice HO_11.out
        subst eo32
        go_upto_region 22 with (first | ((with_reducible refine gate_callee (f := 37) rfl ?_); refine goesL_ (some 86) rfl rfl Try.func37 (by kernel_rfl) rfl #[.int .i64 (wrap64 (1 + (wrap64 (Int.tmod (IntKind.u64.wrap (a0)) 16)))), .slice Ao32 x11_1.length co32] rfl (by (try simp only [List.map_toArray, List.map_cons, List.map_nil]); first | done | rfl | (simp only [List.length_drop, List.length_take]; rfl)) ?_; (with_reducible refine (capstanlaw11_made.calls k1 (wrap64 (1 + (wrap64 (Int.tmod (IntKind.u64.wrap (a0)) 16)))) _ _ x11_1 t208 t211 t214 t217 _ ?side1 ?side2 A26.out).mono ?_); (case side1 => repeat (first | exact (Kd.R_reads' HO_11.out).2.2 | (with_reducible refine Kd.C_alloc ?_ _) | (with_reducible refine Kd.C_drewN ?_ _) | (with_reducible refine Kd.C_drew ?_))); (case side2 => exact (Kd.R_reads' HO_11.out).2.1); rintro e w33 ⟨v209, v212, v215, rfl, ho0, ho1, ho2, hb⟩; refine ⟨_, rfl, ?_⟩; have n0_ := Aside0.mk (Kd.R_below (by (with_reducible repeat (first | apply Kd.R_alloc | apply Kd.R_drewN | apply Kd.R_drew)); first | exact HO_11.out | exact Kd.R_mono (HO_11.out) (fun _ h_ => h_.2)) hb); have n1_ := Aside0.mk (Kd.R_lower ho0 (below_size (by repeat (first | (with_reducible first | exact HB.out | apply below_alloc | apply pw_below_drewN | apply below_drew1) | exact HB.out | exact ⟨HB.out.os, HB.out.tape, HB.out.output, HB.out.size, HB.out.block⟩)))); have n2_ := Aside0.mk (Kd.R_lower ho1 (below_size (by repeat (first | (with_reducible first | exact HB.out | apply below_alloc | apply pw_below_drewN | apply below_drew1) | exact HB.out | exact ⟨HB.out.os, HB.out.tape, HB.out.output, HB.out.size, HB.out.block⟩)))); have n3_ := Aside0.mk (Kd.S_lower ho2 (below_size (by repeat (first | (with_reducible first | exact HB.out | apply below_alloc | apply pw_below_drewN | apply below_drew1) | exact HB.out | exact ⟨HB.out.os, HB.out.tape, HB.out.output, HB.out.size, HB.out.block⟩)))); have n4_ := Aside0.mk (below_step (by repeat (first | (with_reducible first | exact HB.out | apply below_alloc | apply pw_below_drewN | apply below_drew1) | exact HB.out | exact ⟨HB.out.os, HB.out.tape, HB.out.output, HB.out.size, HB.out.block⟩)) hb); clear HO_11; clear HB; have HO_11 := n0_; have HO210 := n1_; have HO213 := n2_; have HO216 := n3_; have HB := n4_; clear n0_ n1_ n2_ n3_ n4_; (try clear hb); (try clear hb2); (try clear hk); (try clear hi); (try clear ho0); (try clear ho1); (try clear ho2)) | ((with_reducible refine gate_dst (N := 15) rfl ?_); (try (refine gate_guard (by rfl) ?_; dsimp only)); refine box_event ?hg (N := 15) ?hd (cs := #[.slice none 0 0, .slice none 0 0, .slice none 0 0, .int .i64 0]) (t := 25) ?hr ?_; (case hd => rfl); (case hg => rfl); (case hr => first | (go_simp; done) | (go_simp; rfl)); intro gb218 hg w34 hbox hb; have n0_ := Aside0.mk (Kd.R_below (by (with_reducible repeat (first | apply Kd.R_alloc | apply Kd.R_drewN | apply Kd.R_drew)); first | exact HO_11.out | exact Kd.R_mono (HO_11.out) (fun _ h_ => h_.2)) hb); have n1_ := Aside0.mk (Kd.R_below (by (with_reducible repeat (first | apply Kd.R_alloc | apply Kd.R_drewN | apply Kd.R_drew)); first | exact HO210.out | exact Kd.R_mono (HO210.out) (fun _ h_ => h_.2)) hb); have n2_ := Aside0.mk (Kd.R_below (by (with_reducible repeat (first | apply Kd.R_alloc | apply Kd.R_drewN | apply Kd.R_drew)); first | exact HO213.out | exact Kd.R_mono (HO213.out) (fun _ h_ => h_.2)) hb); have n3_ := Aside0.mk (Kd.S_below (by (with_reducible repeat (first | apply Kd.S_alloc | apply Kd.S_drewN | apply Kd.S_drew)); first | exact HO216.out | exact Kd.S_mono (HO216.out) (fun _ h_ => h_.2)) hb); have n4_ := Aside0.mk (below_step (by repeat (first | (with_reducible first | exact HB.out | apply below_alloc | apply pw_below_drewN | apply below_drew1) | exact HB.out | exact ⟨HB.out.os, HB.out.tape, HB.out.output, HB.out.size, HB.out.block⟩)) hb); have n5_ := Aside0.mk (hbox); have n6_ := Aside0.mk ((by rw [hg]; exact (below_size (by repeat (first | (with_reducible first | exact HB.out | apply below_alloc | apply pw_below_drewN | apply below_drew1) | exact HB.out | exact ⟨HB.out.os, HB.out.tape, HB.out.output, HB.out.size, HB.out.block⟩))) : w.heap.size ≤ gb218)); have n7_ := Aside0.mk ((by rw [hg]; exact (below_size (by repeat (first | (with_reducible first | exact HB.out | apply below_alloc | apply pw_below_drewN | apply below_drew1) | exact HB.out | exact ⟨HB.out.os, HB.out.tape, HB.out.output, HB.out.size, HB.out.block⟩))) : w.heap.size ≤ gb218)); clear HO_11; clear HO210; clear HO213; clear HO216; clear HB; have HO_11 := n0_; have HO210 := n1_; have HO213 := n2_; have HO216 := n3_; have HB := n4_; have BK218 := n5_; have GW218 := n6_; have GE218 := n7_; clear n0_ n1_ n2_ n3_ n4_ n5_ n6_ n7_; clear hb hbox hg; obtain ⟨Ao35, co35, eo35⟩ := Kd.R_slice HO210.out; subst eo35; have hcz36_0 : w34.cell? ⟨gb218, 0, none⟩ = some (.slice none 0 0) := (blk_cell BK218.out 0).trans rfl; have hcz36_1 : w34.cell? ⟨gb218, 1, none⟩ = some (.slice none 0 0) := (blk_cell BK218.out 1).trans rfl; have hcz36_2 : w34.cell? ⟨gb218, 2, none⟩ = some (.slice none 0 0) := (blk_cell BK218.out 2).trans rfl; have hcz36_3 : w34.cell? ⟨gb218, 3, none⟩ = some (.int .i64 0) := (blk_cell BK218.out 3).trans rfl; have hfz36_0 := blk_frozen BK218.out 0; have hfz36_1 := blk_frozen BK218.out 1; have hfz36_2 := blk_frozen BK218.out 2; have hfz36_3 := blk_frozen BK218.out 3; obtain ⟨Ao37, co37, eo37⟩ := Kd.R_slice HO213.out; subst eo37; obtain ⟨Ao38, co38, eo38⟩ := Kd.S_slice HO216.out; subst eo38) | ((with_reducible refine gate_callee (f := 33) rfl ?_); refine goesL_ (some 88) rfl rfl Try.func33 (by kernel_rfl) rfl #[.agg #[.slice Ao35 t208.length co35, .slice Ao37 t211.length co37, .slice Ao38 t214.length co38, .int .i64 t217]] rfl (by (try simp only [List.map_toArray, List.map_cons, List.map_nil]); first | done | rfl | (simp only [List.length_drop, List.length_take]; rfl)) ?_; (with_reducible refine (calls_Check.calls k1 _ _ t208 _ _ t211 _ _ t214 t217 t219 _ ?side1 ?side2 ?side3 ?side4 ?side5 ?side6 A27.out).mono ?_); (case side1 => refine (Kd.R_reads' (e := 86) (base := w.heap.size) (ok := fun k_ => some k_ ≠ (.slice Ao37 t211.length co37 : Value).ownBlock) (n := t208.length) (c := co35) ?_).2.2; exact (by (with_reducible repeat (first | apply Kd.R_alloc | apply Kd.R_drewN | apply Kd.R_drew)); first | exact (Kd.R_mono (Kd.R_far (p := ⟨gb218, 3, none⟩) (Kd.R_far (p := ⟨gb218, 2, none⟩) (Kd.R_far (p := ⟨gb218, 1, none⟩) (Kd.R_far (p := ⟨gb218, 0, none⟩) (Kd.R_types HO210.out BK218.out (by decide)) (fun _ hk => hk.2) (.slice Ao35 t208.length co35)) (fun _ hk => hk.2) (.slice Ao37 t211.length co37)) (fun _ hk => hk.2) (.slice Ao38 t214.length co38)) (fun _ hk => hk.2) (.int .i64 t217)) (fun _ h_ => h_.1)) | exact Kd.R_mono ((Kd.R_mono (Kd.R_far (p := ⟨gb218, 3, none⟩) (Kd.R_far (p := ⟨gb218, 2, none⟩) (Kd.R_far (p := ⟨gb218, 1, none⟩) (Kd.R_far (p := ⟨gb218, 0, none⟩) (Kd.R_types HO210.out BK218.out (by decide)) (fun _ hk => hk.2) (.slice Ao35 t208.length co35)) (fun _ hk => hk.2) (.slice Ao37 t211.length co37)) (fun _ hk => hk.2) (.slice Ao38 t214.length co38)) (fun _ hk => hk.2) (.int .i64 t217)) (fun _ h_ => h_.1))) (fun _ h_ => h_.2))); (case side2 => exact (Kd.R_reads' HO210.out).2.1); (case side3 => refine (Kd.R_reads' (e := 86) (base := w.heap.size) (ok := fun k_ => some k_ ≠ (.slice Ao35 t208.length co35 : Value).ownBlock) (n := t211.length) (c := co37) ?_).2.2; exact (by (with_reducible repeat (first | apply Kd.R_alloc | apply Kd.R_drewN | apply Kd.R_drew)); first | exact (Kd.R_mono (Kd.R_far (p := ⟨gb218, 3, none⟩) (Kd.R_far (p := ⟨gb218, 2, none⟩) (Kd.R_far (p := ⟨gb218, 1, none⟩) (Kd.R_far (p := ⟨gb218, 0, none⟩) (Kd.R_types HO213.out BK218.out (by decide)) (fun _ hk => hk.2) (.slice Ao35 t208.length co35)) (fun _ hk => hk.2) (.slice Ao37 t211.length co37)) (fun _ hk => hk.2) (.slice Ao38 t214.length co38)) (fun _ hk => hk.2) (.int .i64 t217)) (fun _ h_ => h_.1)) | exact Kd.R_mono ((Kd.R_mono (Kd.R_far (p := ⟨gb218, 3, none⟩) (Kd.R_far (p := ⟨gb218, 2, none⟩) (Kd.R_far (p := ⟨gb218, 1, none⟩) (Kd.R_far (p := ⟨gb218, 0, none⟩) (Kd.R_types HO213.out BK218.out (by decide)) (fun _ hk => hk.2) (.slice Ao35 t208.length co35)) (fun _ hk => hk.2) (.slice Ao37 t211.length co37)) (fun _ hk => hk.2) (.slice Ao38 t214.length co38)) (fun _ hk => hk.2) (.int .i64 t217)) (fun _ h_ => h_.1))) (fun _ h_ => h_.2))); (case side4 => exact (Kd.R_reads' HO213.out).2.1); (case side5 => refine (Kd.S_reads' (e := 52) (base := w.heap.size) (ok := fun k_ => True) (n := t214.length) (c := co38) ?_).2.2; exact (by (with_reducible repeat (first | apply Kd.S_alloc | apply Kd.S_drewN | apply Kd.S_drew)); first | exact (Kd.S_mono (Kd.S_far (p := ⟨gb218, 3, none⟩) (Kd.S_far (p := ⟨gb218, 2, none⟩) (Kd.S_far (p := ⟨gb218, 1, none⟩) (Kd.S_far (p := ⟨gb218, 0, none⟩) (Kd.S_types HO216.out BK218.out (by decide)) (fun _ hk => hk.2) (.slice Ao35 t208.length co35)) (fun _ hk => hk.2) (.slice Ao37 t211.length co37)) (fun _ hk => hk.2) (.slice Ao38 t214.length co38)) (fun _ hk => hk.2) (.int .i64 t217)) (fun _ h_ => h_.1)) | exact Kd.S_mono ((Kd.S_mono (Kd.S_far (p := ⟨gb218, 3, none⟩) (Kd.S_far (p := ⟨gb218, 2, none⟩) (Kd.S_far (p := ⟨gb218, 1, none⟩) (Kd.S_far (p := ⟨gb218, 0, none⟩) (Kd.S_types HO216.out BK218.out (by decide)) (fun _ hk => hk.2) (.slice Ao35 t208.length co35)) (fun _ hk => hk.2) (.slice Ao37 t211.length co37)) (fun _ hk => hk.2) (.slice Ao38 t214.length co38)) (fun _ hk => hk.2) (.int .i64 t217)) (fun _ h_ => h_.1))) (fun _ h_ => h_.2))); (case side6 => exact (Kd.S_reads' HO216.out).2.1); rintro e w39 ⟨rfl, hb⟩; refine ⟨_, rfl, ?_⟩; have n0_ := Aside0.mk (Kd.R_below (by (with_reducible repeat (first | apply Kd.R_alloc | apply Kd.R_drewN | apply Kd.R_drew)); first | exact (Kd.R_mono (Kd.R_far (p := ⟨gb218, 3, none⟩) (Kd.R_far (p := ⟨gb218, 2, none⟩) (Kd.R_far (p := ⟨gb218, 1, none⟩) (Kd.R_far (p := ⟨gb218, 0, none⟩) (Kd.R_types HO_11.out BK218.out (by decide)) (fun _ hk => hk.2) (.slice Ao35 t208.length co35)) (fun _ hk => hk.2) (.slice Ao37 t211.length co37)) (fun _ hk => hk.2) (.slice Ao38 t214.length co38)) (fun _ hk => hk.2) (.int .i64 t217)) (fun _ h_ => h_.1)) | exact Kd.R_mono ((Kd.R_mono (Kd.R_far (p := ⟨gb218, 3, none⟩) (Kd.R_far (p := ⟨gb218, 2, none⟩) (Kd.R_far (p := ⟨gb218, 1, none⟩) (Kd.R_far (p := ⟨gb218, 0, none⟩) (Kd.R_types HO_11.out BK218.out (by decide)) (fun _ hk => hk.2) (.slice Ao35 t208.length co35)) (fun _ hk => hk.2) (.slice Ao37 t211.length co37)) (fun _ hk => hk.2) (.slice Ao38 t214.length co38)) (fun _ hk => hk.2) (.int .i64 t217)) (fun _ h_ => h_.1))) (fun _ h_ => h_.2)) hb); have n1_ := Aside0.mk (Kd.R_below (by (with_reducible repeat (first | apply Kd.R_alloc | apply Kd.R_drewN | apply Kd.R_drew)); first | exact (Kd.R_mono (Kd.R_far (p := ⟨gb218, 3, none⟩) (Kd.R_far (p := ⟨gb218, 2, none⟩) (Kd.R_far (p := ⟨gb218, 1, none⟩) (Kd.R_far (p := ⟨gb218, 0, none⟩) (Kd.R_types HO210.out BK218.out (by decide)) (fun _ hk => hk.2) (.slice Ao35 t208.length co35)) (fun _ hk => hk.2) (.slice Ao37 t211.length co37)) (fun _ hk => hk.2) (.slice Ao38 t214.length co38)) (fun _ hk => hk.2) (.int .i64 t217)) (fun _ h_ => h_.1)) | exact Kd.R_mono ((Kd.R_mono (Kd.R_far (p := ⟨gb218, 3, none⟩) (Kd.R_far (p := ⟨gb218, 2, none⟩) (Kd.R_far (p := ⟨gb218, 1, none⟩) (Kd.R_far (p := ⟨gb218, 0, none⟩) (Kd.R_types HO210.out BK218.out (by decide)) (fun _ hk => hk.2) (.slice Ao35 t208.length co35)) (fun _ hk => hk.2) (.slice Ao37 t211.length co37)) (fun _ hk => hk.2) (.slice Ao38 t214.length co38)) (fun _ hk => hk.2) (.int .i64 t217)) (fun _ h_ => h_.1))) (fun _ h_ => h_.2)) hb); have n2_ := Aside0.mk (Kd.R_below (by (with_reducible repeat (first | apply Kd.R_alloc | apply Kd.R_drewN | apply Kd.R_drew)); first | exact (Kd.R_mono (Kd.R_far (p := ⟨gb218, 3, none⟩) (Kd.R_far (p := ⟨gb218, 2, none⟩) (Kd.R_far (p := ⟨gb218, 1, none⟩) (Kd.R_far (p := ⟨gb218, 0, none⟩) (Kd.R_types HO213.out BK218.out (by decide)) (fun _ hk => hk.2) (.slice Ao35 t208.length co35)) (fun _ hk => hk.2) (.slice Ao37 t211.length co37)) (fun _ hk => hk.2) (.slice Ao38 t214.length co38)) (fun _ hk => hk.2) (.int .i64 t217)) (fun _ h_ => h_.1)) | exact Kd.R_mono ((Kd.R_mono (Kd.R_far (p := ⟨gb218, 3, none⟩) (Kd.R_far (p := ⟨gb218, 2, none⟩) (Kd.R_far (p := ⟨gb218, 1, none⟩) (Kd.R_far (p := ⟨gb218, 0, none⟩) (Kd.R_types HO213.out BK218.out (by decide)) (fun _ hk => hk.2) (.slice Ao35 t208.length co35)) (fun _ hk => hk.2) (.slice Ao37 t211.length co37)) (fun _ hk => hk.2) (.slice Ao38 t214.length co38)) (fun _ hk => hk.2) (.int .i64 t217)) (fun _ h_ => h_.1))) (fun _ h_ => h_.2)) hb); have n3_ := Aside0.mk (Kd.S_below (by (with_reducible repeat (first | apply Kd.S_alloc | apply Kd.S_drewN | apply Kd.S_drew)); first | exact (Kd.S_mono (Kd.S_far (p := ⟨gb218, 3, none⟩) (Kd.S_far (p := ⟨gb218, 2, none⟩) (Kd.S_far (p := ⟨gb218, 1, none⟩) (Kd.S_far (p := ⟨gb218, 0, none⟩) (Kd.S_types HO216.out BK218.out (by decide)) (fun _ hk => hk.2) (.slice Ao35 t208.length co35)) (fun _ hk => hk.2) (.slice Ao37 t211.length co37)) (fun _ hk => hk.2) (.slice Ao38 t214.length co38)) (fun _ hk => hk.2) (.int .i64 t217)) (fun _ h_ => h_.1)) | exact Kd.S_mono ((Kd.S_mono (Kd.S_far (p := ⟨gb218, 3, none⟩) (Kd.S_far (p := ⟨gb218, 2, none⟩) (Kd.S_far (p := ⟨gb218, 1, none⟩) (Kd.S_far (p := ⟨gb218, 0, none⟩) (Kd.S_types HO216.out BK218.out (by decide)) (fun _ hk => hk.2) (.slice Ao35 t208.length co35)) (fun _ hk => hk.2) (.slice Ao37 t211.length co37)) (fun _ hk => hk.2) (.slice Ao38 t214.length co38)) (fun _ hk => hk.2) (.int .i64 t217)) (fun _ h_ => h_.1))) (fun _ h_ => h_.2)) hb); have n4_ := Aside0.mk (blk_below (g := gb218) (o := .cells #[.slice Ao35 t208.length co35, .slice Ao37 t211.length co37, .slice Ao38 t214.length co38, .int .i64 t217] 25 (0, 0)) (by (with_reducible repeat (first | refine blk_drewN ?_ _ | refine blk_drew ?_ | refine blk_alloc ?_ _)); refine blk_put (cs := #[.slice Ao35 t208.length co35, .slice Ao37 t211.length co37, .slice Ao38 t214.length co38, .int .i64 0]) ?_ 3 _ rfl; (with_reducible repeat (first | refine blk_drewN ?_ _ | refine blk_drew ?_ | refine blk_alloc ?_ _)); refine blk_put (cs := #[.slice Ao35 t208.length co35, .slice Ao37 t211.length co37, .slice none 0 0, .int .i64 0]) ?_ 2 _ rfl; (with_reducible repeat (first | refine blk_drewN ?_ _ | refine blk_drew ?_ | refine blk_alloc ?_ _)); refine blk_put (cs := #[.slice Ao35 t208.length co35, .slice none 0 0, .slice none 0 0, .int .i64 0]) ?_ 1 _ rfl; (with_reducible repeat (first | refine blk_drewN ?_ _ | refine blk_drew ?_ | refine blk_alloc ?_ _)); refine blk_put (cs := #[.slice none 0 0, .slice none 0 0, .slice none 0 0, .int .i64 0]) ?_ 0 _ rfl; (with_reducible repeat (first | refine blk_drewN ?_ _ | refine blk_drew ?_ | refine blk_alloc ?_ _)); exact BK218.out) hb); have n5_ := Aside0.mk (below_step (by repeat (first | (with_reducible first | exact HB.out | apply below_alloc | apply pw_below_drewN | apply below_drew1 | refine below_set ?_ GE218.out) | exact HB.out | exact ⟨HB.out.os, HB.out.tape, HB.out.output, HB.out.size, HB.out.block⟩)) hb); clear HO_11; clear HO210; clear HO213; clear HO216; clear BK218; clear HB; have HO_11 := n0_; have HO210 := n1_; have HO213 := n2_; have HO216 := n3_; have BK218 := n4_; have HB := n5_; clear n0_ n1_ n2_ n3_ n4_ n5_; (try clear hb); (try clear hb2); (try clear hk); (try clear hi); have hcz40_0 : w39.cell? ⟨gb218, 0, none⟩ = some (.slice Ao35 t208.length co35) := (blk_cell BK218.out 0).trans rfl; have hcz40_1 : w39.cell? ⟨gb218, 1, none⟩ = some (.slice Ao37 t211.length co37) := (blk_cell BK218.out 1).trans rfl; have hcz40_2 : w39.cell? ⟨gb218, 2, none⟩ = some (.slice Ao38 t214.length co38) := (blk_cell BK218.out 2).trans rfl; have hcz40_3 : w39.cell? ⟨gb218, 3, none⟩ = some (.int .i64 t217) := (blk_cell BK218.out 3).trans rfl; have hfz40_0 := blk_frozen BK218.out 0; have hfz40_1 := blk_frozen BK218.out 1; have hfz40_2 := blk_frozen BK218.out 2; have hfz40_3 := blk_frozen BK218.out 3) | ((with_reducible refine gate_callee (f := 31) rfl ?_); refine goesL_ (some 93) rfl rfl Try.func31 (by kernel_rfl) rfl #[.agg #[.slice Ao35 t208.length co35, .slice Ao37 t211.length co37, .slice Ao38 t214.length co38, .int .i64 t217], .int .i64 (wrap64 (Int.tmod (IntKind.u64.wrap (a2)) (IntKind.u64.wrap (wrap64 (1 + (wrap64 (Int.tmod (IntKind.u64.wrap (a0)) 16)))))))] rfl (by (try simp only [List.map_toArray, List.map_cons, List.map_nil]); first | done | rfl | (simp only [List.length_drop, List.length_take]; rfl)) ?_; (with_reducible refine (calls_Leads.calls k1 _ _ t208 _ _ t211 _ _ t214 t217 (wrap64 (Int.tmod (IntKind.u64.wrap (a2)) (IntKind.u64.wrap (wrap64 (1 + (wrap64 (Int.tmod (IntKind.u64.wrap (a0)) 16))))))) t220 t223 _ ?side1 ?side2 ?side3 ?side4 ?side5 ?side6 A29.out).mono ?_); (case side1 => repeat (first | exact (Kd.R_reads' HO210.out).2.2 | (with_reducible refine Kd.C_alloc ?_ _) | (with_reducible refine Kd.C_drewN ?_ _) | (with_reducible refine Kd.C_drew ?_))); (case side2 => exact (Kd.R_reads' HO210.out).2.1); (case side3 => repeat (first | exact (Kd.R_reads' HO213.out).2.2 | (with_reducible refine Kd.C_alloc ?_ _) | (with_reducible refine Kd.C_drewN ?_ _) | (with_reducible refine Kd.C_drew ?_))); (case side4 => exact (Kd.R_reads' HO213.out).2.1); (case side5 => repeat (first | exact (Kd.S_reads' HO216.out).2.2 | (with_reducible refine Kd.C_alloc ?_ _) | (with_reducible refine Kd.C_drewN ?_ _) | (with_reducible refine Kd.C_drew ?_))); (case side6 => exact (Kd.S_reads' HO216.out).2.1); rintro e w41 ⟨v221, rfl, ho0, hb⟩; refine ⟨_, rfl, ?_⟩; have n0_ := Aside0.mk (Kd.R_below (by (with_reducible repeat (first | apply Kd.R_alloc | apply Kd.R_drewN | apply Kd.R_drew)); first | exact HO_11.out | exact Kd.R_mono (HO_11.out) (fun _ h_ => h_.2)) hb); have n1_ := Aside0.mk (Kd.R_below (by (with_reducible repeat (first | apply Kd.R_alloc | apply Kd.R_drewN | apply Kd.R_drew)); first | exact HO210.out | exact Kd.R_mono (HO210.out) (fun _ h_ => h_.2)) hb); have n2_ := Aside0.mk (Kd.R_below (by (with_reducible repeat (first | apply Kd.R_alloc | apply Kd.R_drewN | apply Kd.R_drew)); first | exact HO213.out | exact Kd.R_mono (HO213.out) (fun _ h_ => h_.2)) hb); have n3_ := Aside0.mk (Kd.S_below (by (with_reducible repeat (first | apply Kd.S_alloc | apply Kd.S_drewN | apply Kd.S_drew)); first | exact HO216.out | exact Kd.S_mono (HO216.out) (fun _ h_ => h_.2)) hb); have n4_ := Aside0.mk (Kd.R_lower ho0 (below_size (by repeat (first | (with_reducible first | exact HB.out | apply below_alloc | apply pw_below_drewN | apply below_drew1 | refine below_set ?_ GE218.out) | exact HB.out | exact ⟨HB.out.os, HB.out.tape, HB.out.output, HB.out.size, HB.out.block⟩)))); have n5_ := Aside0.mk (blk_below (g := gb218) (o := .cells #[.slice Ao35 t208.length co35, .slice Ao37 t211.length co37, .slice Ao38 t214.length co38, .int .i64 t217] 25 (0, 0)) (by (with_reducible repeat (first | refine blk_drewN ?_ _ | refine blk_drew ?_ | refine blk_alloc ?_ _)); exact BK218.out) hb); have n6_ := Aside0.mk (below_step (by repeat (first | (with_reducible first | exact HB.out | apply below_alloc | apply pw_below_drewN | apply below_drew1 | refine below_set ?_ GE218.out) | exact HB.out | exact ⟨HB.out.os, HB.out.tape, HB.out.output, HB.out.size, HB.out.block⟩)) hb); clear HO_11; clear HO210; clear HO213; clear HO216; clear BK218; clear HB; have HO_11 := n0_; have HO210 := n1_; have HO213 := n2_; have HO216 := n3_; have HO222 := n4_; have BK218 := n5_; have HB := n6_; clear n0_ n1_ n2_ n3_ n4_ n5_ n6_; (try clear hb); (try clear hb2); (try clear hk); (try clear hi); (try clear ho0)))
        (try simp only [Act.put, List.setIfInBounds_toArray, List.set_cons_zero, List.set_cons_succ])
        go_cut [18] (fun v18 wc => ∃ (kq : Nat) (x18_30 : Bool), v18 = .bool x18_30 ∧ Aside0 (capstanlaw11_CallsRound.j3 kq (wrap64 (1 + (wrap64 (Int.tmod (IntKind.u64.wrap (a0)) 16)))) (wrap64 (Int.tmod (IntKind.u64.wrap (a2)) (IntKind.u64.wrap (wrap64 (1 + (wrap64 (Int.tmod (IntKind.u64.wrap (a0)) 16))))))) (wrap64 (Int.tmod (IntKind.u64.wrap (a3)) (IntKind.u64.wrap (wrap64 (1 + (wrap64 (Int.tmod (IntKind.u64.wrap (a0)) 16))))))) x11_1 t220 x18_30 = some r) ∧ Aside0 (kq ≤ k1) ∧ Aside0 (Kd.R (Kd.int .u16) 66 wc w.heap.size (fun _ => True) (.slice Ao32 x11_1.length co32) x11_1) ∧ Aside0 (Kd.R (Kd.int .i64) 3 wc w.heap.size (fun _ => True) v221 t220) ∧ Aside0 (Kd.R k86 86 wc w.heap.size (fun k_ => some k_ ≠ ((.slice Ao37 t211.length co37) : Value).ownBlock) (.slice Ao35 t208.length co35) t208) ∧ Aside0 (Kd.R k86 86 wc w.heap.size (fun k_ => some k_ ≠ ((.slice Ao35 t208.length co35) : Value).ownBlock) (.slice Ao37 t211.length co37) t211) ∧ Aside0 (Kd.S k52 52 wc w.heap.size (fun _ => True) (.slice Ao38 t214.length co38) t214) ∧ Aside0 (wc.heap[gb218]? = some (.cells #[(.slice Ao35 t208.length co35), (.slice Ao37 t211.length co37), (.slice Ao38 t214.length co38), .int .i64 t217] 25 (0, 0))) ∧ Aside0 (Below w.heap.size w wc))
        case first =>
         have H := HC31.out
         clear HC31
         have H' := Aside0.mk H
         clear H
         go_wp2
         go_meet
         case rel => exact ⟨_, (((wrap64 (Int.tmod (IntKind.u64.wrap (a2)) (IntKind.u64.wrap (wrap64 (1 + (wrap64 (Int.tmod (IntKind.u64.wrap (a0)) 16))))))) == (wrap64 (Int.tmod (IntKind.u64.wrap (a3)) (IntKind.u64.wrap (wrap64 (1 + (wrap64 (Int.tmod (IntKind.u64.wrap (a0)) 16))))))))), (by first | rfl | (simp; done) | (simp [*]; done)), H', ⟨by have := HK1.out; first | omega | exact Nat.le_refl _⟩, ⟨by (with_reducible repeat (first | apply Kd.R_alloc | apply Kd.R_drewN | apply Kd.R_drew)); first | exact HO_11.out | exact Kd.R_mono (HO_11.out) (fun _ h_ => h_.2)⟩, ⟨by (with_reducible repeat (first | apply Kd.R_alloc | apply Kd.R_drewN | apply Kd.R_drew)); first | exact HO222.out | exact Kd.R_mono (HO222.out) (fun _ h_ => h_.2)⟩, ⟨by (with_reducible repeat (first | apply Kd.R_alloc | apply Kd.R_drewN | apply Kd.R_drew)); first | exact HO210.out | exact Kd.R_mono (HO210.out) (fun _ h_ => h_.2)⟩, ⟨by (with_reducible repeat (first | apply Kd.R_alloc | apply Kd.R_drewN | apply Kd.R_drew)); first | exact HO213.out | exact Kd.R_mono (HO213.out) (fun _ h_ => h_.2)⟩, ⟨by (with_reducible repeat (first | apply Kd.S_alloc | apply Kd.S_drewN | apply Kd.S_drew)); first | exact HO216.out | exact Kd.S_mono (HO216.out) (fun _ h_ => h_.2)⟩, ⟨by (with_reducible repeat (first | refine blk_drewN ?_ _ | refine blk_drew ?_ | refine blk_alloc ?_ _)); exact BK218.out⟩, ⟨by repeat (first | (with_reducible first | exact HB.out | apply below_alloc | apply pw_below_drewN | apply below_drew1 | refine below_set ?_ GE218.out) | exact HB.out | exact ⟨HB.out.os, HB.out.tape, HB.out.output, HB.out.size, HB.out.block⟩)⟩⟩
        case rest =>
         clear HC31
         try clear c1
         try clear c2
         try clear p2
         try clear q2
         try clear hx2
         try clear c3
         try clear p6
         try clear c7
         try clear c8
         try clear c8b0
         try clear c8b1
         try clear c11
         try clear c11b0
         try clear c13
         try clear c13b0
         try clear c14
         try clear c15
         try clear c15b0
         try clear c15b1
         try clear c15b2
         try clear c16
         try clear c16b0
         try clear c16b1
         try clear c17
         try clear c17b0
         try clear c18
         try clear c18b0
         try clear c19
         try clear c19b0
         try clear c19b1
         try clear p20
         try clear q20
         try clear hx20
         try clear c21
         try clear c21b0
         try clear c21b1
         try clear c22
         try clear c22b0
         try clear c24
         try clear c28
         try clear c28b0
         try clear c28b1
         try clear c30
         try clear c30b0
         try clear c30b1
         try clear c31
         try clear c33
         try clear c36
         try clear c37
         try clear hcz36_0
         try clear hcz36_1
         try clear hcz36_2
         try clear hcz36_3
         try clear hcz40_0
         try clear hcz40_1
         try clear hcz40_2
         try clear hcz40_3
         try clear hfz36_0
         try clear hfz36_1
         try clear hfz36_2
         try clear hfz36_3
         try clear hfz40_0
         try clear hfz40_1
         try clear hfz40_2
         try clear hfz40_3
         try clear hx204_0
         try clear p2
         try clear p204
         try clear p6
         try clear q204
         obtain ⟨kq, x18_30, rfl, HA, HJ30, HO_11, HO_16, HO_219000, HO_219001, HO_219002, BK218, HB⟩ := hcut
         cases kq with
         | zero => exact absurd HA.out (by simp [capstanlaw11_CallsRound.j3])
         | succ kj30 =>
          have H := HA.out
          clear HA
          simp only [capstanlaw11_CallsRound.j3] at H
          have H' := Aside0.mk H
          clear H
          go_wp2
          go_loopg [18, 19] kj30 (fun kq v18 v19 w' => ∃ (x18_3 : Bool) (x19_3 : Int), v18 = .bool x18_3 ∧ v19 = .int .i64 x19_3 ∧ Aside0 (capstanlaw11_CallsRound.l2 kq (wrap64 (1 + (wrap64 (Int.tmod (IntKind.u64.wrap (a0)) 16)))) (wrap64 (Int.tmod (IntKind.u64.wrap (a2)) (IntKind.u64.wrap (wrap64 (1 + (wrap64 (Int.tmod (IntKind.u64.wrap (a0)) 16))))))) (wrap64 (Int.tmod (IntKind.u64.wrap (a3)) (IntKind.u64.wrap (wrap64 (1 + (wrap64 (Int.tmod (IntKind.u64.wrap (a0)) 16))))))) x11_1 t220 x18_3 x19_3 = some r) ∧ Aside0 (kq ≤ kj30) ∧ Aside0 (Kd.R (Kd.int .u16) 66 w' w.heap.size (fun _ => True) (.slice Ao32 x11_1.length co32) x11_1) ∧ Aside0 (Kd.R (Kd.int .i64) 3 w' w.heap.size (fun _ => True) v221 t220) ∧ Aside0 (Kd.R k86 86 w' w.heap.size (fun k_ => some k_ ≠ ((.slice Ao37 t211.length co37) : Value).ownBlock) (.slice Ao35 t208.length co35) t208) ∧ Aside0 (Kd.R k86 86 w' w.heap.size (fun k_ => some k_ ≠ ((.slice Ao35 t208.length co35) : Value).ownBlock) (.slice Ao37 t211.length co37) t211) ∧ Aside0 (Kd.S k52 52 w' w.heap.size (fun _ => True) (.slice Ao38 t214.length co38) t214) ∧ Aside0 (w'.heap[gb218]? = some (.cells #[(.slice Ao35 t208.length co35), (.slice Ao37 t211.length co37), (.slice Ao38 t214.length co38), .int .i64 t217] 25 (0, 0))) ∧ Aside0 (Below w.heap.size w w'))
          case atStart => exact ⟨(x18_30), (0), (by first | rfl | (simp; done) | (simp [*]; done)), (by first | rfl | (simp; done) | (simp [*]; done)), H', ⟨Nat.le_refl _⟩, ⟨by (with_reducible repeat (first | apply Kd.R_alloc | apply Kd.R_drewN | apply Kd.R_drew)); first | exact HO_11.out | exact Kd.R_mono (HO_11.out) (fun _ h_ => h_.2)⟩, ⟨by (with_reducible repeat (first | apply Kd.R_alloc | apply Kd.R_drewN | apply Kd.R_drew)); first | exact HO_16.out | exact Kd.R_mono (HO_16.out) (fun _ h_ => h_.2)⟩, ⟨by (with_reducible repeat (first | apply Kd.R_alloc | apply Kd.R_drewN | apply Kd.R_drew)); first | exact HO_219000.out | exact Kd.R_mono (HO_219000.out) (fun _ h_ => h_.2)⟩, ⟨by (with_reducible repeat (first | apply Kd.R_alloc | apply Kd.R_drewN | apply Kd.R_drew)); first | exact HO_219001.out | exact Kd.R_mono (HO_219001.out) (fun _ h_ => h_.2)⟩, ⟨by (with_reducible repeat (first | apply Kd.S_alloc | apply Kd.S_drewN | apply Kd.S_drew)); first | exact HO_219002.out | exact Kd.S_mono (HO_219002.out) (fun _ h_ => h_.2)⟩, ⟨by (with_reducible repeat (first | refine blk_drewN ?_ _ | refine blk_drew ?_ | refine blk_alloc ?_ _)); exact BK218.out⟩, ⟨by repeat (first | (with_reducible first | exact HB.out | apply below_alloc | apply pw_below_drewN | apply below_drew1 | refine below_set ?_ GE218.out) | exact HB.out | exact ⟨HB.out.os, HB.out.tape, HB.out.output, HB.out.size, HB.out.block⟩)⟩⟩
          case round =>
           clear H'
           try clear c1
           try clear c2
           try clear p2
           try clear q2
           try clear hx2
           try clear c3
           try clear p6
           try clear c7
           try clear c8
           try clear c8b0
           try clear c8b1
           try clear c11
           try clear c11b0
           try clear c13
           try clear c13b0
           try clear c14
           try clear c15
           try clear c15b0
           try clear c15b1
           try clear c15b2
           try clear c16
           try clear c16b0
           try clear c16b1
           try clear c17
           try clear c17b0
           try clear c18
           try clear c18b0
           try clear c19
           try clear c19b0
           try clear c19b1
           try clear p20
           try clear q20
           try clear hx20
           try clear c21
           try clear c21b0
           try clear c21b1
           try clear c22
           try clear c22b0
           try clear c24
           try clear c28
           try clear c28b0
           try clear c28b1
           try clear c30
           try clear c30b0
           try clear c30b1
           try clear c31
           try clear c33
           try clear c36
           try clear c37
           try clear hcz36_0
           try clear hcz36_1
           try clear hcz36_2
           try clear hcz36_3
           try clear hcz40_0
           try clear hcz40_1
           try clear hcz40_2
           try clear hcz40_3
           try clear hfz36_0
           try clear hfz36_1
           try clear hfz36_2
           try clear hfz36_3
           try clear hfz40_0
           try clear hfz40_1
           try clear hfz40_2
           try clear hfz40_3
           try clear hx204_0
           try clear p2
           try clear p20
           try clear p204
           try clear p6
           try clear q2
           try clear q20
           try clear q204
           obtain ⟨x18_3, x19_3, rfl, rfl, HA, HK3, HO_11, HO_16, HO_219000, HO_219001, HO_219002, BK218, HB⟩ := hrel
           cases gk with
           | zero => exact absurd HA.out (by simp [capstanlaw11_CallsRound.l2])
           | succ k3 =>
            have H := HA.out
            clear HA
            simp only [capstanlaw11_CallsRound.l2] at H
            by_cases c42 : x19_3 < (t220.length : Int)
            ·
             rw [if_pos c42] at H
             have c42b0 : decide (x19_3 < (t220.length : Int)) = true := decide_eq_true c42
             clear c42
             by_cases c43 : x18_3 = true
             ·
              subst c43
              have H1 : (capstanlaw11_CallsRound.l2 k3 (wrap64 (1 + (wrap64 (Int.tmod (IntKind.u64.wrap (a0)) 16)))) (wrap64 (Int.tmod (IntKind.u64.wrap (a2)) (IntKind.u64.wrap (wrap64 (1 + (wrap64 (Int.tmod (IntKind.u64.wrap (a0)) 16))))))) (wrap64 (Int.tmod (IntKind.u64.wrap (a3)) (IntKind.u64.wrap (wrap64 (1 + (wrap64 (Int.tmod (IntKind.u64.wrap (a0)) 16))))))) x11_1 t220 true (wrap64 (x19_3 + 1))) = some r := by rw [if_pos rfl] at H; exact H
              clear H
              have H := H1
              clear H1
              have H' := Aside0.mk H
              clear H
              obtain ⟨Ao44, co44, eo44⟩ := Kd.R_slice HO_16.out
              subst eo44
              go_wp2
              go_roundg k3
              case measure => have := HK1.out; have := HJ30.out; have := HK3.out; omega
              case rel => exact ⟨(true), (wrap64 (x19_3 + 1)), (by first | rfl | (simp; done) | (simp [*]; done)), (by first | rfl | (simp; done) | (simp [*]; done)), H', ⟨by have := HK1.out; have := HJ30.out; have := HK3.out; omega⟩, ⟨by (with_reducible repeat (first | apply Kd.R_alloc | apply Kd.R_drewN | apply Kd.R_drew)); first | exact HO_11.out | exact Kd.R_mono (HO_11.out) (fun _ h_ => h_.2)⟩, ⟨by (with_reducible repeat (first | apply Kd.R_alloc | apply Kd.R_drewN | apply Kd.R_drew)); first | exact HO_16.out | exact Kd.R_mono (HO_16.out) (fun _ h_ => h_.2)⟩, ⟨by (with_reducible repeat (first | apply Kd.R_alloc | apply Kd.R_drewN | apply Kd.R_drew)); first | exact HO_219000.out | exact Kd.R_mono (HO_219000.out) (fun _ h_ => h_.2)⟩, ⟨by (with_reducible repeat (first | apply Kd.R_alloc | apply Kd.R_drewN | apply Kd.R_drew)); first | exact HO_219001.out | exact Kd.R_mono (HO_219001.out) (fun _ h_ => h_.2)⟩, ⟨by (with_reducible repeat (first | apply Kd.S_alloc | apply Kd.S_drewN | apply Kd.S_drew)); first | exact HO_219002.out | exact Kd.S_mono (HO_219002.out) (fun _ h_ => h_.2)⟩, ⟨by (with_reducible repeat (first | refine blk_drewN ?_ _ | refine blk_drew ?_ | refine blk_alloc ?_ _)); exact BK218.out⟩, ⟨by repeat (first | (with_reducible first | exact HB.out | apply below_alloc | apply pw_below_drewN | apply below_drew1 | refine below_set ?_ GE218.out) | exact HB.out | exact ⟨HB.out.os, HB.out.tape, HB.out.output, HB.out.size, HB.out.block⟩)⟩⟩
             ·
              replace c43 := Bool.eq_false_iff.mpr c43
              subst c43
              have H1 : (if 0 ≤ x19_3 then (capstanlaw11_CallsRound.l2 k3 (wrap64 (1 + (wrap64 (Int.tmod (IntKind.u64.wrap (a0)) 16)))) (wrap64 (Int.tmod (IntKind.u64.wrap (a2)) (IntKind.u64.wrap (wrap64 (1 + (wrap64 (Int.tmod (IntKind.u64.wrap (a0)) 16))))))) (wrap64 (Int.tmod (IntKind.u64.wrap (a3)) (IntKind.u64.wrap (wrap64 (1 + (wrap64 (Int.tmod (IntKind.u64.wrap (a0)) 16))))))) x11_1 t220 ((rd t220 x19_3) == (wrap64 (Int.tmod (IntKind.u64.wrap (a3)) (IntKind.u64.wrap (wrap64 (1 + (wrap64 (Int.tmod (IntKind.u64.wrap (a0)) 16)))))))) (wrap64 (x19_3 + 1))) else (none)) = some r := by rw [if_neg (show ¬ (false = true) by decide)] at H; exact H
              clear H
              have H := H1
              clear H1
              by_cases c45 : 0 ≤ x19_3
              ·
               rw [if_pos c45] at H
               have c45b0 : decide (0 ≤ x19_3) = true := decide_eq_true c45
               clear c45
               have H' := Aside0.mk H
               clear H
               obtain ⟨Ao46, co46, eo46⟩ := Kd.R_slice HO_16.out
               subst eo46
               have p224 : 0 ≤ (x19_3 : Int) := of_decide_eq_true (by first | (with_reducible assumption) | assumption)
               have q224 : x19_3 < (t220.length : Int) := of_decide_eq_true (by first | (with_reducible assumption) | assumption)
               obtain ⟨ad224, e224, hx224_0⟩ := Kd.at_int (Kd.R_reads' HO_16.out).2.2 x19_3 p224 q224
               cases e224
               replace p224 := eq_true p224
               replace q224 := eq_true q224
               go_wp2
               go_roundg k3
               case measure => have := HK1.out; have := HJ30.out; have := HK3.out; omega
               case rel => exact ⟨(((rd t220 x19_3) == (wrap64 (Int.tmod (IntKind.u64.wrap (a3)) (IntKind.u64.wrap (wrap64 (1 + (wrap64 (Int.tmod (IntKind.u64.wrap (a0)) 16))))))))), (wrap64 (x19_3 + 1)), (by first | rfl | (simp; done) | (simp [*]; done)), (by first | rfl | (simp; done) | (simp [*]; done)), H', ⟨by have := HK1.out; have := HJ30.out; have := HK3.out; omega⟩, ⟨by (with_reducible repeat (first | apply Kd.R_alloc | apply Kd.R_drewN | apply Kd.R_drew)); first | exact HO_11.out | exact Kd.R_mono (HO_11.out) (fun _ h_ => h_.2)⟩, ⟨by (with_reducible repeat (first | apply Kd.R_alloc | apply Kd.R_drewN | apply Kd.R_drew)); first | exact HO_16.out | exact Kd.R_mono (HO_16.out) (fun _ h_ => h_.2)⟩, ⟨by (with_reducible repeat (first | apply Kd.R_alloc | apply Kd.R_drewN | apply Kd.R_drew)); first | exact HO_219000.out | exact Kd.R_mono (HO_219000.out) (fun _ h_ => h_.2)⟩, ⟨by (with_reducible repeat (first | apply Kd.R_alloc | apply Kd.R_drewN | apply Kd.R_drew)); first | exact HO_219001.out | exact Kd.R_mono (HO_219001.out) (fun _ h_ => h_.2)⟩, ⟨by (with_reducible repeat (first | apply Kd.S_alloc | apply Kd.S_drewN | apply Kd.S_drew)); first | exact HO_219002.out | exact Kd.S_mono (HO_219002.out) (fun _ h_ => h_.2)⟩, ⟨by (with_reducible repeat (first | refine blk_drewN ?_ _ | refine blk_drew ?_ | refine blk_alloc ?_ _)); exact BK218.out⟩, ⟨by repeat (first | (with_reducible first | exact HB.out | apply below_alloc | apply pw_below_drewN | apply below_drew1 | refine below_set ?_ GE218.out) | exact HB.out | exact ⟨HB.out.os, HB.out.tape, HB.out.output, HB.out.size, HB.out.block⟩)⟩⟩
              ·
               rw [if_neg c45] at H
               exact absurd H (by simp)
            ·
             rw [if_neg c42] at H
             have c42b0 : decide (x19_3 < (t220.length : Int)) = false := decide_eq_false c42
             clear c42
             obtain ⟨ji47, hji47⟩ : ∃ j_ : Int, (wrap64 (Int.tmod (IntKind.u64.wrap (a3)) (IntKind.u64.wrap (wrap64 (1 + (wrap64 (Int.tmod (IntKind.u64.wrap (a0)) 16))))))) = j_ := ⟨_, rfl⟩
             replace H : (if 0 ≤ (ji47) then (if (ji47) < (x11_1.length : Int) then (if 0 ≤ (wrap64 (Int.tmod (IntKind.u64.wrap (a2)) (IntKind.u64.wrap (wrap64 (1 + (wrap64 (Int.tmod (IntKind.u64.wrap (a0)) 16))))))) then ((some (x11_1.set ((ji47) : Int).toNat (Go.bits .or .u16 (rd x11_1 (ji47)) (shl .u16 1 (wrap64 (Int.tmod (IntKind.u64.wrap (a2)) (IntKind.u64.wrap (wrap64 (1 + (wrap64 (Int.tmod (IntKind.u64.wrap (a0)) 16))))))))) : List Int)).bind fun y226 => (if x18_3 = true then ((capstanlaw11_made.f k3 (wrap64 (1 + (wrap64 (Int.tmod (IntKind.u64.wrap (a0)) 16)))) y226).bind fun bt227 => ((calls_Check.f k3 bt227.1 bt227.2.1 bt227.2.2.1 bt227.2.2.2).bind fun t237 => (some (t237 == 110)))) else ((capstanlaw11_made.f k3 (wrap64 (1 + (wrap64 (Int.tmod (IntKind.u64.wrap (a0)) 16)))) y226).bind fun bt238 => ((calls_Check.f k3 bt238.1 bt238.2.1 bt238.2.2.1 bt238.2.2.2).bind fun t248 => (some (t248 == 0)))))) else (none)) else (none)) else (none)) = some r := by first | (rw [hji47] at H; exact H) | (simp only [hji47] at H ⊢; exact H)
             have hji47w : (IntKind.i64.wrap (Int.tmod (IntKind.u64.wrap (a3)) (IntKind.u64.wrap (wrap64 (1 + (wrap64 (Int.tmod (IntKind.u64.wrap (a0)) 16))))))) = ji47 := (i64_w _).trans hji47
             by_cases c48 : 0 ≤ (ji47)
             ·
              rw [if_pos c48] at H
              have c48b0 : decide (0 ≤ (ji47)) = true := decide_eq_true c48
              clear c48
              by_cases c49 : (ji47) < (x11_1.length : Int)
              ·
               rw [if_pos c49] at H
               have c49b0 : decide ((ji47) < (x11_1.length : Int)) = true := decide_eq_true c49
               clear c49
               obtain ⟨ji50, hji50⟩ : ∃ j_ : Int, (wrap64 (Int.tmod (IntKind.u64.wrap (a2)) (IntKind.u64.wrap (wrap64 (1 + (wrap64 (Int.tmod (IntKind.u64.wrap (a0)) 16))))))) = j_ := ⟨_, rfl⟩
               replace H : (if 0 ≤ (ji50) then ((some (x11_1.set ((ji47) : Int).toNat (Go.bits .or .u16 (rd x11_1 (ji47)) (shl .u16 1 (ji50))) : List Int)).bind fun y226 => (if x18_3 = true then ((capstanlaw11_made.f k3 (wrap64 (1 + (wrap64 (Int.tmod (IntKind.u64.wrap (a0)) 16)))) y226).bind fun bt227 => ((calls_Check.f k3 bt227.1 bt227.2.1 bt227.2.2.1 bt227.2.2.2).bind fun t237 => (some (t237 == 110)))) else ((capstanlaw11_made.f k3 (wrap64 (1 + (wrap64 (Int.tmod (IntKind.u64.wrap (a0)) 16)))) y226).bind fun bt238 => ((calls_Check.f k3 bt238.1 bt238.2.1 bt238.2.2.1 bt238.2.2.2).bind fun t248 => (some (t248 == 0)))))) else (none)) = some r := by first | (rw [hji50] at H; exact H) | (simp only [hji50] at H ⊢; exact H)
               have hji50w : (IntKind.i64.wrap (Int.tmod (IntKind.u64.wrap (a2)) (IntKind.u64.wrap (wrap64 (1 + (wrap64 (Int.tmod (IntKind.u64.wrap (a0)) 16))))))) = ji50 := (i64_w _).trans hji50
               by_cases c51 : 0 ≤ (ji50)
               ·
                rw [if_pos c51] at H
                have c51b0 := eq_true c51
                have c51b1 : decide (0 ≤ (ji50)) = true := decide_eq_true c51
                clear c51
                obtain ⟨ji52, hji52⟩ : ∃ j_ : Int, (shl .u16 1 (ji50)) = j_ := ⟨_, rfl⟩
                replace H : ((some (x11_1.set ((ji47) : Int).toNat (Go.bits .or .u16 (rd x11_1 (ji47)) (ji52)) : List Int)).bind fun y226 => (if x18_3 = true then ((capstanlaw11_made.f k3 (wrap64 (1 + (wrap64 (Int.tmod (IntKind.u64.wrap (a0)) 16)))) y226).bind fun bt227 => ((calls_Check.f k3 bt227.1 bt227.2.1 bt227.2.2.1 bt227.2.2.2).bind fun t237 => (some (t237 == 110)))) else ((capstanlaw11_made.f k3 (wrap64 (1 + (wrap64 (Int.tmod (IntKind.u64.wrap (a0)) 16)))) y226).bind fun bt238 => ((calls_Check.f k3 bt238.1 bt238.2.1 bt238.2.2.1 bt238.2.2.2).bind fun t248 => (some (t248 == 0)))))) = some r := by first | (rw [hji52] at H; exact H) | (simp only [hji52] at H ⊢; exact H)
                have hji52_ : (IntKind.u16.wrap (1 * 2 ^ min (ji50).toNat 16)) = ji52 := hji52
                have hji52z : (ji50) ≤ 16 → (IntKind.u16.wrap (1 * 2 ^ (ji50).toNat)) = ji52 := shl_small hji52
                have hji52u : (IntKind.u16.wrap (2 ^ min (ji50).toNat 16)) = ji52 := by have h_ := hji52_; rw [Int.one_mul] at h_; exact h_
                have hji52v : (ji50) ≤ 16 → (IntKind.u16.wrap (2 ^ (ji50).toNat)) = ji52 := fun hle_ => by have h_ := hji52z hle_; rw [Int.one_mul] at h_; exact h_
                obtain ⟨y226, hy226⟩ : ∃ y_ : List Int, y_ = (x11_1.set ((ji47) : Int).toNat (Go.bits .or .u16 (rd x11_1 (ji47)) (ji52))) := ⟨_, rfl⟩
                replace H : (if x18_3 = true then ((capstanlaw11_made.f k3 (wrap64 (1 + (wrap64 (Int.tmod (IntKind.u64.wrap (a0)) 16)))) y226).bind fun bt227 => ((calls_Check.f k3 bt227.1 bt227.2.1 bt227.2.2.1 bt227.2.2.2).bind fun t237 => (some (t237 == 110)))) else ((capstanlaw11_made.f k3 (wrap64 (1 + (wrap64 (Int.tmod (IntKind.u64.wrap (a0)) 16)))) y226).bind fun bt238 => ((calls_Check.f k3 bt238.1 bt238.2.1 bt238.2.2.1 bt238.2.2.2).bind fun t248 => (some (t248 == 0))))) = some r := by first | (rw [hy226]; with_reducible exact H) | (have H2_ := (Option.bind_some _ _).symm.trans H; rw [hy226]; with_reducible exact H2_) | (have H2_ := (Option.bind_some _ _).symm.trans H; with_reducible exact H2_) | with_reducible exact H | (rw [hy226]; exact H) | exact H
                have Ny226 := Aside0.mk hy226
                clear hy226
                by_cases c54 : x18_3 = true
                ·
                 subst c54
                 have H1 : ((capstanlaw11_made.f k3 (wrap64 (1 + (wrap64 (Int.tmod (IntKind.u64.wrap (a0)) 16)))) y226).bind fun bt227 => ((calls_Check.f k3 bt227.1 bt227.2.1 bt227.2.2.1 bt227.2.2.2).bind fun t237 => (some (t237 == 110)))) = some r := by rw [if_pos rfl] at H; exact H
                 clear H
                 have H := H1
                 clear H1
                 replace H := Option.bind_eq_some_iff.mp H
                 obtain ⟨⟨t227, t230, t233, t236⟩, A550, H⟩ := H
                 replace H : ((calls_Check.f k3 t227 t230 t233 t236).bind fun t237 => (some (t237 == 110))) = some r := H
                 have A55 := Aside0.mk A550
                 clear A550
                 replace H := Option.bind_eq_some_iff.mp H
                 obtain ⟨t237, A560, H⟩ := H
                 replace H : (some (t237 == 110)) = some r := H
                 have A56 := Aside0.mk A560
                 clear A560
                 obtain rfl := Option.some.inj H
                 obtain ⟨Ao57, co57, eo57⟩ := Kd.R_slice HO_16.out
                 subst eo57
                 try go_wp2
                 (try (rw [drewN_self wr]; generalize hq_ : World.drewN wr _ = wr; have n0_ : Aside0 (Kd.R (Kd.int .u16) 66 wr w.heap.size (fun _ => True) (.slice Ao32 x11_1.length co32) x11_1) := ⟨by rw [← hq_]; exact (by (with_reducible repeat (first | apply Kd.R_alloc | apply Kd.R_drewN | apply Kd.R_drew)); first | exact HO_11.out | exact Kd.R_mono (HO_11.out) (fun _ h_ => h_.2))⟩; have n1_ : Aside0 (Kd.R (Kd.int .i64) 3 wr w.heap.size (fun _ => True) (.slice Ao57 t220.length co57) t220) := ⟨by rw [← hq_]; exact (by (with_reducible repeat (first | apply Kd.R_alloc | apply Kd.R_drewN | apply Kd.R_drew)); first | exact HO_16.out | exact Kd.R_mono (HO_16.out) (fun _ h_ => h_.2))⟩; have n2_ : Aside0 (Kd.R k86 86 wr w.heap.size (fun k_ => some k_ ≠ (.slice Ao37 t211.length co37 : Value).ownBlock) (.slice Ao35 t208.length co35) t208) := ⟨by rw [← hq_]; exact (by (with_reducible repeat (first | apply Kd.R_alloc | apply Kd.R_drewN | apply Kd.R_drew)); first | exact HO_219000.out | exact Kd.R_mono (HO_219000.out) (fun _ h_ => h_.2))⟩; have n3_ : Aside0 (Kd.R k86 86 wr w.heap.size (fun k_ => some k_ ≠ (.slice Ao35 t208.length co35 : Value).ownBlock) (.slice Ao37 t211.length co37) t211) := ⟨by rw [← hq_]; exact (by (with_reducible repeat (first | apply Kd.R_alloc | apply Kd.R_drewN | apply Kd.R_drew)); first | exact HO_219001.out | exact Kd.R_mono (HO_219001.out) (fun _ h_ => h_.2))⟩; have n4_ : Aside0 (Kd.S k52 52 wr w.heap.size (fun _ => True) (.slice Ao38 t214.length co38) t214) := ⟨by rw [← hq_]; exact (by (with_reducible repeat (first | apply Kd.S_alloc | apply Kd.S_drewN | apply Kd.S_drew)); first | exact HO_219002.out | exact Kd.S_mono (HO_219002.out) (fun _ h_ => h_.2))⟩; have n5_ : Aside0 (wr.heap[gb218]? = some (.cells #[.slice Ao35 t208.length co35, .slice Ao37 t211.length co37, .slice Ao38 t214.length co38, .int .i64 t217] 25 (0, 0))) := ⟨by rw [← hq_]; exact (by (with_reducible repeat (first | refine blk_drewN ?_ _ | refine blk_drew ?_ | refine blk_alloc ?_ _)); exact BK218.out)⟩; have n6_ : Aside0 (Below w.heap.size w wr) := ⟨by rw [← hq_]; exact (by repeat (first | (with_reducible first | exact HB.out | apply below_alloc | apply pw_below_drewN | apply below_drew1 | refine below_set ?_ GE218.out) | exact HB.out | exact ⟨HB.out.os, HB.out.tape, HB.out.output, HB.out.size, HB.out.block⟩))⟩; clear HO_11 HO_16 HO_219000 HO_219001 HO_219002 BK218 HB hq_; have HO_11 := n0_; have HO_16 := n1_; have HO_219000 := n2_; have HO_219001 := n3_; have HO_219002 := n4_; have BK218 := n5_; have HB := n6_; clear n0_ n1_ n2_ n3_ n4_ n5_ n6_))
                 (try have hcu58_0 : wr.cell? ⟨gb218, 0, none⟩ = some (.slice Ao35 t208.length co35) := (blk_cell BK218.out 0).trans rfl)
                 (try have hfu58_0 := blk_frozen BK218.out 0)
                 (try have hcu58_1 : wr.cell? ⟨gb218, 1, none⟩ = some (.slice Ao37 t211.length co37) := (blk_cell BK218.out 1).trans rfl)
                 (try have hfu58_1 := blk_frozen BK218.out 1)
                 (try have hcu58_2 : wr.cell? ⟨gb218, 2, none⟩ = some (.slice Ao38 t214.length co38) := (blk_cell BK218.out 2).trans rfl)
                 (try have hfu58_2 := blk_frozen BK218.out 2)
                 (try have hcu58_3 : wr.cell? ⟨gb218, 3, none⟩ = some (.int .i64 t217) := (blk_cell BK218.out 3).trans rfl)
                 (try have hfu58_3 := blk_frozen BK218.out 3)
                 have n0_ := Aside0.mk (Kd.R_drew HO_11.out)
                 have n1_ := Aside0.mk (Kd.R_drew HO_16.out)
                 have n2_ := Aside0.mk (Kd.R_drew HO_219000.out)
                 have n3_ := Aside0.mk (Kd.R_drew HO_219001.out)
                 have n4_ := Aside0.mk (Kd.S_drew HO_219002.out)
                 have n5_ := Aside0.mk (blk_drew BK218.out)
                 have n6_ := Aside0.mk (below_drew1 HB.out)
                 clear HO_11
                 clear HO_16
                 clear HO_219000
                 clear HO_219001
                 clear HO_219002
                 clear BK218
                 clear HB
                 have HO_11 := n0_
                 have HO_16 := n1_
                 have HO_219000 := n2_
                 have HO_219001 := n3_
                 have HO_219002 := n4_
                 have BK218 := n5_
                 have HB := n6_
                 clear n0_ n1_ n2_ n3_ n4_ n5_ n6_
                 have p225 : 0 ≤ ((ji47) : Int) := of_decide_eq_true (by first | (with_reducible assumption) | assumption)
                 have q225 : (ji47) < (x11_1.length : Int) := of_decide_eq_true (by first | (with_reducible assumption) | assumption)
                 obtain ⟨ad225, e225, hx225_0⟩ := Kd.at_int (Kd.R_reads' HO_11.out).2.2 (ji47) p225 q225
                 cases e225
                 replace p225 := eq_true p225
                 replace q225 := eq_true q225
                 have p53 : 0 ≤ ((ji47) : Int) := of_decide_eq_true (by first | (with_reducible assumption) | assumption)
                 have q53 : ((ji47) : Int) < ((x11_1.length : Int) : Int) := of_decide_eq_true (by first | (with_reducible assumption) | assumption)
                 obtain ⟨go53, co53, eo53, gb53, gl53, cl53, HG53⟩ := Kd.R_form HO_11.out (by omega)
                 (first | cases eo53 | (injection eo53 with ea_ en_ ec_; (first | subst ea_ | (injection ea_ with ea_; subst ea_)); subst ec_; clear en_))
                 have GB53 := Aside0.mk gb53
                 have GG53 := Aside0.mk HG53
                 clear gb53 gl53 HG53
                 (first | simp only [add_plain] at hx225_0 | skip)
                 obtain ⟨hx53_0, hf53_0⟩ := Kd.R_celln 0 HO_11.out ((ji47) : Int) p53 q53
                 replace p53 := eq_true p53
                 replace q53 := eq_true q53
                 have HP60 := Kd.R_putn HO_11.out ((ji47) : Int) (Go.bits .or .u16 (rd x11_1 (ji47)) (ji52))
                 rw [← Ny226.out] at HP60
                 have HQ60 := Aside0.mk HP60
                 clear HP60
                 refine start_ (n := 11) (S := fun w' => w'.cell? ⟨go53, ((ji47)).toNat, none⟩ = some (.int .u16 (rd x11_1 (ji47)))) (ds := [10]) #[false, false, false, false, false, false, false, false, false, false, false] (by kernel_rfl) rfl rfl (hx225_0) (fun hHeld => ?_); refine with_tabW capstanlaw11_CallsRound.tab27 capstanlaw11_CallsRound.bits27 (fun HT_ HW_ => ?_)
                 generalize wr.drew = w59 at HO_11 HO_16 HO_219000 HO_219001 HO_219002 BK218 HB GG53 HQ60 hf53_0 hx225_0 hx53_0 hHeld ⊢
                 refine pure_ (i := 0) (N := some 116) (v := ?_) (a' := ?_) #[true, false, false, false, false, false, false, false, false, false, false] rfl rfl (any_of HT_.out (by kernel_rfl)) (fun _ _ _ h => h) (Or.inl ⟨by rfl, ?_⟩) ?_ ?_
                 rotate_left
                 ·
                  intro w'
                  go_simp
                  with_reducible rfl
                 rotate_left
                 ·
                  simp only [Act.put, List.setIfInBounds_toArray, List.set_cons_zero, List.set_cons_succ, i64_w, i32_w]
                  rfl
                 refine pure_ (i := 1) (N := some 117) (v := ?_) (a' := ?_) #[true, true, false, false, false, false, false, false, false, false, false] rfl rfl (any_of HT_.out (by kernel_rfl)) (fun _ _ _ h => h) (Or.inl ⟨by rfl, ?_⟩) ?_ ?_
                 rotate_left
                 ·
                  intro w'
                  go_simp
                  with_reducible rfl
                 rotate_left
                 ·
                  simp only [Act.put, List.setIfInBounds_toArray, List.set_cons_zero, List.set_cons_succ, i64_w, i32_w]
                  rfl
                 refine pure_ (i := 2) (N := some 118) (v := ?_) (a' := ?_) #[true, true, true, false, false, false, false, false, false, false, false] rfl rfl (any_of HT_.out (by kernel_rfl)) (fun _ _ _ h => h) (Or.inl ⟨by rfl, ?_⟩) ?_ ?_
                 rotate_left
                 ·
                  intro w'
                  go_simp
                  with_reducible rfl
                 rotate_left
                 ·
                  simp only [Act.put, List.setIfInBounds_toArray, List.set_cons_zero, List.set_cons_succ, i64_w, i32_w]
                  rfl
                 refine pure_ (i := 3) (N := some 119) (v := ?_) (a' := ?_) #[true, true, true, true, false, false, false, false, false, false, false] rfl rfl (any_of HT_.out (by kernel_rfl)) (fun _ _ _ h => h) (Or.inl ⟨by rfl, ?_⟩) ?_ ?_
                 rotate_left
                 ·
                  intro w'
                  go_simp
                  with_reducible rfl
                 rotate_left
                 ·
                  simp only [Act.put, List.setIfInBounds_toArray, List.set_cons_zero, List.set_cons_succ, i64_w, i32_w]
                  rfl
                 refine pure_ (i := 4) (N := some 120) (v := ?_) (a' := ?_) #[true, true, true, true, true, false, false, false, false, false, false] rfl rfl (any_of HT_.out (by kernel_rfl)) (fun _ _ _ h => h) (Or.inl ⟨by rfl, ?_⟩) ?_ ?_
                 rotate_left
                 ·
                  intro w'
                  go_simp
                  with_reducible rfl
                 rotate_left
                 ·
                  simp only [Act.put, List.setIfInBounds_toArray, List.set_cons_zero, List.set_cons_succ, i64_w, i32_w]
                  rfl
                 refine pure_ (i := 6) (N := some 122) (v := ?_) (a' := ?_) #[true, true, true, true, true, false, true, false, false, false, false] rfl rfl (any_of HT_.out (by kernel_rfl)) (fun _ _ _ h => h) (Or.inl ⟨by rfl, ?_⟩) ?_ ?_
                 rotate_left
                 ·
                  intro w'
                  go_simp
                  with_reducible rfl
                 rotate_left
                 ·
                  simp only [Act.put, List.setIfInBounds_toArray, List.set_cons_zero, List.set_cons_succ, i64_w, i32_w]
                  rfl
                 refine pure_ (i := 7) (N := some 123) (v := ?_) (a' := ?_) #[true, true, true, true, true, false, true, true, false, false, false] rfl rfl (any_of HT_.out (by kernel_rfl)) (fun _ _ _ h => h) (Or.inl ⟨by rfl, ?_⟩) ?_ ?_
                 rotate_left
                 ·
                  intro w'
                  go_simp
                  with_reducible rfl
                 rotate_left
                 ·
                  simp only [Act.put, List.setIfInBounds_toArray, List.set_cons_zero, List.set_cons_succ, i64_w, i32_w]
                  rfl
                 refine take_ (i := 5) (N := some 121) (v := ?_) (a' := ?_) #[true, true, true, true, true, true, true, true, false, false, false] rfl rfl (take_ofW HT_.out HW_.out (by kernel_rfl)) (fun _ _ _ h => h) (Or.inl ⟨by rfl, ?_⟩) hHeld ?_ ?_
                 rotate_left
                 ·
                  intro w' s0
                  go_simp
                  with_reducible rfl
                 rotate_left
                 ·
                  simp only [Act.put, List.setIfInBounds_toArray, List.set_cons_zero, List.set_cons_succ, i64_w, i32_w]
                  rfl
                 refine pure_ (i := 8) (N := some 124) (v := ?_) (a' := ?_) #[true, true, true, true, true, true, true, true, true, false, false] rfl rfl (any_of HT_.out (by kernel_rfl)) (fun _ _ _ h => h) (Or.inl ⟨by rfl, ?_⟩) ?_ ?_
                 rotate_left
                 ·
                  intro w'
                  go_simp
                  with_reducible rfl
                 rotate_left
                 ·
                  simp only [Act.put, List.setIfInBounds_toArray, List.set_cons_zero, List.set_cons_succ, i64_w, i32_w]
                  rfl
                 refine pure_ (i := 9) (N := some 125) (v := ?_) (a' := ?_) #[true, true, true, true, true, true, true, true, true, true, false] rfl rfl (any_of HT_.out (by kernel_rfl)) (fun _ _ _ h => h) (Or.inl ⟨by rfl, ?_⟩) ?_ ?_
                 rotate_left
                 ·
                  intro w'
                  go_simp
                  with_reducible rfl
                 rotate_left
                 ·
                  simp only [Act.put, List.setIfInBounds_toArray, List.set_cons_zero, List.set_cons_succ, i64_w, i32_w]
                  rfl
                 refine last_ (i := 10) (N := none) #[true, true, true, true, true, true, true, true, true, true, true] rfl rfl (one_of HT_.out (by kernel_rfl)) (by decide) (fun K hK => ?_)
                 refine skip_ (w1 := ?_) (by rfl) rfl ?_ ?_
                 rotate_left
                 ·
                  go_simp
                  rfl
                 refine hK.out _ _ ?_
                 clear hK K
                 refine done_ (done_of HT_.out (by kernel_rfl)) ?_
                 try go_wp2_with (first | ((with_reducible refine gate_callee (f := 37) rfl ?_); refine goesL_ (some 129) rfl rfl Try.func37 (by kernel_rfl) rfl #[.int .i64 (wrap64 (1 + (wrap64 (Int.tmod (IntKind.u64.wrap (a0)) 16)))), .slice (some ⟨go53, 0, none⟩) y226.length co32] rfl (by (try simp only [List.map_toArray, List.map_cons, List.map_nil]); first | done | (rw [show y226.length = x11_1.length from (Kd.R_reads' HQ60.out).1.symm] <;> rfl) | rfl | (simp only [List.length_drop, List.length_take]; rfl)) ?_; (with_reducible refine (capstanlaw11_made.calls k3 (wrap64 (1 + (wrap64 (Int.tmod (IntKind.u64.wrap (a0)) 16)))) _ _ y226 t227 t230 t233 t236 _ ?side1 ?side2 A55.out).mono ?_); (case side1 => refine (Kd.R_reads' (e := 66) (base := w.heap.size) (ok := fun k_ => True) (n := x11_1.length) (c := co32) ?_).2.2; exact (by (with_reducible repeat (first | apply Kd.R_alloc | apply Kd.R_drewN | apply Kd.R_drew)); first | exact HQ60.out | exact Kd.R_mono (HQ60.out) (fun _ h_ => h_.2))); (case side2 => rw [show y226.length = x11_1.length from (Kd.R_reads' HQ60.out).1.symm]; exact (Kd.R_reads' HO_11.out).2.1); rintro e w61 ⟨v228, v231, v234, rfl, ho0, ho1, ho2, hb⟩; refine ⟨_, rfl, ?_⟩; have n0_ := Aside0.mk (Kd.R_below (by (with_reducible repeat (first | apply Kd.R_alloc | apply Kd.R_drewN | apply Kd.R_drew)); first | exact HQ60.out | exact Kd.R_mono (HQ60.out) (fun _ h_ => h_.2)) hb); have n1_ := Aside0.mk (Kd.R_below (by (with_reducible repeat (first | apply Kd.R_alloc | apply Kd.R_drewN | apply Kd.R_drew)); first | exact (Kd.R_mono (Kd.R_far (p := ⟨go53, ((ji47) : Int).toNat, none⟩) (Kd.R_types HO_16.out GG53.out (by decide)) (fun _ hk => hk.2) (.int .u16 (Go.bits .or .u16 (rd x11_1 (ji47)) (ji52)))) (fun _ h_ => h_.1)) | exact Kd.R_mono ((Kd.R_mono (Kd.R_far (p := ⟨go53, ((ji47) : Int).toNat, none⟩) (Kd.R_types HO_16.out GG53.out (by decide)) (fun _ hk => hk.2) (.int .u16 (Go.bits .or .u16 (rd x11_1 (ji47)) (ji52)))) (fun _ h_ => h_.1))) (fun _ h_ => h_.2)) hb); have n2_ := Aside0.mk (Kd.R_mono (Kd.R_told (Kd.R_told (Kd.R_old (by (with_reducible repeat (first | apply Kd.R_alloc | apply Kd.R_drewN | apply Kd.R_drew)); first | exact (Kd.R_mono (Kd.R_far (p := ⟨go53, ((ji47) : Int).toNat, none⟩) (Kd.R_types HO_219000.out GG53.out (by decide)) (fun _ hk => hk.2) (.int .u16 (Go.bits .or .u16 (rd x11_1 (ji47)) (ji52)))) (fun _ h_ => h_.1)) | exact Kd.R_mono ((Kd.R_mono (Kd.R_far (p := ⟨go53, ((ji47) : Int).toNat, none⟩) (Kd.R_types HO_219000.out GG53.out (by decide)) (fun _ hk => hk.2) (.int .u16 (Go.bits .or .u16 (rd x11_1 (ji47)) (ji52)))) (fun _ h_ => h_.1))) (fun _ h_ => h_.2)) hb) (Kd.R_base ho0)) (Kd.R_base ho1)) (fun _ h_ => h_.1)); have n3_ := Aside0.mk (Kd.R_mono (Kd.R_told (Kd.R_told (Kd.R_old (by (with_reducible repeat (first | apply Kd.R_alloc | apply Kd.R_drewN | apply Kd.R_drew)); first | exact (Kd.R_mono (Kd.R_far (p := ⟨go53, ((ji47) : Int).toNat, none⟩) (Kd.R_types HO_219001.out GG53.out (by decide)) (fun _ hk => hk.2) (.int .u16 (Go.bits .or .u16 (rd x11_1 (ji47)) (ji52)))) (fun _ h_ => h_.1)) | exact Kd.R_mono ((Kd.R_mono (Kd.R_far (p := ⟨go53, ((ji47) : Int).toNat, none⟩) (Kd.R_types HO_219001.out GG53.out (by decide)) (fun _ hk => hk.2) (.int .u16 (Go.bits .or .u16 (rd x11_1 (ji47)) (ji52)))) (fun _ h_ => h_.1))) (fun _ h_ => h_.2)) hb) (Kd.R_base ho0)) (Kd.R_base ho1)) (fun _ h_ => h_.1)); have n4_ := Aside0.mk (Kd.S_elder' (by (with_reducible repeat (first | apply Kd.S_alloc | apply Kd.S_drewN | apply Kd.S_drew)); first | exact (Kd.S_mono (Kd.S_far (p := ⟨go53, ((ji47) : Int).toNat, none⟩) (Kd.S_types HO_219002.out GG53.out (by decide)) (fun _ hk => hk.2) (.int .u16 (Go.bits .or .u16 (rd x11_1 (ji47)) (ji52)))) (fun _ h_ => h_.1)) | exact Kd.S_mono ((Kd.S_mono (Kd.S_far (p := ⟨go53, ((ji47) : Int).toNat, none⟩) (Kd.S_types HO_219002.out GG53.out (by decide)) (fun _ hk => hk.2) (.int .u16 (Go.bits .or .u16 (rd x11_1 (ji47)) (ji52)))) (fun _ h_ => h_.1))) (fun _ h_ => h_.2)) (Kd.S_base ho2) hb); have n5_ := Aside0.mk (Kd.R_lower (Kd.R_new' (Kd.R_new' ho0 (Kd.R_lt (by (with_reducible repeat (first | apply Kd.R_alloc | apply Kd.R_drewN | apply Kd.R_drew)); first | exact (Kd.R_mono (Kd.R_far (p := ⟨go53, ((ji47) : Int).toNat, none⟩) (Kd.R_types HO_219000.out GG53.out (by decide)) (fun _ hk => hk.2) (.int .u16 (Go.bits .or .u16 (rd x11_1 (ji47)) (ji52)))) (fun _ h_ => h_.1)) | exact Kd.R_mono ((Kd.R_mono (Kd.R_far (p := ⟨go53, ((ji47) : Int).toNat, none⟩) (Kd.R_types HO_219000.out GG53.out (by decide)) (fun _ hk => hk.2) (.int .u16 (Go.bits .or .u16 (rd x11_1 (ji47)) (ji52)))) (fun _ h_ => h_.1))) (fun _ h_ => h_.2)))) (Kd.R_lt (by (with_reducible repeat (first | apply Kd.R_alloc | apply Kd.R_drewN | apply Kd.R_drew)); first | exact (Kd.R_mono (Kd.R_far (p := ⟨go53, ((ji47) : Int).toNat, none⟩) (Kd.R_types HO_219001.out GG53.out (by decide)) (fun _ hk => hk.2) (.int .u16 (Go.bits .or .u16 (rd x11_1 (ji47)) (ji52)))) (fun _ h_ => h_.1)) | exact Kd.R_mono ((Kd.R_mono (Kd.R_far (p := ⟨go53, ((ji47) : Int).toNat, none⟩) (Kd.R_types HO_219001.out GG53.out (by decide)) (fun _ hk => hk.2) (.int .u16 (Go.bits .or .u16 (rd x11_1 (ji47)) (ji52)))) (fun _ h_ => h_.1))) (fun _ h_ => h_.2)))) (below_size (by repeat (first | (with_reducible first | exact HB.out | apply below_alloc | apply pw_below_drewN | apply below_drew1 | refine below_set ?_ GB53.out | refine below_set ?_ GE218.out) | exact HB.out | exact ⟨HB.out.os, HB.out.tape, HB.out.output, HB.out.size, HB.out.block⟩)))); have n6_ := Aside0.mk (Kd.R_lower (Kd.R_new' (Kd.R_new' ho1 (Kd.R_lt (by (with_reducible repeat (first | apply Kd.R_alloc | apply Kd.R_drewN | apply Kd.R_drew)); first | exact (Kd.R_mono (Kd.R_far (p := ⟨go53, ((ji47) : Int).toNat, none⟩) (Kd.R_types HO_219000.out GG53.out (by decide)) (fun _ hk => hk.2) (.int .u16 (Go.bits .or .u16 (rd x11_1 (ji47)) (ji52)))) (fun _ h_ => h_.1)) | exact Kd.R_mono ((Kd.R_mono (Kd.R_far (p := ⟨go53, ((ji47) : Int).toNat, none⟩) (Kd.R_types HO_219000.out GG53.out (by decide)) (fun _ hk => hk.2) (.int .u16 (Go.bits .or .u16 (rd x11_1 (ji47)) (ji52)))) (fun _ h_ => h_.1))) (fun _ h_ => h_.2)))) (Kd.R_lt (by (with_reducible repeat (first | apply Kd.R_alloc | apply Kd.R_drewN | apply Kd.R_drew)); first | exact (Kd.R_mono (Kd.R_far (p := ⟨go53, ((ji47) : Int).toNat, none⟩) (Kd.R_types HO_219001.out GG53.out (by decide)) (fun _ hk => hk.2) (.int .u16 (Go.bits .or .u16 (rd x11_1 (ji47)) (ji52)))) (fun _ h_ => h_.1)) | exact Kd.R_mono ((Kd.R_mono (Kd.R_far (p := ⟨go53, ((ji47) : Int).toNat, none⟩) (Kd.R_types HO_219001.out GG53.out (by decide)) (fun _ hk => hk.2) (.int .u16 (Go.bits .or .u16 (rd x11_1 (ji47)) (ji52)))) (fun _ h_ => h_.1))) (fun _ h_ => h_.2)))) (below_size (by repeat (first | (with_reducible first | exact HB.out | apply below_alloc | apply pw_below_drewN | apply below_drew1 | refine below_set ?_ GB53.out | refine below_set ?_ GE218.out) | exact HB.out | exact ⟨HB.out.os, HB.out.tape, HB.out.output, HB.out.size, HB.out.block⟩)))); have n7_ := Aside0.mk (Kd.S_lower (Kd.S_new' ho2 (Kd.S_lt (by (with_reducible repeat (first | apply Kd.S_alloc | apply Kd.S_drewN | apply Kd.S_drew)); first | exact (Kd.S_mono (Kd.S_far (p := ⟨go53, ((ji47) : Int).toNat, none⟩) (Kd.S_types HO_219002.out GG53.out (by decide)) (fun _ hk => hk.2) (.int .u16 (Go.bits .or .u16 (rd x11_1 (ji47)) (ji52)))) (fun _ h_ => h_.1)) | exact Kd.S_mono ((Kd.S_mono (Kd.S_far (p := ⟨go53, ((ji47) : Int).toNat, none⟩) (Kd.S_types HO_219002.out GG53.out (by decide)) (fun _ hk => hk.2) (.int .u16 (Go.bits .or .u16 (rd x11_1 (ji47)) (ji52)))) (fun _ h_ => h_.1))) (fun _ h_ => h_.2)))) (below_size (by repeat (first | (with_reducible first | exact HB.out | apply below_alloc | apply pw_below_drewN | apply below_drew1 | refine below_set ?_ GB53.out | refine below_set ?_ GE218.out) | exact HB.out | exact ⟨HB.out.os, HB.out.tape, HB.out.output, HB.out.size, HB.out.block⟩)))); have n8_ := Aside0.mk (blk_below (g := gb218) (o := .cells #[.slice Ao35 t208.length co35, .slice Ao37 t211.length co37, .slice Ao38 t214.length co38, .int .i64 t217] 25 (0, 0)) (by (with_reducible repeat (first | refine blk_drewN ?_ _ | refine blk_drew ?_ | refine blk_alloc ?_ _)); refine blk_far ?_ (by have h_ := Kd.R_ne HO_11.out BK218.out (by decide); intro e_; exact h_ (by rw [e_]; rfl)) _; (with_reducible repeat (first | refine blk_drewN ?_ _ | refine blk_drew ?_ | refine blk_alloc ?_ _)); exact BK218.out) hb); have n9_ := Aside0.mk (below_step (by repeat (first | (with_reducible first | exact HB.out | apply below_alloc | apply pw_below_drewN | apply below_drew1 | refine below_set ?_ GB53.out | refine below_set ?_ GE218.out) | exact HB.out | exact ⟨HB.out.os, HB.out.tape, HB.out.output, HB.out.size, HB.out.block⟩)) hb); clear HO_11; clear HO_16; clear HO_219000; clear HO_219001; clear HO_219002; clear BK218; clear HB; have HO_11 := n0_; have HO_16 := n1_; have HO_219000 := n2_; have HO_219001 := n3_; have HO_219002 := n4_; have HO229 := n5_; have HO232 := n6_; have HO235 := n7_; have BK218 := n8_; have HB := n9_; clear n0_ n1_ n2_ n3_ n4_ n5_ n6_ n7_ n8_ n9_; (try clear hb); (try clear hb2); (try clear hk); (try clear hi); (try clear ho0); (try clear ho1); (try clear ho2); obtain ⟨Ao62, co62, eo62⟩ := Kd.R_slice HO229.out; subst eo62; obtain ⟨Ao63, co63, eo63⟩ := Kd.R_slice HO232.out; subst eo63; obtain ⟨Ao64, co64, eo64⟩ := Kd.S_slice HO235.out; subst eo64) | ((with_reducible refine gate_callee (f := 33) rfl ?_); refine goesL_ (some 130) rfl rfl Try.func33 (by kernel_rfl) rfl #[.agg #[.slice Ao62 t227.length co62, .slice Ao63 t230.length co63, .slice Ao64 t233.length co64, .int .i64 t236]] rfl (by (try simp only [List.map_toArray, List.map_cons, List.map_nil]); first | done | rfl | (simp only [List.length_drop, List.length_take]; rfl)) ?_; (with_reducible refine (calls_Check.calls k3 _ _ t227 _ _ t230 _ _ t233 t236 t237 _ ?side1 ?side2 ?side3 ?side4 ?side5 ?side6 A56.out).mono ?_); (case side1 => repeat (first | exact (Kd.R_reads' HO229.out).2.2 | (with_reducible refine Kd.C_alloc ?_ _) | (with_reducible refine Kd.C_drewN ?_ _) | (with_reducible refine Kd.C_drew ?_))); (case side2 => exact (Kd.R_reads' HO229.out).2.1); (case side3 => repeat (first | exact (Kd.R_reads' HO232.out).2.2 | (with_reducible refine Kd.C_alloc ?_ _) | (with_reducible refine Kd.C_drewN ?_ _) | (with_reducible refine Kd.C_drew ?_))); (case side4 => exact (Kd.R_reads' HO232.out).2.1); (case side5 => repeat (first | exact (Kd.S_reads' HO235.out).2.2 | (with_reducible refine Kd.C_alloc ?_ _) | (with_reducible refine Kd.C_drewN ?_ _) | (with_reducible refine Kd.C_drew ?_))); (case side6 => exact (Kd.S_reads' HO235.out).2.1); rintro e w65 ⟨rfl, hb⟩; refine ⟨_, rfl, ?_⟩; have n0_ := Aside0.mk (Kd.R_below (by (with_reducible repeat (first | apply Kd.R_alloc | apply Kd.R_drewN | apply Kd.R_drew)); first | exact HO_11.out | exact Kd.R_mono (HO_11.out) (fun _ h_ => h_.2)) hb); have n1_ := Aside0.mk (Kd.R_below (by (with_reducible repeat (first | apply Kd.R_alloc | apply Kd.R_drewN | apply Kd.R_drew)); first | exact HO_16.out | exact Kd.R_mono (HO_16.out) (fun _ h_ => h_.2)) hb); have n2_ := Aside0.mk (Kd.R_below (by (with_reducible repeat (first | apply Kd.R_alloc | apply Kd.R_drewN | apply Kd.R_drew)); first | exact HO_219000.out | exact Kd.R_mono (HO_219000.out) (fun _ h_ => h_.2)) hb); have n3_ := Aside0.mk (Kd.R_below (by (with_reducible repeat (first | apply Kd.R_alloc | apply Kd.R_drewN | apply Kd.R_drew)); first | exact HO_219001.out | exact Kd.R_mono (HO_219001.out) (fun _ h_ => h_.2)) hb); have n4_ := Aside0.mk (Kd.S_below (by (with_reducible repeat (first | apply Kd.S_alloc | apply Kd.S_drewN | apply Kd.S_drew)); first | exact HO_219002.out | exact Kd.S_mono (HO_219002.out) (fun _ h_ => h_.2)) hb); have n5_ := Aside0.mk (Kd.R_below (by (with_reducible repeat (first | apply Kd.R_alloc | apply Kd.R_drewN | apply Kd.R_drew)); first | exact HO229.out | exact Kd.R_mono (HO229.out) (fun _ h_ => h_.2)) hb); have n6_ := Aside0.mk (Kd.R_below (by (with_reducible repeat (first | apply Kd.R_alloc | apply Kd.R_drewN | apply Kd.R_drew)); first | exact HO232.out | exact Kd.R_mono (HO232.out) (fun _ h_ => h_.2)) hb); have n7_ := Aside0.mk (Kd.S_below (by (with_reducible repeat (first | apply Kd.S_alloc | apply Kd.S_drewN | apply Kd.S_drew)); first | exact HO235.out | exact Kd.S_mono (HO235.out) (fun _ h_ => h_.2)) hb); have n8_ := Aside0.mk (blk_below (g := gb218) (o := .cells #[.slice Ao35 t208.length co35, .slice Ao37 t211.length co37, .slice Ao38 t214.length co38, .int .i64 t217] 25 (0, 0)) (by (with_reducible repeat (first | refine blk_drewN ?_ _ | refine blk_drew ?_ | refine blk_alloc ?_ _)); exact BK218.out) hb); have n9_ := Aside0.mk (below_step (by repeat (first | (with_reducible first | exact HB.out | apply below_alloc | apply pw_below_drewN | apply below_drew1 | refine below_set ?_ GE218.out) | exact HB.out | exact ⟨HB.out.os, HB.out.tape, HB.out.output, HB.out.size, HB.out.block⟩)) hb); clear HO_11; clear HO_16; clear HO_219000; clear HO_219001; clear HO_219002; clear HO229; clear HO232; clear HO235; clear BK218; clear HB; have HO_11 := n0_; have HO_16 := n1_; have HO_219000 := n2_; have HO_219001 := n3_; have HO_219002 := n4_; have HO229 := n5_; have HO232 := n6_; have HO235 := n7_; have BK218 := n8_; have HB := n9_; clear n0_ n1_ n2_ n3_ n4_ n5_ n6_ n7_ n8_ n9_; (try clear hb); (try clear hb2); (try clear hk); (try clear hi)))
                 go_ret
                 exact ⟨by first | rfl | (simp [errW_none, errW_some] <;> rfl) | (simp only [← hji47, ← hji50, ← hji52]; first | rfl | (simp [errW_none, errW_some] <;> rfl)) | (simp [*, errW_none, errW_some] <;> rfl), by repeat (first | (with_reducible first | exact HB.out | apply below_alloc | apply pw_below_drewN | apply below_drew1 | refine below_set ?_ GE218.out) | exact HB.out | exact ⟨HB.out.os, HB.out.tape, HB.out.output, HB.out.size, HB.out.block⟩)⟩
                ·
                 replace c54 := Bool.eq_false_iff.mpr c54
                 subst c54
                 have H1 : ((capstanlaw11_made.f k3 (wrap64 (1 + (wrap64 (Int.tmod (IntKind.u64.wrap (a0)) 16)))) y226).bind fun bt238 => ((calls_Check.f k3 bt238.1 bt238.2.1 bt238.2.2.1 bt238.2.2.2).bind fun t248 => (some (t248 == 0)))) = some r := by rw [if_neg (show ¬ (false = true) by decide)] at H; exact H
                 clear H
                 have H := H1
                 clear H1
                 replace H := Option.bind_eq_some_iff.mp H
                 obtain ⟨⟨t238, t241, t244, t247⟩, A660, H⟩ := H
                 replace H : ((calls_Check.f k3 t238 t241 t244 t247).bind fun t248 => (some (t248 == 0))) = some r := H
                 have A66 := Aside0.mk A660
                 clear A660
                 replace H := Option.bind_eq_some_iff.mp H
                 obtain ⟨t248, A670, H⟩ := H
                 replace H : (some (t248 == 0)) = some r := H
                 have A67 := Aside0.mk A670
                 clear A670
                 obtain rfl := Option.some.inj H
                 obtain ⟨Ao68, co68, eo68⟩ := Kd.R_slice HO_16.out
                 subst eo68
                 try go_wp2
                 (try (rw [drewN_self wr]; generalize hq_ : World.drewN wr _ = wr; have n0_ : Aside0 (Kd.R (Kd.int .u16) 66 wr w.heap.size (fun _ => True) (.slice Ao32 x11_1.length co32) x11_1) := ⟨by rw [← hq_]; exact (by (with_reducible repeat (first | apply Kd.R_alloc | apply Kd.R_drewN | apply Kd.R_drew)); first | exact HO_11.out | exact Kd.R_mono (HO_11.out) (fun _ h_ => h_.2))⟩; have n1_ : Aside0 (Kd.R (Kd.int .i64) 3 wr w.heap.size (fun _ => True) (.slice Ao68 t220.length co68) t220) := ⟨by rw [← hq_]; exact (by (with_reducible repeat (first | apply Kd.R_alloc | apply Kd.R_drewN | apply Kd.R_drew)); first | exact HO_16.out | exact Kd.R_mono (HO_16.out) (fun _ h_ => h_.2))⟩; have n2_ : Aside0 (Kd.R k86 86 wr w.heap.size (fun k_ => some k_ ≠ (.slice Ao37 t211.length co37 : Value).ownBlock) (.slice Ao35 t208.length co35) t208) := ⟨by rw [← hq_]; exact (by (with_reducible repeat (first | apply Kd.R_alloc | apply Kd.R_drewN | apply Kd.R_drew)); first | exact HO_219000.out | exact Kd.R_mono (HO_219000.out) (fun _ h_ => h_.2))⟩; have n3_ : Aside0 (Kd.R k86 86 wr w.heap.size (fun k_ => some k_ ≠ (.slice Ao35 t208.length co35 : Value).ownBlock) (.slice Ao37 t211.length co37) t211) := ⟨by rw [← hq_]; exact (by (with_reducible repeat (first | apply Kd.R_alloc | apply Kd.R_drewN | apply Kd.R_drew)); first | exact HO_219001.out | exact Kd.R_mono (HO_219001.out) (fun _ h_ => h_.2))⟩; have n4_ : Aside0 (Kd.S k52 52 wr w.heap.size (fun _ => True) (.slice Ao38 t214.length co38) t214) := ⟨by rw [← hq_]; exact (by (with_reducible repeat (first | apply Kd.S_alloc | apply Kd.S_drewN | apply Kd.S_drew)); first | exact HO_219002.out | exact Kd.S_mono (HO_219002.out) (fun _ h_ => h_.2))⟩; have n5_ : Aside0 (wr.heap[gb218]? = some (.cells #[.slice Ao35 t208.length co35, .slice Ao37 t211.length co37, .slice Ao38 t214.length co38, .int .i64 t217] 25 (0, 0))) := ⟨by rw [← hq_]; exact (by (with_reducible repeat (first | refine blk_drewN ?_ _ | refine blk_drew ?_ | refine blk_alloc ?_ _)); exact BK218.out)⟩; have n6_ : Aside0 (Below w.heap.size w wr) := ⟨by rw [← hq_]; exact (by repeat (first | (with_reducible first | exact HB.out | apply below_alloc | apply pw_below_drewN | apply below_drew1 | refine below_set ?_ GE218.out) | exact HB.out | exact ⟨HB.out.os, HB.out.tape, HB.out.output, HB.out.size, HB.out.block⟩))⟩; clear HO_11 HO_16 HO_219000 HO_219001 HO_219002 BK218 HB hq_; have HO_11 := n0_; have HO_16 := n1_; have HO_219000 := n2_; have HO_219001 := n3_; have HO_219002 := n4_; have BK218 := n5_; have HB := n6_; clear n0_ n1_ n2_ n3_ n4_ n5_ n6_))
                 (try have hcu69_0 : wr.cell? ⟨gb218, 0, none⟩ = some (.slice Ao35 t208.length co35) := (blk_cell BK218.out 0).trans rfl)
                 (try have hfu69_0 := blk_frozen BK218.out 0)
                 (try have hcu69_1 : wr.cell? ⟨gb218, 1, none⟩ = some (.slice Ao37 t211.length co37) := (blk_cell BK218.out 1).trans rfl)
                 (try have hfu69_1 := blk_frozen BK218.out 1)
                 (try have hcu69_2 : wr.cell? ⟨gb218, 2, none⟩ = some (.slice Ao38 t214.length co38) := (blk_cell BK218.out 2).trans rfl)
                 (try have hfu69_2 := blk_frozen BK218.out 2)
                 (try have hcu69_3 : wr.cell? ⟨gb218, 3, none⟩ = some (.int .i64 t217) := (blk_cell BK218.out 3).trans rfl)
                 (try have hfu69_3 := blk_frozen BK218.out 3)
                 have n0_ := Aside0.mk (Kd.R_drew HO_11.out)
                 have n1_ := Aside0.mk (Kd.R_drew HO_16.out)
                 have n2_ := Aside0.mk (Kd.R_drew HO_219000.out)
                 have n3_ := Aside0.mk (Kd.R_drew HO_219001.out)
                 have n4_ := Aside0.mk (Kd.S_drew HO_219002.out)
                 have n5_ := Aside0.mk (blk_drew BK218.out)
                 have n6_ := Aside0.mk (below_drew1 HB.out)
                 clear HO_11
                 clear HO_16
                 clear HO_219000
                 clear HO_219001
                 clear HO_219002
                 clear BK218
                 clear HB
                 have HO_11 := n0_
                 have HO_16 := n1_
                 have HO_219000 := n2_
                 have HO_219001 := n3_
                 have HO_219002 := n4_
                 have BK218 := n5_
                 have HB := n6_
                 clear n0_ n1_ n2_ n3_ n4_ n5_ n6_
                 have p225 : 0 ≤ ((ji47) : Int) := of_decide_eq_true (by first | (with_reducible assumption) | assumption)
                 have q225 : (ji47) < (x11_1.length : Int) := of_decide_eq_true (by first | (with_reducible assumption) | assumption)
                 obtain ⟨ad225, e225, hx225_0⟩ := Kd.at_int (Kd.R_reads' HO_11.out).2.2 (ji47) p225 q225
                 cases e225
                 replace p225 := eq_true p225
                 replace q225 := eq_true q225
                 have p53 : 0 ≤ ((ji47) : Int) := of_decide_eq_true (by first | (with_reducible assumption) | assumption)
                 have q53 : ((ji47) : Int) < ((x11_1.length : Int) : Int) := of_decide_eq_true (by first | (with_reducible assumption) | assumption)
                 obtain ⟨go53, co53, eo53, gb53, gl53, cl53, HG53⟩ := Kd.R_form HO_11.out (by omega)
                 (first | cases eo53 | (injection eo53 with ea_ en_ ec_; (first | subst ea_ | (injection ea_ with ea_; subst ea_)); subst ec_; clear en_))
                 have GB53 := Aside0.mk gb53
                 have GG53 := Aside0.mk HG53
                 clear gb53 gl53 HG53
                 (first | simp only [add_plain] at hx225_0 | skip)
                 obtain ⟨hx53_0, hf53_0⟩ := Kd.R_celln 0 HO_11.out ((ji47) : Int) p53 q53
                 replace p53 := eq_true p53
                 replace q53 := eq_true q53
                 have HP71 := Kd.R_putn HO_11.out ((ji47) : Int) (Go.bits .or .u16 (rd x11_1 (ji47)) (ji52))
                 rw [← Ny226.out] at HP71
                 have HQ71 := Aside0.mk HP71
                 clear HP71
                 refine start_ (n := 11) (S := fun w' => w'.cell? ⟨go53, ((ji47)).toNat, none⟩ = some (.int .u16 (rd x11_1 (ji47)))) (ds := [10]) #[false, false, false, false, false, false, false, false, false, false, false] (by kernel_rfl) rfl rfl (hx225_0) (fun hHeld => ?_); refine with_tabW capstanlaw11_CallsRound.tab27 capstanlaw11_CallsRound.bits27 (fun HT_ HW_ => ?_)
                 generalize wr.drew = w70 at HO_11 HO_16 HO_219000 HO_219001 HO_219002 BK218 HB GG53 HQ71 hf53_0 hx225_0 hx53_0 hHeld ⊢
                 refine pure_ (i := 0) (N := some 116) (v := ?_) (a' := ?_) #[true, false, false, false, false, false, false, false, false, false, false] rfl rfl (any_of HT_.out (by kernel_rfl)) (fun _ _ _ h => h) (Or.inl ⟨by rfl, ?_⟩) ?_ ?_
                 rotate_left
                 ·
                  intro w'
                  go_simp
                  with_reducible rfl
                 rotate_left
                 ·
                  simp only [Act.put, List.setIfInBounds_toArray, List.set_cons_zero, List.set_cons_succ, i64_w, i32_w]
                  rfl
                 refine pure_ (i := 1) (N := some 117) (v := ?_) (a' := ?_) #[true, true, false, false, false, false, false, false, false, false, false] rfl rfl (any_of HT_.out (by kernel_rfl)) (fun _ _ _ h => h) (Or.inl ⟨by rfl, ?_⟩) ?_ ?_
                 rotate_left
                 ·
                  intro w'
                  go_simp
                  with_reducible rfl
                 rotate_left
                 ·
                  simp only [Act.put, List.setIfInBounds_toArray, List.set_cons_zero, List.set_cons_succ, i64_w, i32_w]
                  rfl
                 refine pure_ (i := 2) (N := some 118) (v := ?_) (a' := ?_) #[true, true, true, false, false, false, false, false, false, false, false] rfl rfl (any_of HT_.out (by kernel_rfl)) (fun _ _ _ h => h) (Or.inl ⟨by rfl, ?_⟩) ?_ ?_
                 rotate_left
                 ·
                  intro w'
                  go_simp
                  with_reducible rfl
                 rotate_left
                 ·
                  simp only [Act.put, List.setIfInBounds_toArray, List.set_cons_zero, List.set_cons_succ, i64_w, i32_w]
                  rfl
                 refine pure_ (i := 3) (N := some 119) (v := ?_) (a' := ?_) #[true, true, true, true, false, false, false, false, false, false, false] rfl rfl (any_of HT_.out (by kernel_rfl)) (fun _ _ _ h => h) (Or.inl ⟨by rfl, ?_⟩) ?_ ?_
                 rotate_left
                 ·
                  intro w'
                  go_simp
                  with_reducible rfl
                 rotate_left
                 ·
                  simp only [Act.put, List.setIfInBounds_toArray, List.set_cons_zero, List.set_cons_succ, i64_w, i32_w]
                  rfl
                 refine pure_ (i := 4) (N := some 120) (v := ?_) (a' := ?_) #[true, true, true, true, true, false, false, false, false, false, false] rfl rfl (any_of HT_.out (by kernel_rfl)) (fun _ _ _ h => h) (Or.inl ⟨by rfl, ?_⟩) ?_ ?_
                 rotate_left
                 ·
                  intro w'
                  go_simp
                  with_reducible rfl
                 rotate_left
                 ·
                  simp only [Act.put, List.setIfInBounds_toArray, List.set_cons_zero, List.set_cons_succ, i64_w, i32_w]
                  rfl
                 refine pure_ (i := 6) (N := some 122) (v := ?_) (a' := ?_) #[true, true, true, true, true, false, true, false, false, false, false] rfl rfl (any_of HT_.out (by kernel_rfl)) (fun _ _ _ h => h) (Or.inl ⟨by rfl, ?_⟩) ?_ ?_
                 rotate_left
                 ·
                  intro w'
                  go_simp
                  with_reducible rfl
                 rotate_left
                 ·
                  simp only [Act.put, List.setIfInBounds_toArray, List.set_cons_zero, List.set_cons_succ, i64_w, i32_w]
                  rfl
                 refine pure_ (i := 7) (N := some 123) (v := ?_) (a' := ?_) #[true, true, true, true, true, false, true, true, false, false, false] rfl rfl (any_of HT_.out (by kernel_rfl)) (fun _ _ _ h => h) (Or.inl ⟨by rfl, ?_⟩) ?_ ?_
                 rotate_left
                 ·
                  intro w'
                  go_simp
                  with_reducible rfl
                 rotate_left
                 ·
                  simp only [Act.put, List.setIfInBounds_toArray, List.set_cons_zero, List.set_cons_succ, i64_w, i32_w]
                  rfl
                 refine take_ (i := 5) (N := some 121) (v := ?_) (a' := ?_) #[true, true, true, true, true, true, true, true, false, false, false] rfl rfl (take_ofW HT_.out HW_.out (by kernel_rfl)) (fun _ _ _ h => h) (Or.inl ⟨by rfl, ?_⟩) hHeld ?_ ?_
                 rotate_left
                 ·
                  intro w' s0
                  go_simp
                  with_reducible rfl
                 rotate_left
                 ·
                  simp only [Act.put, List.setIfInBounds_toArray, List.set_cons_zero, List.set_cons_succ, i64_w, i32_w]
                  rfl
                 refine pure_ (i := 8) (N := some 124) (v := ?_) (a' := ?_) #[true, true, true, true, true, true, true, true, true, false, false] rfl rfl (any_of HT_.out (by kernel_rfl)) (fun _ _ _ h => h) (Or.inl ⟨by rfl, ?_⟩) ?_ ?_
                 rotate_left
                 ·
                  intro w'
                  go_simp
                  with_reducible rfl
                 rotate_left
                 ·
                  simp only [Act.put, List.setIfInBounds_toArray, List.set_cons_zero, List.set_cons_succ, i64_w, i32_w]
                  rfl
                 refine pure_ (i := 9) (N := some 125) (v := ?_) (a' := ?_) #[true, true, true, true, true, true, true, true, true, true, false] rfl rfl (any_of HT_.out (by kernel_rfl)) (fun _ _ _ h => h) (Or.inl ⟨by rfl, ?_⟩) ?_ ?_
                 rotate_left
                 ·
                  intro w'
                  go_simp
                  with_reducible rfl
                 rotate_left
                 ·
                  simp only [Act.put, List.setIfInBounds_toArray, List.set_cons_zero, List.set_cons_succ, i64_w, i32_w]
                  rfl
                 refine last_ (i := 10) (N := none) #[true, true, true, true, true, true, true, true, true, true, true] rfl rfl (one_of HT_.out (by kernel_rfl)) (by decide) (fun K hK => ?_)
                 refine skip_ (w1 := ?_) (by rfl) rfl ?_ ?_
                 rotate_left
                 ·
                  go_simp
                  rfl
                 refine hK.out _ _ ?_
                 clear hK K
                 refine done_ (done_of HT_.out (by kernel_rfl)) ?_
                 try go_wp2_with (first | ((with_reducible refine gate_callee (f := 37) rfl ?_); refine goesL_ (some 129) rfl rfl Try.func37 (by kernel_rfl) rfl #[.int .i64 (wrap64 (1 + (wrap64 (Int.tmod (IntKind.u64.wrap (a0)) 16)))), .slice (some ⟨go53, 0, none⟩) y226.length co32] rfl (by (try simp only [List.map_toArray, List.map_cons, List.map_nil]); first | done | (rw [show y226.length = x11_1.length from (Kd.R_reads' HQ71.out).1.symm] <;> rfl) | rfl | (simp only [List.length_drop, List.length_take]; rfl)) ?_; (with_reducible refine (capstanlaw11_made.calls k3 (wrap64 (1 + (wrap64 (Int.tmod (IntKind.u64.wrap (a0)) 16)))) _ _ y226 t238 t241 t244 t247 _ ?side1 ?side2 A66.out).mono ?_); (case side1 => refine (Kd.R_reads' (e := 66) (base := w.heap.size) (ok := fun k_ => True) (n := x11_1.length) (c := co32) ?_).2.2; exact (by (with_reducible repeat (first | apply Kd.R_alloc | apply Kd.R_drewN | apply Kd.R_drew)); first | exact HQ71.out | exact Kd.R_mono (HQ71.out) (fun _ h_ => h_.2))); (case side2 => rw [show y226.length = x11_1.length from (Kd.R_reads' HQ71.out).1.symm]; exact (Kd.R_reads' HO_11.out).2.1); rintro e w72 ⟨v239, v242, v245, rfl, ho0, ho1, ho2, hb⟩; refine ⟨_, rfl, ?_⟩; have n0_ := Aside0.mk (Kd.R_below (by (with_reducible repeat (first | apply Kd.R_alloc | apply Kd.R_drewN | apply Kd.R_drew)); first | exact HQ71.out | exact Kd.R_mono (HQ71.out) (fun _ h_ => h_.2)) hb); have n1_ := Aside0.mk (Kd.R_below (by (with_reducible repeat (first | apply Kd.R_alloc | apply Kd.R_drewN | apply Kd.R_drew)); first | exact (Kd.R_mono (Kd.R_far (p := ⟨go53, ((ji47) : Int).toNat, none⟩) (Kd.R_types HO_16.out GG53.out (by decide)) (fun _ hk => hk.2) (.int .u16 (Go.bits .or .u16 (rd x11_1 (ji47)) (ji52)))) (fun _ h_ => h_.1)) | exact Kd.R_mono ((Kd.R_mono (Kd.R_far (p := ⟨go53, ((ji47) : Int).toNat, none⟩) (Kd.R_types HO_16.out GG53.out (by decide)) (fun _ hk => hk.2) (.int .u16 (Go.bits .or .u16 (rd x11_1 (ji47)) (ji52)))) (fun _ h_ => h_.1))) (fun _ h_ => h_.2)) hb); have n2_ := Aside0.mk (Kd.R_mono (Kd.R_told (Kd.R_told (Kd.R_old (by (with_reducible repeat (first | apply Kd.R_alloc | apply Kd.R_drewN | apply Kd.R_drew)); first | exact (Kd.R_mono (Kd.R_far (p := ⟨go53, ((ji47) : Int).toNat, none⟩) (Kd.R_types HO_219000.out GG53.out (by decide)) (fun _ hk => hk.2) (.int .u16 (Go.bits .or .u16 (rd x11_1 (ji47)) (ji52)))) (fun _ h_ => h_.1)) | exact Kd.R_mono ((Kd.R_mono (Kd.R_far (p := ⟨go53, ((ji47) : Int).toNat, none⟩) (Kd.R_types HO_219000.out GG53.out (by decide)) (fun _ hk => hk.2) (.int .u16 (Go.bits .or .u16 (rd x11_1 (ji47)) (ji52)))) (fun _ h_ => h_.1))) (fun _ h_ => h_.2)) hb) (Kd.R_base ho0)) (Kd.R_base ho1)) (fun _ h_ => h_.1)); have n3_ := Aside0.mk (Kd.R_mono (Kd.R_told (Kd.R_told (Kd.R_old (by (with_reducible repeat (first | apply Kd.R_alloc | apply Kd.R_drewN | apply Kd.R_drew)); first | exact (Kd.R_mono (Kd.R_far (p := ⟨go53, ((ji47) : Int).toNat, none⟩) (Kd.R_types HO_219001.out GG53.out (by decide)) (fun _ hk => hk.2) (.int .u16 (Go.bits .or .u16 (rd x11_1 (ji47)) (ji52)))) (fun _ h_ => h_.1)) | exact Kd.R_mono ((Kd.R_mono (Kd.R_far (p := ⟨go53, ((ji47) : Int).toNat, none⟩) (Kd.R_types HO_219001.out GG53.out (by decide)) (fun _ hk => hk.2) (.int .u16 (Go.bits .or .u16 (rd x11_1 (ji47)) (ji52)))) (fun _ h_ => h_.1))) (fun _ h_ => h_.2)) hb) (Kd.R_base ho0)) (Kd.R_base ho1)) (fun _ h_ => h_.1)); have n4_ := Aside0.mk (Kd.S_elder' (by (with_reducible repeat (first | apply Kd.S_alloc | apply Kd.S_drewN | apply Kd.S_drew)); first | exact (Kd.S_mono (Kd.S_far (p := ⟨go53, ((ji47) : Int).toNat, none⟩) (Kd.S_types HO_219002.out GG53.out (by decide)) (fun _ hk => hk.2) (.int .u16 (Go.bits .or .u16 (rd x11_1 (ji47)) (ji52)))) (fun _ h_ => h_.1)) | exact Kd.S_mono ((Kd.S_mono (Kd.S_far (p := ⟨go53, ((ji47) : Int).toNat, none⟩) (Kd.S_types HO_219002.out GG53.out (by decide)) (fun _ hk => hk.2) (.int .u16 (Go.bits .or .u16 (rd x11_1 (ji47)) (ji52)))) (fun _ h_ => h_.1))) (fun _ h_ => h_.2)) (Kd.S_base ho2) hb); have n5_ := Aside0.mk (Kd.R_lower (Kd.R_new' (Kd.R_new' ho0 (Kd.R_lt (by (with_reducible repeat (first | apply Kd.R_alloc | apply Kd.R_drewN | apply Kd.R_drew)); first | exact (Kd.R_mono (Kd.R_far (p := ⟨go53, ((ji47) : Int).toNat, none⟩) (Kd.R_types HO_219000.out GG53.out (by decide)) (fun _ hk => hk.2) (.int .u16 (Go.bits .or .u16 (rd x11_1 (ji47)) (ji52)))) (fun _ h_ => h_.1)) | exact Kd.R_mono ((Kd.R_mono (Kd.R_far (p := ⟨go53, ((ji47) : Int).toNat, none⟩) (Kd.R_types HO_219000.out GG53.out (by decide)) (fun _ hk => hk.2) (.int .u16 (Go.bits .or .u16 (rd x11_1 (ji47)) (ji52)))) (fun _ h_ => h_.1))) (fun _ h_ => h_.2)))) (Kd.R_lt (by (with_reducible repeat (first | apply Kd.R_alloc | apply Kd.R_drewN | apply Kd.R_drew)); first | exact (Kd.R_mono (Kd.R_far (p := ⟨go53, ((ji47) : Int).toNat, none⟩) (Kd.R_types HO_219001.out GG53.out (by decide)) (fun _ hk => hk.2) (.int .u16 (Go.bits .or .u16 (rd x11_1 (ji47)) (ji52)))) (fun _ h_ => h_.1)) | exact Kd.R_mono ((Kd.R_mono (Kd.R_far (p := ⟨go53, ((ji47) : Int).toNat, none⟩) (Kd.R_types HO_219001.out GG53.out (by decide)) (fun _ hk => hk.2) (.int .u16 (Go.bits .or .u16 (rd x11_1 (ji47)) (ji52)))) (fun _ h_ => h_.1))) (fun _ h_ => h_.2)))) (below_size (by repeat (first | (with_reducible first | exact HB.out | apply below_alloc | apply pw_below_drewN | apply below_drew1 | refine below_set ?_ GB53.out | refine below_set ?_ GE218.out) | exact HB.out | exact ⟨HB.out.os, HB.out.tape, HB.out.output, HB.out.size, HB.out.block⟩)))); have n6_ := Aside0.mk (Kd.R_lower (Kd.R_new' (Kd.R_new' ho1 (Kd.R_lt (by (with_reducible repeat (first | apply Kd.R_alloc | apply Kd.R_drewN | apply Kd.R_drew)); first | exact (Kd.R_mono (Kd.R_far (p := ⟨go53, ((ji47) : Int).toNat, none⟩) (Kd.R_types HO_219000.out GG53.out (by decide)) (fun _ hk => hk.2) (.int .u16 (Go.bits .or .u16 (rd x11_1 (ji47)) (ji52)))) (fun _ h_ => h_.1)) | exact Kd.R_mono ((Kd.R_mono (Kd.R_far (p := ⟨go53, ((ji47) : Int).toNat, none⟩) (Kd.R_types HO_219000.out GG53.out (by decide)) (fun _ hk => hk.2) (.int .u16 (Go.bits .or .u16 (rd x11_1 (ji47)) (ji52)))) (fun _ h_ => h_.1))) (fun _ h_ => h_.2)))) (Kd.R_lt (by (with_reducible repeat (first | apply Kd.R_alloc | apply Kd.R_drewN | apply Kd.R_drew)); first | exact (Kd.R_mono (Kd.R_far (p := ⟨go53, ((ji47) : Int).toNat, none⟩) (Kd.R_types HO_219001.out GG53.out (by decide)) (fun _ hk => hk.2) (.int .u16 (Go.bits .or .u16 (rd x11_1 (ji47)) (ji52)))) (fun _ h_ => h_.1)) | exact Kd.R_mono ((Kd.R_mono (Kd.R_far (p := ⟨go53, ((ji47) : Int).toNat, none⟩) (Kd.R_types HO_219001.out GG53.out (by decide)) (fun _ hk => hk.2) (.int .u16 (Go.bits .or .u16 (rd x11_1 (ji47)) (ji52)))) (fun _ h_ => h_.1))) (fun _ h_ => h_.2)))) (below_size (by repeat (first | (with_reducible first | exact HB.out | apply below_alloc | apply pw_below_drewN | apply below_drew1 | refine below_set ?_ GB53.out | refine below_set ?_ GE218.out) | exact HB.out | exact ⟨HB.out.os, HB.out.tape, HB.out.output, HB.out.size, HB.out.block⟩)))); have n7_ := Aside0.mk (Kd.S_lower (Kd.S_new' ho2 (Kd.S_lt (by (with_reducible repeat (first | apply Kd.S_alloc | apply Kd.S_drewN | apply Kd.S_drew)); first | exact (Kd.S_mono (Kd.S_far (p := ⟨go53, ((ji47) : Int).toNat, none⟩) (Kd.S_types HO_219002.out GG53.out (by decide)) (fun _ hk => hk.2) (.int .u16 (Go.bits .or .u16 (rd x11_1 (ji47)) (ji52)))) (fun _ h_ => h_.1)) | exact Kd.S_mono ((Kd.S_mono (Kd.S_far (p := ⟨go53, ((ji47) : Int).toNat, none⟩) (Kd.S_types HO_219002.out GG53.out (by decide)) (fun _ hk => hk.2) (.int .u16 (Go.bits .or .u16 (rd x11_1 (ji47)) (ji52)))) (fun _ h_ => h_.1))) (fun _ h_ => h_.2)))) (below_size (by repeat (first | (with_reducible first | exact HB.out | apply below_alloc | apply pw_below_drewN | apply below_drew1 | refine below_set ?_ GB53.out | refine below_set ?_ GE218.out) | exact HB.out | exact ⟨HB.out.os, HB.out.tape, HB.out.output, HB.out.size, HB.out.block⟩)))); have n8_ := Aside0.mk (blk_below (g := gb218) (o := .cells #[.slice Ao35 t208.length co35, .slice Ao37 t211.length co37, .slice Ao38 t214.length co38, .int .i64 t217] 25 (0, 0)) (by (with_reducible repeat (first | refine blk_drewN ?_ _ | refine blk_drew ?_ | refine blk_alloc ?_ _)); refine blk_far ?_ (by have h_ := Kd.R_ne HO_11.out BK218.out (by decide); intro e_; exact h_ (by rw [e_]; rfl)) _; (with_reducible repeat (first | refine blk_drewN ?_ _ | refine blk_drew ?_ | refine blk_alloc ?_ _)); exact BK218.out) hb); have n9_ := Aside0.mk (below_step (by repeat (first | (with_reducible first | exact HB.out | apply below_alloc | apply pw_below_drewN | apply below_drew1 | refine below_set ?_ GB53.out | refine below_set ?_ GE218.out) | exact HB.out | exact ⟨HB.out.os, HB.out.tape, HB.out.output, HB.out.size, HB.out.block⟩)) hb); clear HO_11; clear HO_16; clear HO_219000; clear HO_219001; clear HO_219002; clear BK218; clear HB; have HO_11 := n0_; have HO_16 := n1_; have HO_219000 := n2_; have HO_219001 := n3_; have HO_219002 := n4_; have HO240 := n5_; have HO243 := n6_; have HO246 := n7_; have BK218 := n8_; have HB := n9_; clear n0_ n1_ n2_ n3_ n4_ n5_ n6_ n7_ n8_ n9_; (try clear hb); (try clear hb2); (try clear hk); (try clear hi); (try clear ho0); (try clear ho1); (try clear ho2); obtain ⟨Ao73, co73, eo73⟩ := Kd.R_slice HO240.out; subst eo73; obtain ⟨Ao74, co74, eo74⟩ := Kd.R_slice HO243.out; subst eo74; obtain ⟨Ao75, co75, eo75⟩ := Kd.S_slice HO246.out; subst eo75) | ((with_reducible refine gate_callee (f := 33) rfl ?_); refine goesL_ (some 130) rfl rfl Try.func33 (by kernel_rfl) rfl #[.agg #[.slice Ao73 t238.length co73, .slice Ao74 t241.length co74, .slice Ao75 t244.length co75, .int .i64 t247]] rfl (by (try simp only [List.map_toArray, List.map_cons, List.map_nil]); first | done | rfl | (simp only [List.length_drop, List.length_take]; rfl)) ?_; (with_reducible refine (calls_Check.calls k3 _ _ t238 _ _ t241 _ _ t244 t247 t248 _ ?side1 ?side2 ?side3 ?side4 ?side5 ?side6 A67.out).mono ?_); (case side1 => repeat (first | exact (Kd.R_reads' HO240.out).2.2 | (with_reducible refine Kd.C_alloc ?_ _) | (with_reducible refine Kd.C_drewN ?_ _) | (with_reducible refine Kd.C_drew ?_))); (case side2 => exact (Kd.R_reads' HO240.out).2.1); (case side3 => repeat (first | exact (Kd.R_reads' HO243.out).2.2 | (with_reducible refine Kd.C_alloc ?_ _) | (with_reducible refine Kd.C_drewN ?_ _) | (with_reducible refine Kd.C_drew ?_))); (case side4 => exact (Kd.R_reads' HO243.out).2.1); (case side5 => repeat (first | exact (Kd.S_reads' HO246.out).2.2 | (with_reducible refine Kd.C_alloc ?_ _) | (with_reducible refine Kd.C_drewN ?_ _) | (with_reducible refine Kd.C_drew ?_))); (case side6 => exact (Kd.S_reads' HO246.out).2.1); rintro e w76 ⟨rfl, hb⟩; refine ⟨_, rfl, ?_⟩; have n0_ := Aside0.mk (Kd.R_below (by (with_reducible repeat (first | apply Kd.R_alloc | apply Kd.R_drewN | apply Kd.R_drew)); first | exact HO_11.out | exact Kd.R_mono (HO_11.out) (fun _ h_ => h_.2)) hb); have n1_ := Aside0.mk (Kd.R_below (by (with_reducible repeat (first | apply Kd.R_alloc | apply Kd.R_drewN | apply Kd.R_drew)); first | exact HO_16.out | exact Kd.R_mono (HO_16.out) (fun _ h_ => h_.2)) hb); have n2_ := Aside0.mk (Kd.R_below (by (with_reducible repeat (first | apply Kd.R_alloc | apply Kd.R_drewN | apply Kd.R_drew)); first | exact HO_219000.out | exact Kd.R_mono (HO_219000.out) (fun _ h_ => h_.2)) hb); have n3_ := Aside0.mk (Kd.R_below (by (with_reducible repeat (first | apply Kd.R_alloc | apply Kd.R_drewN | apply Kd.R_drew)); first | exact HO_219001.out | exact Kd.R_mono (HO_219001.out) (fun _ h_ => h_.2)) hb); have n4_ := Aside0.mk (Kd.S_below (by (with_reducible repeat (first | apply Kd.S_alloc | apply Kd.S_drewN | apply Kd.S_drew)); first | exact HO_219002.out | exact Kd.S_mono (HO_219002.out) (fun _ h_ => h_.2)) hb); have n5_ := Aside0.mk (Kd.R_below (by (with_reducible repeat (first | apply Kd.R_alloc | apply Kd.R_drewN | apply Kd.R_drew)); first | exact HO240.out | exact Kd.R_mono (HO240.out) (fun _ h_ => h_.2)) hb); have n6_ := Aside0.mk (Kd.R_below (by (with_reducible repeat (first | apply Kd.R_alloc | apply Kd.R_drewN | apply Kd.R_drew)); first | exact HO243.out | exact Kd.R_mono (HO243.out) (fun _ h_ => h_.2)) hb); have n7_ := Aside0.mk (Kd.S_below (by (with_reducible repeat (first | apply Kd.S_alloc | apply Kd.S_drewN | apply Kd.S_drew)); first | exact HO246.out | exact Kd.S_mono (HO246.out) (fun _ h_ => h_.2)) hb); have n8_ := Aside0.mk (blk_below (g := gb218) (o := .cells #[.slice Ao35 t208.length co35, .slice Ao37 t211.length co37, .slice Ao38 t214.length co38, .int .i64 t217] 25 (0, 0)) (by (with_reducible repeat (first | refine blk_drewN ?_ _ | refine blk_drew ?_ | refine blk_alloc ?_ _)); exact BK218.out) hb); have n9_ := Aside0.mk (below_step (by repeat (first | (with_reducible first | exact HB.out | apply below_alloc | apply pw_below_drewN | apply below_drew1 | refine below_set ?_ GE218.out) | exact HB.out | exact ⟨HB.out.os, HB.out.tape, HB.out.output, HB.out.size, HB.out.block⟩)) hb); clear HO_11; clear HO_16; clear HO_219000; clear HO_219001; clear HO_219002; clear HO240; clear HO243; clear HO246; clear BK218; clear HB; have HO_11 := n0_; have HO_16 := n1_; have HO_219000 := n2_; have HO_219001 := n3_; have HO_219002 := n4_; have HO240 := n5_; have HO243 := n6_; have HO246 := n7_; have BK218 := n8_; have HB := n9_; clear n0_ n1_ n2_ n3_ n4_ n5_ n6_ n7_ n8_ n9_; (try clear hb); (try clear hb2); (try clear hk); (try clear hi)))
                 go_ret
                 exact ⟨by first | rfl | (simp [errW_none, errW_some] <;> rfl) | (simp only [← hji47, ← hji50, ← hji52]; first | rfl | (simp [errW_none, errW_some] <;> rfl)) | (simp [*, errW_none, errW_some] <;> rfl), by repeat (first | (with_reducible first | exact HB.out | apply below_alloc | apply pw_below_drewN | apply below_drew1 | refine below_set ?_ GE218.out) | exact HB.out | exact ⟨HB.out.os, HB.out.tape, HB.out.output, HB.out.size, HB.out.block⟩)⟩
               ·
                rw [if_neg c51] at H
                exact absurd H (by simp)
              ·
               rw [if_neg c49] at H
               exact absurd H (by simp)
             ·
              rw [if_neg c48] at H
              exact absurd H (by simp)
       ·
        rw [if_neg c30] at H
        exact absurd H (by simp)
      ·
       rw [if_neg c28] at H
       exact absurd H (by simp)
 ·
  replace c7 := Bool.eq_false_iff.mpr c7
  subst c7
  have H1 : (none) = some r := by rw [if_neg (show ¬ (false = true) by decide)] at H; exact H
  clear H
  have H := H1
  clear H1
  exact absurd H (by simp)

/-- THE ONE PURE STATEMENT of capstanlaw11_CallsRound: yours. -/
def capstanlaw11_CallsRound.Pure : Prop := ∀ (a0 : Int) (l1 : List Int) (a2 : Int) (a3 : Int) (a4 : Bool), (Lit.int .i64 a0).wf = true → l1.length ≤ maxLen → l1.length * 2 ≤ 140737488351232 → (∀ x ∈ l1, (Lit.int .u16 x).wf = true) → (Lit.int .i64 a2).wf = true → (Lit.int .i64 a3).wf = true → ∃ k, capstanlaw11_CallsRound.f k a0 l1 a2 a3 a4 = some true
theorem capstanlaw11_CallsRound.walk (P : capstanlaw11_CallsRound.Pure) (a0 : Int) (a1 : Option Addr) (len1 cap1 : Nat) (z1 : List Int) (a2 : Int) (a3 : Int) (a4 : Bool) (w : World) (w0 : (Lit.int .i64 a0).wf = true) (w1 : (a1 = none ∧ len1 = 0 ∧ cap1 = 0 ∧ z1 = []) ∨ ∃ x, a1 = some x ∧ len1 ≤ cap1 ∧ cap1 ≤ maxLen ∧ z1.length = cap1 ∧ (∀ i, i < z1.length → w.cell? (x.add i) = some (.int .u16 (z1.getD i 0))) ∧ ∀ n ∈ z1, (Lit.int .u16 n).wf = true) (y1 : len1 * 2 ≤ 140737488351232) (w2 : (Lit.int .i64 a2).wf = true) (w3 : (Lit.int .i64 a3).wf = true) :
  Calls Try.prog 7 #[.int .i64 a0, .slice a1 len1 cap1, .int .i64 a2, .int .i64 a3, .bool a4] w fun e w' => e = .returned (.bool true) ∧ Below w.heap.size w w' := by
 obtain ⟨l1, rfl, hr1, hm1, hw1, hc1⟩ := ReadsInt.ofRowC w1
 obtain ⟨k, h⟩ := P a0 l1 a2 a3 a4 w0 hm1 y1 hw1 w2 w3
 refine (capstanlaw11_CallsRound.calls k a0 _ _ l1 a2 a3 a4 true w (Kd.C_of_reads (d := (0 : Int)) (h1 := fun _ => rfl) hr1) hc1 h).mono ?_
 rintro e w' ⟨rfl, hd⟩
 exact ⟨rfl, hd⟩

end Go.Proofs.Ytkmnachdibhdhaa.P
