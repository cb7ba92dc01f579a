/- Contracts of the functions of this seat (each: the call of the function does what the plain Lean function of the same name tells; the conditions stand in each statement). Written by a program of this session and by hand; checked by Lean. -/
import Derived.Test.YtkmnachdibhdhaaP0
import Derived.Test.YtkmnachdibhdhaaP3
import Derived.Test.YtkmnachdibhdhaaP4
import Derived.Test.YtkmnachdibhdhaaP6
import Derived.Test.YtkmnachdibhdhaaP8
import Derived.Test.YtkmnachdibhdhaaP10
import Derived.Test.YtkmnachdibhdhaaP11
import Derived.Test.YtkmnachdibhdhaaP12
import Derived.Test.YtkmnachdibhdhaaP13
import Derived.Test.YtkmnachdibhdhaaP14
import Derived.Test.YtkmnachdibhdhaaP15
namespace Go.Proofs.Ytkmnachdibhdhaa.P
open Go.RowKit Go.Proofs.YtkmnachdibhdhaaW.PrintWords Go.Proofs.YtkmnachdibhdhaaW.PrintLast Go.Proofs.YtkmnachdibhdhaaW.PrintMore
attribute [local go_sem] max2_int min2_int max_two min_two max_three min_three max_four min_four   -- for this text's walks alone
set_option linter.unusedVariables false
set_option linter.unusedSimpArgs false

/-! ### capstanlaw11_CallsTells: function 5 -/
mutual
def capstanlaw11_CallsTells.l0 : Nat → Int → List Int → Int → List Int → Int → List Int → Int → List Int → Int → List (S86) → List (S86) → List (S52) → Int → List (S86) → List (S86) → List (S52) → Int → Option (Bool)
 | 0, _, _, _, _, _, _, _, _, _, _, _, _, _, _, _, _, _ => none
 | k + 1, x1, x6, x7, x8, x9, x10, x11, x12, x14, x251000, x251001, x251002, x251003, x263000, x263001, x263002, x263003 => if x14 < 2 then ((calls_Whom.f x263000 x263001 x263002 x263003 x1).bind fun bt279 => ((calls_Order.f k x263000 x263001 x263002 x263003).bind fun bt283 => ((calls_Leads.f k x263000 x263001 x263002 x263003 x1).bind fun bt287 => ((calls_Deep.f k x263000 x263001 x263002 x263003).bind fun bt291 => (if bt279.2 = x7 then (if bt283.2 = x9 then (if bt287.2 = x11 then (if bt291.2 = x9 then ((calls_Check.f k x263000 x263001 x263002 x263003).bind fun t295 => (capstanlaw11_CallsTells.j1 k x1 x6 x7 x8 x9 x10 x11 x12 x14 bt279.1 bt283.1 bt287.1 bt291.1 (t295 != x9) x251000 x251001 x251002 x251003 x263000 x263001 x263002 x263003)) else (none)) else (none)) else (none)) else (none)))))) else (some true)
def capstanlaw11_CallsTells.j1 : Nat → Int → List Int → Int → List Int → Int → List Int → Int → List Int → Int → List Int → List Int → List Int → List Int → Bool → List (S86) → List (S86) → List (S52) → Int → List (S86) → List (S86) → List (S52) → Int → Option (Bool)
 | 0, _, _, _, _, _, _, _, _, _, _, _, _, _, _, _, _, _, _, _, _, _, _ => none
 | k + 1, x1, x6, x7, x8, x9, x10, x11, x12, x14, x15, x17, x19, x21, x98, x251000, x251001, x251002, x251003, x263000, x263001, x263002, x263003 => if x98 = true then (none) else ((capstanref09_SameInts.f k x15 x6).bind fun t296 => (if t296 = true then ((capstanref09_SameInts.f k x17 x8).bind fun t297 => (if t297 = true then ((capstanref09_SameInts.f k x19 x10).bind fun t298 => (if t298 = true then ((capstanref09_SameInts.f k x21 x12).bind fun t299 => (if t299 = true then ((capstanref08_Same.f k x263000 x263001 x263002 x263003 x251000 x251001 x251002 x251003).bind fun t300 => (capstanlaw11_CallsTells.j2 k x1 x6 x7 x8 x9 x10 x11 x12 x14 x15 x17 x19 x21 (!t300) x251000 x251001 x251002 x251003 x263000 x263001 x263002 x263003)) else (none))) else (none))) else (none))) else (none)))
def capstanlaw11_CallsTells.j2 : Nat → Int → List Int → Int → List Int → Int → List Int → Int → List Int → Int → List Int → List Int → List Int → List Int → Bool → List (S86) → List (S86) → List (S52) → Int → List (S86) → List (S86) → List (S52) → Int → Option (Bool)
 | 0, _, _, _, _, _, _, _, _, _, _, _, _, _, _, _, _, _, _, _, _, _, _ => none
 | k + 1, x1, x6, x7, x8, x9, x10, x11, x12, x14, x15, x17, x19, x21, x126, x251000, x251001, x251002, x251003, x263000, x263001, x263002, x263003 => if x126 = true then (none) else ((capstanlaw11_spoil.f k x15).bind fun t301 => ((capstanlaw11_spoil.f k x17).bind fun t302 => ((capstanlaw11_spoil.f k x19).bind fun t303 => ((capstanlaw11_spoil.f k x21).bind fun t304 => (capstanlaw11_CallsTells.l0 k x1 x6 x7 x8 x9 x10 x11 x12 (wrap64 (x14 + 1)) x251000 x251001 x251002 x251003 x263000 x263001 x263002 x263003)))))
end
def capstanlaw11_CallsTells.f (k : Nat) (l0_0 : List (S86)) (l0_1 : List (S86)) (l0_2 : List (S52)) (a0_3 : Int) (a1 : Int) : Option (Bool) := (capstanlaw08_Great.f k l0_0 l0_1 l0_2 a0_3).bind fun t251 => (if t251 = true then (some true) else ((capstanref08_Copy.f k l0_0 l0_1 l0_2 a0_3).bind fun bt252 => ((capstanref11_Whom.f k l0_0 l0_1 l0_2 a0_3 a1).bind fun bt263 => ((capstanref11_Order.f k l0_0 l0_1 l0_2 a0_3).bind fun bt267 => ((capstanref11_Leads.f k l0_0 l0_1 l0_2 a0_3 a1).bind fun bt271 => ((capstanref11_Deep.f k l0_0 l0_1 l0_2 a0_3).bind fun bt275 => (capstanlaw11_CallsTells.l0 k a1 bt263.1 bt263.2 bt267.1 bt267.2 bt271.1 bt271.2 bt275.1 0 l0_0 l0_1 l0_2 a0_3 bt252.1 bt252.2.1 bt252.2.2.1 bt252.2.2.2)))))))
theorem capstanlaw11_CallsTells.mono_l : ∀ k, (∀ y0 y1 y2 y3 y4 y5 y6 y7 y8 y9 y10 y11 y12 y13 y14 y15 y16, LeO (capstanlaw11_CallsTells.l0 k y0 y1 y2 y3 y4 y5 y6 y7 y8 y9 y10 y11 y12 y13 y14 y15 y16) (capstanlaw11_CallsTells.l0 (k + 1) y0 y1 y2 y3 y4 y5 y6 y7 y8 y9 y10 y11 y12 y13 y14 y15 y16)) ∧ (∀ y0 y1 y2 y3 y4 y5 y6 y7 y8 y9 y10 y11 y12 y13 y14 y15 y16 y17 y18 y19 y20 y21, LeO (capstanlaw11_CallsTells.j1 k y0 y1 y2 y3 y4 y5 y6 y7 y8 y9 y10 y11 y12 y13 y14 y15 y16 y17 y18 y19 y20 y21) (capstanlaw11_CallsTells.j1 (k + 1) y0 y1 y2 y3 y4 y5 y6 y7 y8 y9 y10 y11 y12 y13 y14 y15 y16 y17 y18 y19 y20 y21)) ∧ (∀ y0 y1 y2 y3 y4 y5 y6 y7 y8 y9 y10 y11 y12 y13 y14 y15 y16 y17 y18 y19 y20 y21, LeO (capstanlaw11_CallsTells.j2 k y0 y1 y2 y3 y4 y5 y6 y7 y8 y9 y10 y11 y12 y13 y14 y15 y16 y17 y18 y19 y20 y21) (capstanlaw11_CallsTells.j2 (k + 1) y0 y1 y2 y3 y4 y5 y6 y7 y8 y9 y10 y11 y12 y13 y14 y15 y16 y17 y18 y19 y20 y21))
 | 0 => ⟨fun _ _ _ _ _ _ _ _ _ _ _ _ _ _ _ _ _ r h => by simp [capstanlaw11_CallsTells.l0] at h, fun _ _ _ _ _ _ _ _ _ _ _ _ _ _ _ _ _ _ _ _ _ _ r h => by simp [capstanlaw11_CallsTells.j1] at h, fun _ _ _ _ _ _ _ _ _ _ _ _ _ _ _ _ _ _ _ _ _ _ r h => by simp [capstanlaw11_CallsTells.j2] at h⟩
 | k + 1 => by
  obtain ⟨ih0, ih1, ih2⟩ := capstanlaw11_CallsTells.mono_l k
  refine ⟨?_, ?_, ?_⟩
  ·
   intro y0 y1 y2 y3 y4 y5 y6 y7 y8 y9 y10 y11 y12 y13 y14 y15 y16
   unfold capstanlaw11_CallsTells.l0
   repeat' first
   | (with_reducible exact ih0 _ _ _ _ _ _ _ _ _ _ _ _ _ _ _ _ _)
   | (with_reducible exact ih1 _ _ _ _ _ _ _ _ _ _ _ _ _ _ _ _ _ _ _ _ _ _)
   | (with_reducible exact ih2 _ _ _ _ _ _ _ _ _ _ _ _ _ _ _ _ _ _ _ _ _ _)
   | (with_reducible exact calls_Check.mono _ _ _ _ _)
   | (with_reducible exact calls_Deep.mono _ _ _ _ _)
   | (with_reducible exact calls_Leads.mono _ _ _ _ _ _)
   | (with_reducible exact calls_Order.mono _ _ _ _ _)
   | (with_reducible exact capstanlaw08_Great.mono _ _ _ _ _)
   | (with_reducible exact capstanlaw11_spoil.mono _ _)
   | (with_reducible exact capstanref08_Copy.mono _ _ _ _ _)
   | (with_reducible exact capstanref08_Same.mono _ _ _ _ _ _ _ _ _)
   | (with_reducible exact capstanref09_SameInts.mono _ _ _)
   | (with_reducible exact capstanref11_Deep.mono _ _ _ _ _)
   | (with_reducible exact capstanref11_Leads.mono _ _ _ _ _ _)
   | (with_reducible exact capstanref11_Order.mono _ _ _ _ _)
   | (with_reducible exact capstanref11_Whom.mono _ _ _ _ _ _)
   | (with_reducible exact LeO.refl _)
   | (with_reducible exact LeO.none _)
   | (with_reducible refine LeO.ite ?_ ?_)
   | (with_reducible refine LeO.bind ?_ (fun _ => ?_))
   | exact ih0 _ _ _ _ _ _ _ _ _ _ _ _ _ _ _ _ _
   | exact ih1 _ _ _ _ _ _ _ _ _ _ _ _ _ _ _ _ _ _ _ _ _ _
   | exact ih2 _ _ _ _ _ _ _ _ _ _ _ _ _ _ _ _ _ _ _ _ _ _
   | exact calls_Check.mono _ _ _ _ _
   | exact calls_Deep.mono _ _ _ _ _
   | exact calls_Leads.mono _ _ _ _ _ _
   | exact calls_Order.mono _ _ _ _ _
   | exact capstanlaw08_Great.mono _ _ _ _ _
   | exact capstanlaw11_spoil.mono _ _
   | exact capstanref08_Copy.mono _ _ _ _ _
   | exact capstanref08_Same.mono _ _ _ _ _ _ _ _ _
   | exact capstanref09_SameInts.mono _ _ _
   | exact capstanref11_Deep.mono _ _ _ _ _
   | exact capstanref11_Leads.mono _ _ _ _ _ _
   | exact capstanref11_Order.mono _ _ _ _ _
   | exact capstanref11_Whom.mono _ _ _ _ _ _
   | exact LeO.none _
   | refine LeO.ite ?_ ?_
   | refine LeO.bind ?_ (fun _ => ?_)
  ·
   intro y0 y1 y2 y3 y4 y5 y6 y7 y8 y9 y10 y11 y12 y13 y14 y15 y16 y17 y18 y19 y20 y21
   unfold capstanlaw11_CallsTells.j1
   repeat' first
   | (with_reducible exact ih0 _ _ _ _ _ _ _ _ _ _ _ _ _ _ _ _ _)
   | (with_reducible exact ih1 _ _ _ _ _ _ _ _ _ _ _ _ _ _ _ _ _ _ _ _ _ _)
   | (with_reducible exact ih2 _ _ _ _ _ _ _ _ _ _ _ _ _ _ _ _ _ _ _ _ _ _)
   | (with_reducible exact calls_Check.mono _ _ _ _ _)
   | (with_reducible exact calls_Deep.mono _ _ _ _ _)
   | (with_reducible exact calls_Leads.mono _ _ _ _ _ _)
   | (with_reducible exact calls_Order.mono _ _ _ _ _)
   | (with_reducible exact capstanlaw08_Great.mono _ _ _ _ _)
   | (with_reducible exact capstanlaw11_spoil.mono _ _)
   | (with_reducible exact capstanref08_Copy.mono _ _ _ _ _)
   | (with_reducible exact capstanref08_Same.mono _ _ _ _ _ _ _ _ _)
   | (with_reducible exact capstanref09_SameInts.mono _ _ _)
   | (with_reducible exact capstanref11_Deep.mono _ _ _ _ _)
   | (with_reducible exact capstanref11_Leads.mono _ _ _ _ _ _)
   | (with_reducible exact capstanref11_Order.mono _ _ _ _ _)
   | (with_reducible exact capstanref11_Whom.mono _ _ _ _ _ _)
   | (with_reducible exact LeO.refl _)
   | (with_reducible exact LeO.none _)
   | (with_reducible refine LeO.ite ?_ ?_)
   | (with_reducible refine LeO.bind ?_ (fun _ => ?_))
   | exact ih0 _ _ _ _ _ _ _ _ _ _ _ _ _ _ _ _ _
   | exact ih1 _ _ _ _ _ _ _ _ _ _ _ _ _ _ _ _ _ _ _ _ _ _
   | exact ih2 _ _ _ _ _ _ _ _ _ _ _ _ _ _ _ _ _ _ _ _ _ _
   | exact calls_Check.mono _ _ _ _ _
   | exact calls_Deep.mono _ _ _ _ _
   | exact calls_Leads.mono _ _ _ _ _ _
   | exact calls_Order.mono _ _ _ _ _
   | exact capstanlaw08_Great.mono _ _ _ _ _
   | exact capstanlaw11_spoil.mono _ _
   | exact capstanref08_Copy.mono _ _ _ _ _
   | exact capstanref08_Same.mono _ _ _ _ _ _ _ _ _
   | exact capstanref09_SameInts.mono _ _ _
   | exact capstanref11_Deep.mono _ _ _ _ _
   | exact capstanref11_Leads.mono _ _ _ _ _ _
   | exact capstanref11_Order.mono _ _ _ _ _
   | exact capstanref11_Whom.mono _ _ _ _ _ _
   | exact LeO.none _
   | refine LeO.ite ?_ ?_
   | refine LeO.bind ?_ (fun _ => ?_)
  ·
   intro y0 y1 y2 y3 y4 y5 y6 y7 y8 y9 y10 y11 y12 y13 y14 y15 y16 y17 y18 y19 y20 y21
   unfold capstanlaw11_CallsTells.j2
   repeat' first
   | (with_reducible exact ih0 _ _ _ _ _ _ _ _ _ _ _ _ _ _ _ _ _)
   | (with_reducible exact ih1 _ _ _ _ _ _ _ _ _ _ _ _ _ _ _ _ _ _ _ _ _ _)
   | (with_reducible exact ih2 _ _ _ _ _ _ _ _ _ _ _ _ _ _ _ _ _ _ _ _ _ _)
   | (with_reducible exact calls_Check.mono _ _ _ _ _)
   | (with_reducible exact calls_Deep.mono _ _ _ _ _)
   | (with_reducible exact calls_Leads.mono _ _ _ _ _ _)
   | (with_reducible exact calls_Order.mono _ _ _ _ _)
   | (with_reducible exact capstanlaw08_Great.mono _ _ _ _ _)
   | (with_reducible exact capstanlaw11_spoil.mono _ _)
   | (with_reducible exact capstanref08_Copy.mono _ _ _ _ _)
   | (with_reducible exact capstanref08_Same.mono _ _ _ _ _ _ _ _ _)
   | (with_reducible exact capstanref09_SameInts.mono _ _ _)
   | (with_reducible exact capstanref11_Deep.mono _ _ _ _ _)
   | (with_reducible exact capstanref11_Leads.mono _ _ _ _ _ _)
   | (with_reducible exact capstanref11_Order.mono _ _ _ _ _)
   | (with_reducible exact capstanref11_Whom.mono _ _ _ _ _ _)
   | (with_reducible exact LeO.refl _)
   | (with_reducible exact LeO.none _)
   | (with_reducible refine LeO.ite ?_ ?_)
   | (with_reducible refine LeO.bind ?_ (fun _ => ?_))
   | exact ih0 _ _ _ _ _ _ _ _ _ _ _ _ _ _ _ _ _
   | exact ih1 _ _ _ _ _ _ _ _ _ _ _ _ _ _ _ _ _ _ _ _ _ _
   | exact ih2 _ _ _ _ _ _ _ _ _ _ _ _ _ _ _ _ _ _ _ _ _ _
   | exact calls_Check.mono _ _ _ _ _
   | exact calls_Deep.mono _ _ _ _ _
   | exact calls_Leads.mono _ _ _ _ _ _
   | exact calls_Order.mono _ _ _ _ _
   | exact capstanlaw08_Great.mono _ _ _ _ _
   | exact capstanlaw11_spoil.mono _ _
   | exact capstanref08_Copy.mono _ _ _ _ _
   | exact capstanref08_Same.mono _ _ _ _ _ _ _ _ _
   | exact capstanref09_SameInts.mono _ _ _
   | exact capstanref11_Deep.mono _ _ _ _ _
   | exact capstanref11_Leads.mono _ _ _ _ _ _
   | exact capstanref11_Order.mono _ _ _ _ _
   | exact capstanref11_Whom.mono _ _ _ _ _ _
   | exact LeO.none _
   | refine LeO.ite ?_ ?_
   | refine LeO.bind ?_ (fun _ => ?_)
theorem capstanlaw11_CallsTells.mono : ∀ a0 a1 a2 a3 a4 k, LeO (capstanlaw11_CallsTells.f k a0 a1 a2 a3 a4) (capstanlaw11_CallsTells.f (k + 1) a0 a1 a2 a3 a4) := by
 intro a0 a1 a2 a3 a4 k
 obtain ⟨ih0, ih1, ih2⟩ := capstanlaw11_CallsTells.mono_l k
 unfold capstanlaw11_CallsTells.f
 repeat' first
   | (with_reducible exact ih0 _ _ _ _ _ _ _ _ _ _ _ _ _ _ _ _ _)
   | (with_reducible exact ih1 _ _ _ _ _ _ _ _ _ _ _ _ _ _ _ _ _ _ _ _ _ _)
   | (with_reducible exact ih2 _ _ _ _ _ _ _ _ _ _ _ _ _ _ _ _ _ _ _ _ _ _)
   | (with_reducible exact calls_Check.mono _ _ _ _ _)
   | (with_reducible exact calls_Deep.mono _ _ _ _ _)
   | (with_reducible exact calls_Leads.mono _ _ _ _ _ _)
   | (with_reducible exact calls_Order.mono _ _ _ _ _)
   | (with_reducible exact capstanlaw08_Great.mono _ _ _ _ _)
   | (with_reducible exact capstanlaw11_spoil.mono _ _)
   | (with_reducible exact capstanref08_Copy.mono _ _ _ _ _)
   | (with_reducible exact capstanref08_Same.mono _ _ _ _ _ _ _ _ _)
   | (with_reducible exact capstanref09_SameInts.mono _ _ _)
   | (with_reducible exact capstanref11_Deep.mono _ _ _ _ _)
   | (with_reducible exact capstanref11_Leads.mono _ _ _ _ _ _)
   | (with_reducible exact capstanref11_Order.mono _ _ _ _ _)
   | (with_reducible exact capstanref11_Whom.mono _ _ _ _ _ _)
   | (with_reducible exact LeO.refl _)
   | (with_reducible exact LeO.none _)
   | (with_reducible refine LeO.ite ?_ ?_)
   | (with_reducible refine LeO.bind ?_ (fun _ => ?_))
   | exact ih0 _ _ _ _ _ _ _ _ _ _ _ _ _ _ _ _ _
   | exact ih1 _ _ _ _ _ _ _ _ _ _ _ _ _ _ _ _ _ _ _ _ _ _
   | exact ih2 _ _ _ _ _ _ _ _ _ _ _ _ _ _ _ _ _ _ _ _ _ _
   | exact calls_Check.mono _ _ _ _ _
   | exact calls_Deep.mono _ _ _ _ _
   | exact calls_Leads.mono _ _ _ _ _ _
   | exact calls_Order.mono _ _ _ _ _
   | exact capstanlaw08_Great.mono _ _ _ _ _
   | exact capstanlaw11_spoil.mono _ _
   | exact capstanref08_Copy.mono _ _ _ _ _
   | exact capstanref08_Same.mono _ _ _ _ _ _ _ _ _
   | exact capstanref09_SameInts.mono _ _ _
   | exact capstanref11_Deep.mono _ _ _ _ _
   | exact capstanref11_Leads.mono _ _ _ _ _ _
   | exact capstanref11_Order.mono _ _ _ _ _
   | exact capstanref11_Whom.mono _ _ _ _ _ _
   | exact LeO.none _
   | refine LeO.ite ?_ ?_
   | refine LeO.bind ?_ (fun _ => ?_)
set_option maxHeartbeats 8000000 in
set_option maxRecDepth 100000 in
theorem capstanlaw11_CallsTells.calls (k : Nat) (A0_0 : Option Addr) (c0_0 : Nat) (l0_0 : List (S86)) (A0_1 : Option Addr) (c0_1 : Nat) (l0_1 : List (S86)) (A0_2 : Option Addr) (c0_2 : Nat) (l0_2 : List (S52)) (a0_3 : Int) (a1 : Int) (r : Bool) (w : World) (hr0_0 : Kd.C k86 w A0_0 l0_0.length l0_0) (hc0_0 : l0_0.length ≤ c0_0) (hr0_1 : Kd.C k86 w A0_1 l0_1.length l0_1) (hc0_1 : l0_1.length ≤ c0_1) (hr0_2 : Kd.C k52 w A0_2 l0_2.length l0_2) (hc0_2 : l0_2.length ≤ c0_2) (h : capstanlaw11_CallsTells.f k l0_0 l0_1 l0_2 a0_3 a1 = some r) :
  Calls Try.prog 5 #[.agg #[.slice A0_0 l0_0.length c0_0, .slice A0_1 l0_1.length c0_1, .slice A0_2 l0_2.length c0_2, .int .i64 a0_3], .int .i64 a1] w fun e w' => e = .returned (.bool r) ∧ Below w.heap.size w w' := by
 have hu25 := Try.underlying25
 have HR0_0 := Aside0.mk hr0_0
 have HC0_0 := Aside0.mk hc0_0
 clear hr0_0 hc0_0
 have HR0_1 := Aside0.mk hr0_1
 have HC0_1 := Aside0.mk hc0_1
 clear hr0_1 hc0_1
 have HR0_2 := Aside0.mk hr0_2
 have HC0_2 := Aside0.mk hc0_2
 clear hr0_2 hc0_2
 have HB := Aside0.mk (Below.refl w.heap.size w)
 have H : ((capstanlaw08_Great.f k l0_0 l0_1 l0_2 a0_3).bind fun t251 => (if t251 = true then (some true) else ((capstanref08_Copy.f k l0_0 l0_1 l0_2 a0_3).bind fun bt252 => ((capstanref11_Whom.f k l0_0 l0_1 l0_2 a0_3 a1).bind fun bt263 => ((capstanref11_Order.f k l0_0 l0_1 l0_2 a0_3).bind fun bt267 => ((capstanref11_Leads.f k l0_0 l0_1 l0_2 a0_3 a1).bind fun bt271 => ((capstanref11_Deep.f k l0_0 l0_1 l0_2 a0_3).bind fun bt275 => (capstanlaw11_CallsTells.l0 k a1 bt263.1 bt263.2 bt267.1 bt267.2 bt271.1 bt271.2 bt275.1 0 l0_0 l0_1 l0_2 a0_3 bt252.1 bt252.2.1 bt252.2.2.1 bt252.2.2.2)))))))) = some r := h
 clear h
 replace H := Option.bind_eq_some_iff.mp H
 obtain ⟨t251, A30, H⟩ := H
 replace H : (if t251 = true then (some true) else ((capstanref08_Copy.f k l0_0 l0_1 l0_2 a0_3).bind fun bt252 => ((capstanref11_Whom.f k l0_0 l0_1 l0_2 a0_3 a1).bind fun bt263 => ((capstanref11_Order.f k l0_0 l0_1 l0_2 a0_3).bind fun bt267 => ((capstanref11_Leads.f k l0_0 l0_1 l0_2 a0_3 a1).bind fun bt271 => ((capstanref11_Deep.f k l0_0 l0_1 l0_2 a0_3).bind fun bt275 => (capstanlaw11_CallsTells.l0 k a1 bt263.1 bt263.2 bt267.1 bt267.2 bt271.1 bt271.2 bt275.1 0 l0_0 l0_1 l0_2 a0_3 bt252.1 bt252.2.1 bt252.2.2.1 bt252.2.2.2))))))) = some r := H
 have A3 := Aside0.mk A30
 clear A30
 by_cases c4 : t251 = true
 ·
  subst c4
  have H1 : (some true) = some r := by rw [if_pos rfl] at H; exact H
  clear H
  have H := H1
  clear H1
  obtain rfl := Option.some.inj H
  go_enter Try.func5, Try.ntmps5
  go_wp2_with (first | ((with_reducible refine gate_dst (N := 2) rfl ?_); refine box_event ?hg (N := 2) ?hd (cs := #[.slice A0_0 l0_0.length c0_0, .slice A0_1 l0_1.length c0_1, .slice A0_2 l0_2.length c0_2, .int .i64 a0_3]) (t := 25) ?hr ?_; (case hd => rfl); (case hg => rfl); (case hr => first | (go_simp; done) | (go_simp; rfl)); intro gb250 hg w5 hbox hb; have n0_ := Aside0.mk (below_step (au1) hb); have n1_ := Aside0.mk (hbox); have n2_ := Aside0.mk ((au37 : w.heap.size ≤ gb250)); have n3_ := Aside0.mk ((au37 : w.heap.size ≤ gb250)); clear HB; have HB := n0_; have BK250 := n1_; have GW250 := n2_; have GE250 := n3_; clear n0_ n1_ n2_ n3_; clear hb hbox hg; obtain ⟨hcz6_0, hcz6_1, hcz6_2, hcz6_3, hfz6_0, hfz6_1, hfz6_2, hfz6_3⟩ := blk_all4 BK250.out) | ((with_reducible refine gate_callee (f := 11) rfl ?_); refine goesL_ (some 24) rfl rfl Try.func11 (by kernel_rfl) rfl #[.agg #[.slice A0_0 l0_0.length c0_0, .slice A0_1 l0_1.length c0_1, .slice A0_2 l0_2.length c0_2, .int .i64 a0_3]] rfl (au6) ?_; (with_reducible refine (capstanlaw08_Great.calls k _ _ l0_0 _ _ l0_1 _ _ l0_2 a0_3 true _ ?side1 ?side2 ?side3 ?side4 ?side5 ?side6 A3.out).mono ?_); (case side1 => exact au7); (case side2 => exact HC0_0.out); (case side3 => exact au15); (case side4 => exact HC0_1.out); (case side5 => exact au17); (case side6 => exact HC0_2.out); rintro e w7 ⟨rfl, hb⟩; refine ⟨_, rfl, ?_⟩; have n0_ := Aside0.mk (blk_below (g := gb250) (o := .cells #[.slice A0_0 l0_0.length c0_0, .slice A0_1 l0_1.length c0_1, .slice A0_2 l0_2.length c0_2, .int .i64 a0_3] 25 (0, 0)) (au28) hb); have n1_ := Aside0.mk (below_step (au33) hb); clear BK250; clear HB; have BK250 := n0_; have HB := n1_; clear n0_ n1_; (try clear hb); (try clear hb2); (try clear hk); (try clear hi)))
  go_ret
  exact ⟨au19, au33⟩
 ·
  replace c4 := Bool.eq_false_iff.mpr c4
  subst c4
  have H1 : ((capstanref08_Copy.f k l0_0 l0_1 l0_2 a0_3).bind fun bt252 => ((capstanref11_Whom.f k l0_0 l0_1 l0_2 a0_3 a1).bind fun bt263 => ((capstanref11_Order.f k l0_0 l0_1 l0_2 a0_3).bind fun bt267 => ((capstanref11_Leads.f k l0_0 l0_1 l0_2 a0_3 a1).bind fun bt271 => ((capstanref11_Deep.f k l0_0 l0_1 l0_2 a0_3).bind fun bt275 => (capstanlaw11_CallsTells.l0 k a1 bt263.1 bt263.2 bt267.1 bt267.2 bt271.1 bt271.2 bt275.1 0 l0_0 l0_1 l0_2 a0_3 bt252.1 bt252.2.1 bt252.2.2.1 bt252.2.2.2)))))) = some r := by rw [if_neg (show ¬ (false = true) by decide)] at H; exact H
  clear H
  have H := H1
  clear H1
  replace H := Option.bind_eq_some_iff.mp H
  obtain ⟨⟨t252, t255, t258, t261⟩, A80, H⟩ := H
  replace H : ((capstanref11_Whom.f k l0_0 l0_1 l0_2 a0_3 a1).bind fun bt263 => ((capstanref11_Order.f k l0_0 l0_1 l0_2 a0_3).bind fun bt267 => ((capstanref11_Leads.f k l0_0 l0_1 l0_2 a0_3 a1).bind fun bt271 => ((capstanref11_Deep.f k l0_0 l0_1 l0_2 a0_3).bind fun bt275 => (capstanlaw11_CallsTells.l0 k a1 bt263.1 bt263.2 bt267.1 bt267.2 bt271.1 bt271.2 bt275.1 0 l0_0 l0_1 l0_2 a0_3 t252 t255 t258 t261))))) = some r := H
  have A8 := Aside0.mk A80
  clear A80
  replace H := Option.bind_eq_some_iff.mp H
  obtain ⟨⟨t263, t266⟩, A90, H⟩ := H
  replace H : ((capstanref11_Order.f k l0_0 l0_1 l0_2 a0_3).bind fun bt267 => ((capstanref11_Leads.f k l0_0 l0_1 l0_2 a0_3 a1).bind fun bt271 => ((capstanref11_Deep.f k l0_0 l0_1 l0_2 a0_3).bind fun bt275 => (capstanlaw11_CallsTells.l0 k a1 t263 t266 bt267.1 bt267.2 bt271.1 bt271.2 bt275.1 0 l0_0 l0_1 l0_2 a0_3 t252 t255 t258 t261)))) = some r := H
  have A9 := Aside0.mk A90
  clear A90
  replace H := Option.bind_eq_some_iff.mp H
  obtain ⟨⟨t267, t270⟩, A100, H⟩ := H
  replace H : ((capstanref11_Leads.f k l0_0 l0_1 l0_2 a0_3 a1).bind fun bt271 => ((capstanref11_Deep.f k l0_0 l0_1 l0_2 a0_3).bind fun bt275 => (capstanlaw11_CallsTells.l0 k a1 t263 t266 t267 t270 bt271.1 bt271.2 bt275.1 0 l0_0 l0_1 l0_2 a0_3 t252 t255 t258 t261))) = some r := H
  have A10 := Aside0.mk A100
  clear A100
  replace H := Option.bind_eq_some_iff.mp H
  obtain ⟨⟨t271, t274⟩, A110, H⟩ := H
  replace H : ((capstanref11_Deep.f k l0_0 l0_1 l0_2 a0_3).bind fun bt275 => (capstanlaw11_CallsTells.l0 k a1 t263 t266 t267 t270 t271 t274 bt275.1 0 l0_0 l0_1 l0_2 a0_3 t252 t255 t258 t261)) = some r := H
  have A11 := Aside0.mk A110
  clear A110
  replace H := Option.bind_eq_some_iff.mp H
  obtain ⟨⟨t275, t278⟩, A120, H⟩ := H
  replace H : (capstanlaw11_CallsTells.l0 k a1 t263 t266 t267 t270 t271 t274 t275 0 l0_0 l0_1 l0_2 a0_3 t252 t255 t258 t261) = some r := H
  have A12 := Aside0.mk A120
  clear A120
  have H' := Aside0.mk H
  clear H
  go_enter Try.func5, Try.ntmps5
  go_wp2_with (first | ((with_reducible refine gate_dst (N := 2) rfl ?_); refine box_event ?hg (N := 2) ?hd (cs := #[.slice A0_0 l0_0.length c0_0, .slice A0_1 l0_1.length c0_1, .slice A0_2 l0_2.length c0_2, .int .i64 a0_3]) (t := 25) ?hr ?_; (case hd => rfl); (case hg => rfl); (case hr => first | (go_simp; done) | (go_simp; rfl)); intro gb250 hg w13 hbox hb; have n0_ := Aside0.mk (below_step (au1) hb); have n1_ := Aside0.mk (hbox); have n2_ := Aside0.mk ((au37 : w.heap.size ≤ gb250)); have n3_ := Aside0.mk ((au37 : w.heap.size ≤ gb250)); clear HB; have HB := n0_; have BK250 := n1_; have GW250 := n2_; have GE250 := n3_; clear n0_ n1_ n2_ n3_; clear hb hbox hg; obtain ⟨hcz14_0, hcz14_1, hcz14_2, hcz14_3, hfz14_0, hfz14_1, hfz14_2, hfz14_3⟩ := blk_all4 BK250.out) | ((with_reducible refine gate_callee (f := 11) rfl ?_); refine goesL_ (some 24) rfl rfl Try.func11 (by kernel_rfl) rfl #[.agg #[.slice A0_0 l0_0.length c0_0, .slice A0_1 l0_1.length c0_1, .slice A0_2 l0_2.length c0_2, .int .i64 a0_3]] rfl (au6) ?_; (with_reducible refine (capstanlaw08_Great.calls k _ _ l0_0 _ _ l0_1 _ _ l0_2 a0_3 false _ ?side1 ?side2 ?side3 ?side4 ?side5 ?side6 A3.out).mono ?_); (case side1 => exact au7); (case side2 => exact HC0_0.out); (case side3 => exact au15); (case side4 => exact HC0_1.out); (case side5 => exact au17); (case side6 => exact HC0_2.out); rintro e w15 ⟨rfl, hb⟩; refine ⟨_, rfl, ?_⟩; have n0_ := Aside0.mk (blk_below (g := gb250) (o := .cells #[.slice A0_0 l0_0.length c0_0, .slice A0_1 l0_1.length c0_1, .slice A0_2 l0_2.length c0_2, .int .i64 a0_3] 25 (0, 0)) (au28) hb); have n1_ := Aside0.mk (below_step (au33) hb); clear BK250; clear HB; have BK250 := n0_; have HB := n1_; clear n0_ n1_; (try clear hb); (try clear hb2); (try clear hk); (try clear hi); obtain ⟨hcz16_0, hcz16_1, hcz16_2, hcz16_3, hfz16_0, hfz16_1, hfz16_2, hfz16_3⟩ := blk_all4 BK250.out) | ((with_reducible refine gate_callee (f := 12) rfl ?_); refine goesL_ (some 26) rfl rfl Try.func12 (by kernel_rfl) rfl #[.agg #[.slice A0_0 l0_0.length c0_0, .slice A0_1 l0_1.length c0_1, .slice A0_2 l0_2.length c0_2, .int .i64 a0_3]] rfl (au6) ?_; (with_reducible refine (capstanref08_Copy.calls k _ _ l0_0 _ _ l0_1 _ _ l0_2 a0_3 t252 t255 t258 t261 _ ?side1 ?side2 ?side3 ?side4 ?side5 ?side6 A8.out).mono ?_); (case side1 => exact au7); (case side2 => exact HC0_0.out); (case side3 => exact au15); (case side4 => exact HC0_1.out); (case side5 => exact au17); (case side6 => exact HC0_2.out); rintro e w17 ⟨v253, v256, v259, rfl, ho0, ho1, ho2, hb⟩; refine ⟨_, rfl, ?_⟩; have n0_ := Aside0.mk (Kd.R_lower ho0 (below_size (au33))); have n1_ := Aside0.mk (Kd.R_lower ho1 (below_size (au33))); have n2_ := Aside0.mk (Kd.S_lower ho2 (below_size (au33))); have n3_ := Aside0.mk (blk_below (g := gb250) (o := .cells #[.slice A0_0 l0_0.length c0_0, .slice A0_1 l0_1.length c0_1, .slice A0_2 l0_2.length c0_2, .int .i64 a0_3] 25 (0, 0)) (au28) hb); have n4_ := Aside0.mk (below_step (au33) hb); clear BK250; clear HB; have HO254 := n0_; have HO257 := n1_; have HO260 := n2_; have BK250 := n3_; have HB := n4_; clear n0_ n1_ n2_ n3_ n4_; (try clear hb); (try clear hb2); (try clear hk); (try clear hi); (try clear ho0); (try clear ho1); (try clear ho2)) | ((with_reducible refine gate_dst (N := 5) rfl ?_); refine box_event ?hg (N := 5) ?hd (cs := #[.slice none 0 0, .slice none 0 0, .slice none 0 0, .int .i64 0]) (t := 25) ?hr ?_; (case hd => rfl); (case hg => rfl); (case hr => first | (go_simp; done) | (go_simp; rfl)); intro gb262 hg w18 hbox hb; have n0_ := Aside0.mk (Kd.R_below (au67) hb); have n1_ := Aside0.mk (Kd.R_below (au68) hb); have n2_ := Aside0.mk (Kd.S_below (au69) hb); have n3_ := Aside0.mk (blk_below (g := gb250) (o := .cells #[.slice A0_0 l0_0.length c0_0, .slice A0_1 l0_1.length c0_1, .slice A0_2 l0_2.length c0_2, .int .i64 a0_3] 25 (0, 0)) (au28) hb); have n4_ := Aside0.mk (below_step (au33) hb); have n5_ := Aside0.mk (hbox); have n6_ := Aside0.mk ((by rw [hg]; exact (below_size (au33)) : w.heap.size ≤ gb262)); have n7_ := Aside0.mk ((by rw [hg]; exact (below_size (au33)) : w.heap.size ≤ gb262)); have n8_ := Aside0.mk ((by rw [hg]; exact Nat.ne_of_lt (blk_lt (g := gb250) (o := .cells #[.slice A0_0 l0_0.length c0_0, .slice A0_1 l0_1.length c0_1, .slice A0_2 l0_2.length c0_2, .int .i64 a0_3] 25 (0, 0)) (au28)) : gb250 ≠ gb262)); have n9_ := Aside0.mk ((by rw [hg]; exact Nat.ne_of_gt (blk_lt (g := gb250) (o := .cells #[.slice A0_0 l0_0.length c0_0, .slice A0_1 l0_1.length c0_1, .slice A0_2 l0_2.length c0_2, .int .i64 a0_3] 25 (0, 0)) (au28)) : gb262 ≠ gb250)); clear HO254; clear HO257; clear HO260; clear BK250; clear HB; have HO254 := n0_; have HO257 := n1_; have HO260 := n2_; have BK250 := n3_; have HB := n4_; have BK262 := n5_; have GW262 := n6_; have GE262 := n7_; have NB250_262 := n8_; have NB262_250 := n9_; clear n0_ n1_ n2_ n3_ n4_ n5_ n6_ n7_ n8_ n9_; clear hb hbox hg; obtain ⟨Ao19, co19, eo19⟩ := Kd.R_slice HO254.out; subst eo19; have hnb20 := NB262_250.out; have hnc20 := NB250_262.out; obtain ⟨hcz21_0, hcz21_1, hcz21_2, hcz21_3, hfz21_0, hfz21_1, hfz21_2, hfz21_3⟩ := blk_all4 BK262.out; obtain ⟨Ao22, co22, eo22⟩ := Kd.R_slice HO257.out; subst eo22; obtain ⟨Ao23, co23, eo23⟩ := Kd.S_slice HO260.out; subst eo23; obtain ⟨hcz24_0, hcz24_1, hcz24_2, hcz24_3, hfz24_0, hfz24_1, hfz24_2, hfz24_3⟩ := blk_all4 BK250.out) | ((with_reducible refine gate_callee (f := 25) rfl ?_); refine goesL_ (some 30) rfl rfl Try.func25 (by kernel_rfl) rfl #[.agg #[.slice A0_0 l0_0.length c0_0, .slice A0_1 l0_1.length c0_1, .slice A0_2 l0_2.length c0_2, .int .i64 a0_3], .int .i64 a1] rfl (au6) ?_; (with_reducible refine (capstanref11_Whom.calls k _ _ l0_0 _ _ l0_1 _ _ l0_2 a0_3 a1 t263 t266 _ ?side1 ?side2 ?side3 ?side4 ?side5 ?side6 A9.out).mono ?_); (case side1 => exact Kd.C_below HR0_0.out (au2)); (case side2 => exact HC0_0.out); (case side3 => exact Kd.C_below HR0_1.out (au2)); (case side4 => exact HC0_1.out); (case side5 => exact Kd.C_below HR0_2.out (au2)); (case side6 => exact HC0_2.out); rintro e w25 ⟨v264, rfl, ho0, hb⟩; refine ⟨_, rfl, ?_⟩; have n0_ := Aside0.mk (Kd.R_below (by (with_reducible repeat (first | apply Kd.R_alloc | apply Kd.R_drewN | apply Kd.R_drew)); first | exact (Kd.R_mono (Kd.R_far (p := ⟨gb262, 3, none⟩) (Kd.R_far (p := ⟨gb262, 2, none⟩) (Kd.R_far (p := ⟨gb262, 1, none⟩) (Kd.R_far (p := ⟨gb262, 0, none⟩) (Kd.R_types HO254.out BK262.out (by decide)) (fun _ hk => hk.2) (.slice Ao19 t252.length co19)) (fun _ hk => hk.2) (.slice Ao22 t255.length co22)) (fun _ hk => hk.2) (.slice Ao23 t258.length co23)) (fun _ hk => hk.2) (.int .i64 t261)) (fun _ h_ => h_.1)) | exact Kd.R_mono ((Kd.R_mono (Kd.R_far (p := ⟨gb262, 3, none⟩) (Kd.R_far (p := ⟨gb262, 2, none⟩) (Kd.R_far (p := ⟨gb262, 1, none⟩) (Kd.R_far (p := ⟨gb262, 0, none⟩) (Kd.R_types HO254.out BK262.out (by decide)) (fun _ hk => hk.2) (.slice Ao19 t252.length co19)) (fun _ hk => hk.2) (.slice Ao22 t255.length co22)) (fun _ hk => hk.2) (.slice Ao23 t258.length co23)) (fun _ hk => hk.2) (.int .i64 t261)) (fun _ h_ => h_.1))) (fun _ h_ => h_.2)) hb); have n1_ := Aside0.mk (Kd.R_below (by (with_reducible repeat (first | apply Kd.R_alloc | apply Kd.R_drewN | apply Kd.R_drew)); first | exact (Kd.R_mono (Kd.R_far (p := ⟨gb262, 3, none⟩) (Kd.R_far (p := ⟨gb262, 2, none⟩) (Kd.R_far (p := ⟨gb262, 1, none⟩) (Kd.R_far (p := ⟨gb262, 0, none⟩) (Kd.R_types HO257.out BK262.out (by decide)) (fun _ hk => hk.2) (.slice Ao19 t252.length co19)) (fun _ hk => hk.2) (.slice Ao22 t255.length co22)) (fun _ hk => hk.2) (.slice Ao23 t258.length co23)) (fun _ hk => hk.2) (.int .i64 t261)) (fun _ h_ => h_.1)) | exact Kd.R_mono ((Kd.R_mono (Kd.R_far (p := ⟨gb262, 3, none⟩) (Kd.R_far (p := ⟨gb262, 2, none⟩) (Kd.R_far (p := ⟨gb262, 1, none⟩) (Kd.R_far (p := ⟨gb262, 0, none⟩) (Kd.R_types HO257.out BK262.out (by decide)) (fun _ hk => hk.2) (.slice Ao19 t252.length co19)) (fun _ hk => hk.2) (.slice Ao22 t255.length co22)) (fun _ hk => hk.2) (.slice Ao23 t258.length co23)) (fun _ hk => hk.2) (.int .i64 t261)) (fun _ h_ => h_.1))) (fun _ h_ => h_.2)) hb); have n2_ := Aside0.mk (Kd.S_below (by (with_reducible repeat (first | apply Kd.S_alloc | apply Kd.S_drewN | apply Kd.S_drew)); first | exact (Kd.S_mono (Kd.S_far (p := ⟨gb262, 3, none⟩) (Kd.S_far (p := ⟨gb262, 2, none⟩) (Kd.S_far (p := ⟨gb262, 1, none⟩) (Kd.S_far (p := ⟨gb262, 0, none⟩) (Kd.S_types HO260.out BK262.out (by decide)) (fun _ hk => hk.2) (.slice Ao19 t252.length co19)) (fun _ hk => hk.2) (.slice Ao22 t255.length co22)) (fun _ hk => hk.2) (.slice Ao23 t258.length co23)) (fun _ hk => hk.2) (.int .i64 t261)) (fun _ h_ => h_.1)) | exact Kd.S_mono ((Kd.S_mono (Kd.S_far (p := ⟨gb262, 3, none⟩) (Kd.S_far (p := ⟨gb262, 2, none⟩) (Kd.S_far (p := ⟨gb262, 1, none⟩) (Kd.S_far (p := ⟨gb262, 0, none⟩) (Kd.S_types HO260.out BK262.out (by decide)) (fun _ hk => hk.2) (.slice Ao19 t252.length co19)) (fun _ hk => hk.2) (.slice Ao22 t255.length co22)) (fun _ hk => hk.2) (.slice Ao23 t258.length co23)) (fun _ hk => hk.2) (.int .i64 t261)) (fun _ h_ => h_.1))) (fun _ h_ => h_.2)) hb); have n3_ := Aside0.mk (Kd.R_lower ho0 (below_size (au2))); have n4_ := Aside0.mk (blk_below (g := gb250) (o := .cells #[.slice A0_0 l0_0.length c0_0, .slice A0_1 l0_1.length c0_1, .slice A0_2 l0_2.length c0_2, .int .i64 a0_3] 25 (0, 0)) (by (with_reducible repeat (first | refine blk_drewN ?_ _ | refine blk_drew ?_ | refine blk_alloc ?_ _)); refine blk_far ?_ NB250_262.out _; (with_reducible repeat (first | refine blk_drewN ?_ _ | refine blk_drew ?_ | refine blk_alloc ?_ _)); refine blk_far ?_ NB250_262.out _; (with_reducible repeat (first | refine blk_drewN ?_ _ | refine blk_drew ?_ | refine blk_alloc ?_ _)); refine blk_far ?_ NB250_262.out _; (with_reducible repeat (first | refine blk_drewN ?_ _ | refine blk_drew ?_ | refine blk_alloc ?_ _)); refine blk_far ?_ NB250_262.out _; (with_reducible repeat (first | refine blk_drewN ?_ _ | refine blk_drew ?_ | refine blk_alloc ?_ _)); exact BK250.out) hb); have n5_ := Aside0.mk (blk_below (g := gb262) (o := .cells #[.slice Ao19 t252.length co19, .slice Ao22 t255.length co22, .slice Ao23 t258.length co23, .int .i64 t261] 25 (0, 0)) (by (with_reducible repeat (first | refine blk_drewN ?_ _ | refine blk_drew ?_ | refine blk_alloc ?_ _)); refine blk_put (cs := #[.slice Ao19 t252.length co19, .slice Ao22 t255.length co22, .slice Ao23 t258.length co23, .int .i64 0]) ?_ 3 _ rfl; (with_reducible repeat (first | refine blk_drewN ?_ _ | refine blk_drew ?_ | refine blk_alloc ?_ _)); refine blk_put (cs := #[.slice Ao19 t252.length co19, .slice Ao22 t255.length co22, .slice none 0 0, .int .i64 0]) ?_ 2 _ rfl; (with_reducible repeat (first | refine blk_drewN ?_ _ | refine blk_drew ?_ | refine blk_alloc ?_ _)); refine blk_put (cs := #[.slice Ao19 t252.length co19, .slice none 0 0, .slice none 0 0, .int .i64 0]) ?_ 1 _ rfl; (with_reducible repeat (first | refine blk_drewN ?_ _ | refine blk_drew ?_ | refine blk_alloc ?_ _)); refine blk_put (cs := #[.slice none 0 0, .slice none 0 0, .slice none 0 0, .int .i64 0]) ?_ 0 _ rfl; (with_reducible repeat (first | refine blk_drewN ?_ _ | refine blk_drew ?_ | refine blk_alloc ?_ _)); exact BK262.out) hb); have n6_ := Aside0.mk (below_step (au2) hb); clear HO254; clear HO257; clear HO260; clear BK250; clear BK262; clear HB; have HO254 := n0_; have HO257 := n1_; have HO260 := n2_; have HO265 := n3_; have BK250 := n4_; have BK262 := n5_; have HB := n6_; clear n0_ n1_ n2_ n3_ n4_ n5_ n6_; (try clear hb); (try clear hb2); (try clear hk); (try clear hi); (try clear ho0); obtain ⟨hcz26_0, hcz26_1, hcz26_2, hcz26_3, hfz26_0, hfz26_1, hfz26_2, hfz26_3⟩ := blk_all4 BK250.out) | ((with_reducible refine gate_callee (f := 26) rfl ?_); refine goesL_ (some 35) rfl rfl Try.func26 (by kernel_rfl) rfl #[.agg #[.slice A0_0 l0_0.length c0_0, .slice A0_1 l0_1.length c0_1, .slice A0_2 l0_2.length c0_2, .int .i64 a0_3]] rfl (au6) ?_; (with_reducible refine (capstanref11_Order.calls k _ _ l0_0 _ _ l0_1 _ _ l0_2 a0_3 t267 t270 _ ?side1 ?side2 ?side3 ?side4 ?side5 ?side6 A10.out).mono ?_); (case side1 => exact au7); (case side2 => exact HC0_0.out); (case side3 => exact au15); (case side4 => exact HC0_1.out); (case side5 => exact au17); (case side6 => exact HC0_2.out); rintro e w27 ⟨v268, rfl, ho0, hb⟩; refine ⟨_, rfl, ?_⟩; have n0_ := Aside0.mk (Kd.R_below (au67) hb); have n1_ := Aside0.mk (Kd.R_below (au68) hb); have n2_ := Aside0.mk (Kd.S_below (au69) hb); have n3_ := Aside0.mk (Kd.R_elder' (au65) (Kd.R_base ho0) hb); have n4_ := Aside0.mk (Kd.R_lower (Kd.R_new' ho0 (Kd.R_lt (au65))) (below_size (au2))); have n5_ := Aside0.mk (blk_below (g := gb250) (o := .cells #[.slice A0_0 l0_0.length c0_0, .slice A0_1 l0_1.length c0_1, .slice A0_2 l0_2.length c0_2, .int .i64 a0_3] 25 (0, 0)) (au28) hb); have n6_ := Aside0.mk (blk_below (g := gb262) (o := .cells #[.slice Ao19 t252.length co19, .slice Ao22 t255.length co22, .slice Ao23 t258.length co23, .int .i64 t261] 25 (0, 0)) (au36) hb); have n7_ := Aside0.mk (below_step (au2) hb); clear HO254; clear HO257; clear HO260; clear HO265; clear BK250; clear BK262; clear HB; have HO254 := n0_; have HO257 := n1_; have HO260 := n2_; have HO265 := n3_; have HO269 := n4_; have BK250 := n5_; have BK262 := n6_; have HB := n7_; clear n0_ n1_ n2_ n3_ n4_ n5_ n6_ n7_; (try clear hb); (try clear hb2); (try clear hk); (try clear hi); (try clear ho0); obtain ⟨hcz28_0, hcz28_1, hcz28_2, hcz28_3, hfz28_0, hfz28_1, hfz28_2, hfz28_3⟩ := blk_all4 BK250.out) | ((with_reducible refine gate_callee (f := 27) rfl ?_); refine goesL_ (some 41) rfl rfl Try.func27 (by kernel_rfl) rfl #[.agg #[.slice A0_0 l0_0.length c0_0, .slice A0_1 l0_1.length c0_1, .slice A0_2 l0_2.length c0_2, .int .i64 a0_3], .int .i64 a1] rfl (au6) ?_; (with_reducible refine (capstanref11_Leads.calls k _ _ l0_0 _ _ l0_1 _ _ l0_2 a0_3 a1 t271 t274 _ ?side1 ?side2 ?side3 ?side4 ?side5 ?side6 A11.out).mono ?_); (case side1 => exact au7); (case side2 => exact HC0_0.out); (case side3 => exact au15); (case side4 => exact HC0_1.out); (case side5 => exact au17); (case side6 => exact HC0_2.out); rintro e w29 ⟨v272, rfl, ho0, hb⟩; refine ⟨_, rfl, ?_⟩; have n0_ := Aside0.mk (Kd.R_below (au67) hb); have n1_ := Aside0.mk (Kd.R_below (au68) hb); have n2_ := Aside0.mk (Kd.S_below (au69) hb); have n3_ := Aside0.mk (Kd.R_elder' (au65) (Kd.R_base ho0) hb); have n4_ := Aside0.mk (Kd.R_elder' (au82) (Kd.R_base ho0) hb); have n5_ := Aside0.mk (Kd.R_lower (Kd.R_new' (Kd.R_new' ho0 (Kd.R_lt (au65))) (Kd.R_lt (au82))) (below_size (au2))); have n6_ := Aside0.mk (blk_below (g := gb250) (o := .cells #[.slice A0_0 l0_0.length c0_0, .slice A0_1 l0_1.length c0_1, .slice A0_2 l0_2.length c0_2, .int .i64 a0_3] 25 (0, 0)) (au28) hb); have n7_ := Aside0.mk (blk_below (g := gb262) (o := .cells #[.slice Ao19 t252.length co19, .slice Ao22 t255.length co22, .slice Ao23 t258.length co23, .int .i64 t261] 25 (0, 0)) (au36) hb); have n8_ := Aside0.mk (below_step (au2) hb); clear HO254; clear HO257; clear HO260; clear HO265; clear HO269; clear BK250; clear BK262; clear HB; have HO254 := n0_; have HO257 := n1_; have HO260 := n2_; have HO265 := n3_; have HO269 := n4_; have HO273 := n5_; have BK250 := n6_; have BK262 := n7_; have HB := n8_; clear n0_ n1_ n2_ n3_ n4_ n5_ n6_ n7_ n8_; (try clear hb); (try clear hb2); (try clear hk); (try clear hi); (try clear ho0); obtain ⟨hcz30_0, hcz30_1, hcz30_2, hcz30_3, hfz30_0, hfz30_1, hfz30_2, hfz30_3⟩ := blk_all4 BK250.out) | ((with_reducible refine gate_callee (f := 28) rfl ?_); refine goesL_ (some 46) rfl rfl Try.func28 (by kernel_rfl) rfl #[.agg #[.slice A0_0 l0_0.length c0_0, .slice A0_1 l0_1.length c0_1, .slice A0_2 l0_2.length c0_2, .int .i64 a0_3]] rfl (au6) ?_; (with_reducible refine (capstanref11_Deep.calls k _ _ l0_0 _ _ l0_1 _ _ l0_2 a0_3 t275 t278 _ ?side1 ?side2 ?side3 ?side4 ?side5 ?side6 A12.out).mono ?_); (case side1 => exact au7); (case side2 => exact HC0_0.out); (case side3 => exact au15); (case side4 => exact HC0_1.out); (case side5 => exact au17); (case side6 => exact HC0_2.out); rintro e w31 ⟨v276, rfl, ho0, hb⟩; refine ⟨_, rfl, ?_⟩; have n0_ := Aside0.mk (Kd.R_below (au67) hb); have n1_ := Aside0.mk (Kd.R_below (au68) hb); have n2_ := Aside0.mk (Kd.S_below (au69) hb); have n3_ := Aside0.mk (Kd.R_elder' (au65) (Kd.R_base ho0) hb); have n4_ := Aside0.mk (Kd.R_elder' (au82) (Kd.R_base ho0) hb); have n5_ := Aside0.mk (Kd.R_elder' (by (with_reducible repeat (first | apply Kd.R_alloc | apply Kd.R_drewN | apply Kd.R_drew)); first | exact HO273.out | exact Kd.R_mono (HO273.out) (fun _ h_ => h_.2)) (Kd.R_base ho0) hb); have n6_ := Aside0.mk (Kd.R_lower (Kd.R_new' (Kd.R_new' (Kd.R_new' ho0 (Kd.R_lt (au65))) (Kd.R_lt (au82))) (Kd.R_lt (by (with_reducible repeat (first | apply Kd.R_alloc | apply Kd.R_drewN | apply Kd.R_drew)); first | exact HO273.out | exact Kd.R_mono (HO273.out) (fun _ h_ => h_.2)))) (below_size (au2))); have n7_ := Aside0.mk (blk_below (g := gb250) (o := .cells #[.slice A0_0 l0_0.length c0_0, .slice A0_1 l0_1.length c0_1, .slice A0_2 l0_2.length c0_2, .int .i64 a0_3] 25 (0, 0)) (au28) hb); have n8_ := Aside0.mk (blk_below (g := gb262) (o := .cells #[.slice Ao19 t252.length co19, .slice Ao22 t255.length co22, .slice Ao23 t258.length co23, .int .i64 t261] 25 (0, 0)) (au36) hb); have n9_ := Aside0.mk (below_step (au2) hb); clear HO254; clear HO257; clear HO260; clear HO265; clear HO269; clear HO273; clear BK250; clear BK262; clear HB; have HO254 := n0_; have HO257 := n1_; have HO260 := n2_; have HO265 := n3_; have HO269 := n4_; have HO273 := n5_; have HO277 := n6_; have BK250 := n7_; have BK262 := n8_; have HB := n9_; clear n0_ n1_ n2_ n3_ n4_ n5_ n6_ n7_ n8_ n9_; (try clear hb); (try clear hb2); (try clear hk); (try clear hi); (try clear ho0)))
  go_loopg [14] k (fun kq v14 w' => ∃ (x6_1 : List Int) (x8_1 : List Int) (x10_1 : List Int) (x12_1 : List Int) (x14_1 : Int), v14 = .int .i64 x14_1 ∧ Aside0 (capstanlaw11_CallsTells.l0 kq a1 x6_1 t266 x8_1 t270 x10_1 t274 x12_1 x14_1 l0_0 l0_1 l0_2 a0_3 t252 t255 t258 t261 = some r) ∧ Aside0 (kq ≤ k) ∧ Aside0 (Kd.R (Kd.int .i64) 3 w' w.heap.size (fun k_ => some k_ ≠ (v268 : Value).ownBlock ∧ some k_ ≠ (v272 : Value).ownBlock ∧ some k_ ≠ (v276 : Value).ownBlock) v264 x6_1) ∧ Aside0 (Kd.R (Kd.int .i64) 3 w' w.heap.size (fun k_ => some k_ ≠ (v264 : Value).ownBlock ∧ some k_ ≠ (v272 : Value).ownBlock ∧ some k_ ≠ (v276 : Value).ownBlock) v268 x8_1) ∧ Aside0 (Kd.R (Kd.int .i64) 3 w' w.heap.size (fun k_ => some k_ ≠ (v264 : Value).ownBlock ∧ some k_ ≠ (v268 : Value).ownBlock ∧ some k_ ≠ (v276 : Value).ownBlock) v272 x10_1) ∧ Aside0 (Kd.R (Kd.int .i64) 3 w' w.heap.size (fun k_ => some k_ ≠ (v264 : Value).ownBlock ∧ some k_ ≠ (v268 : Value).ownBlock ∧ some k_ ≠ (v272 : Value).ownBlock) v276 x12_1) ∧ Aside0 (Kd.R k86 86 w' w.heap.size (fun k_ => some k_ ≠ ((.slice Ao22 t255.length co22) : Value).ownBlock) (.slice Ao19 t252.length co19) t252) ∧ Aside0 (Kd.R k86 86 w' w.heap.size (fun k_ => some k_ ≠ ((.slice Ao19 t252.length co19) : Value).ownBlock) (.slice Ao22 t255.length co22) t255) ∧ Aside0 (Kd.S k52 52 w' w.heap.size (fun _ => True) (.slice Ao23 t258.length co23) t258) ∧ Aside0 (w'.heap[gb250]? = some (.cells #[(.slice A0_0 l0_0.length c0_0), (.slice A0_1 l0_1.length c0_1), (.slice A0_2 l0_2.length c0_2), .int .i64 a0_3] 25 (0, 0))) ∧ Aside0 (w'.heap[gb262]? = some (.cells #[(.slice Ao19 t252.length co19), (.slice Ao22 t255.length co22), (.slice Ao23 t258.length co23), .int .i64 t261] 25 (0, 0))) ∧ Aside0 (Below w.heap.size w w'))
  case atStart => exact ⟨(t263), (t267), (t271), (t275), (0), (au18), H', ⟨Nat.le_refl _⟩, ⟨by (with_reducible repeat (first | apply Kd.R_alloc | apply Kd.R_drewN | apply Kd.R_drew)); first | exact Kd.R_mono HO265.out (fun _ hk => ⟨hk.1.1.2, ⟨hk.1.2, hk.2⟩⟩) | exact Kd.R_mono (Kd.R_mono HO265.out (fun _ hk => ⟨hk.1.1.2, ⟨hk.1.2, hk.2⟩⟩)) (fun _ h_ => h_.2)⟩, ⟨by (with_reducible repeat (first | apply Kd.R_alloc | apply Kd.R_drewN | apply Kd.R_drew)); first | exact Kd.R_mono HO269.out (fun _ hk => ⟨hk.1.1.2, ⟨hk.1.2, hk.2⟩⟩) | exact Kd.R_mono (Kd.R_mono HO269.out (fun _ hk => ⟨hk.1.1.2, ⟨hk.1.2, hk.2⟩⟩)) (fun _ h_ => h_.2)⟩, ⟨by (with_reducible repeat (first | apply Kd.R_alloc | apply Kd.R_drewN | apply Kd.R_drew)); first | exact Kd.R_mono HO273.out (fun _ hk => ⟨hk.1.1.2, ⟨hk.1.2, hk.2⟩⟩) | exact Kd.R_mono (Kd.R_mono HO273.out (fun _ hk => ⟨hk.1.1.2, ⟨hk.1.2, hk.2⟩⟩)) (fun _ h_ => h_.2)⟩, ⟨by (with_reducible repeat (first | apply Kd.R_alloc | apply Kd.R_drewN | apply Kd.R_drew)); first | exact Kd.R_mono HO277.out (fun _ hk => ⟨hk.1.1.2, ⟨hk.1.2, hk.2⟩⟩) | exact Kd.R_mono (Kd.R_mono HO277.out (fun _ hk => ⟨hk.1.1.2, ⟨hk.1.2, hk.2⟩⟩)) (fun _ h_ => h_.2)⟩, ⟨au67⟩, ⟨au68⟩, ⟨au69⟩, ⟨au28⟩, ⟨au36⟩, ⟨au2⟩⟩
  case round =>
   clear H'
   try clear c1
   try clear c2
   try clear p2
   try clear c4
   try clear c5
   try clear c11
   try clear c12
   try clear c20
   try clear c25
   try clear c26
   try clear c27
   try clear c28
   try clear hcz14_0
   try clear hcz14_1
   try clear hcz14_2
   try clear hcz14_3
   try clear hcz16_0
   try clear hcz16_1
   try clear hcz16_2
   try clear hcz16_3
   try clear hcz21_0
   try clear hcz21_1
   try clear hcz21_2
   try clear hcz21_3
   try clear hcz24_0
   try clear hcz24_1
   try clear hcz24_2
   try clear hcz24_3
   try clear hcz26_0
   try clear hcz26_1
   try clear hcz26_2
   try clear hcz26_3
   try clear hcz28_0
   try clear hcz28_1
   try clear hcz28_2
   try clear hcz28_3
   try clear hcz30_0
   try clear hcz30_1
   try clear hcz30_2
   try clear hcz30_3
   try clear hcz6_0
   try clear hcz6_1
   try clear hcz6_2
   try clear hcz6_3
   try clear hfz14_0
   try clear hfz14_1
   try clear hfz14_2
   try clear hfz14_3
   try clear hfz16_0
   try clear hfz16_1
   try clear hfz16_2
   try clear hfz16_3
   try clear hfz21_0
   try clear hfz21_1
   try clear hfz21_2
   try clear hfz21_3
   try clear hfz24_0
   try clear hfz24_1
   try clear hfz24_2
   try clear hfz24_3
   try clear hfz26_0
   try clear hfz26_1
   try clear hfz26_2
   try clear hfz26_3
   try clear hfz28_0
   try clear hfz28_1
   try clear hfz28_2
   try clear hfz28_3
   try clear hfz30_0
   try clear hfz30_1
   try clear hfz30_2
   try clear hfz30_3
   try clear hfz6_0
   try clear hfz6_1
   try clear hfz6_2
   try clear hfz6_3
   obtain ⟨x6_1, x8_1, x10_1, x12_1, x14_1, rfl, HA, HK1, HO_6, HO_8, HO_10, HO_12, HO_263000, HO_263001, HO_263002, BK250, BK262, HB⟩ := hrel
   cases gk with
   | zero => exact absurd HA.out (by simp [capstanlaw11_CallsTells.l0])
   | succ k1 =>
    have H := HA.out
    clear HA
    simp only [capstanlaw11_CallsTells.l0] at H
    by_cases c32 : x14_1 < 2
    ·
     rw [if_pos c32] at H
     have c32b0 : decide (x14_1 < 2) = true := decide_eq_true c32
     clear c32
     replace H := Option.bind_eq_some_iff.mp H
     obtain ⟨⟨t279, t282⟩, A330, H⟩ := H
     replace H : ((calls_Order.f k1 t252 t255 t258 t261).bind fun bt283 => ((calls_Leads.f k1 t252 t255 t258 t261 a1).bind fun bt287 => ((calls_Deep.f k1 t252 t255 t258 t261).bind fun bt291 => (if t282 = t266 then (if bt283.2 = t270 then (if bt287.2 = t274 then (if bt291.2 = t270 then ((calls_Check.f k1 t252 t255 t258 t261).bind fun t295 => (capstanlaw11_CallsTells.j1 k1 a1 x6_1 t266 x8_1 t270 x10_1 t274 x12_1 x14_1 t279 bt283.1 bt287.1 bt291.1 (t295 != t270) l0_0 l0_1 l0_2 a0_3 t252 t255 t258 t261)) else (none)) else (none)) else (none)) else (none))))) = some r := H
     have A33 := Aside0.mk A330
     clear A330
     replace H := Option.bind_eq_some_iff.mp H
     obtain ⟨⟨t283, t286⟩, A340, H⟩ := H
     replace H : ((calls_Leads.f k1 t252 t255 t258 t261 a1).bind fun bt287 => ((calls_Deep.f k1 t252 t255 t258 t261).bind fun bt291 => (if t282 = t266 then (if t286 = t270 then (if bt287.2 = t274 then (if bt291.2 = t270 then ((calls_Check.f k1 t252 t255 t258 t261).bind fun t295 => (capstanlaw11_CallsTells.j1 k1 a1 x6_1 t266 x8_1 t270 x10_1 t274 x12_1 x14_1 t279 t283 bt287.1 bt291.1 (t295 != t270) l0_0 l0_1 l0_2 a0_3 t252 t255 t258 t261)) else (none)) else (none)) else (none)) else (none)))) = some r := H
     have A34 := Aside0.mk A340
     clear A340
     replace H := Option.bind_eq_some_iff.mp H
     obtain ⟨⟨t287, t290⟩, A350, H⟩ := H
     replace H : ((calls_Deep.f k1 t252 t255 t258 t261).bind fun bt291 => (if t282 = t266 then (if t286 = t270 then (if t290 = t274 then (if bt291.2 = t270 then ((calls_Check.f k1 t252 t255 t258 t261).bind fun t295 => (capstanlaw11_CallsTells.j1 k1 a1 x6_1 t266 x8_1 t270 x10_1 t274 x12_1 x14_1 t279 t283 t287 bt291.1 (t295 != t270) l0_0 l0_1 l0_2 a0_3 t252 t255 t258 t261)) else (none)) else (none)) else (none)) else (none))) = some r := H
     have A35 := Aside0.mk A350
     clear A350
     replace H := Option.bind_eq_some_iff.mp H
     obtain ⟨⟨t291, t294⟩, A360, H⟩ := H
     replace H : (if t282 = t266 then (if t286 = t270 then (if t290 = t274 then (if t294 = t270 then ((calls_Check.f k1 t252 t255 t258 t261).bind fun t295 => (capstanlaw11_CallsTells.j1 k1 a1 x6_1 t266 x8_1 t270 x10_1 t274 x12_1 x14_1 t279 t283 t287 t291 (t295 != t270) l0_0 l0_1 l0_2 a0_3 t252 t255 t258 t261)) else (none)) else (none)) else (none)) else (none)) = some r := H
     have A36 := Aside0.mk A360
     clear A360
     have HC37 := Aside0.mk H
     clear H
     have hnb38 := NB262_250.out
     have hnc38 := NB250_262.out
     obtain ⟨hcz39_0, hcz39_1, hcz39_2, hcz39_3, hfz39_0, hfz39_1, hfz39_2, hfz39_3⟩ := blk_all4 BK262.out
     go_upto_region 15 with (first | ((with_reducible refine gate_callee (f := 29) rfl ?_); refine goesL_ (some 56) rfl rfl Try.func29 (by kernel_rfl) rfl #[.agg #[.slice Ao19 t252.length co19, .slice Ao22 t255.length co22, .slice Ao23 t258.length co23, .int .i64 t261], .int .i64 a1] rfl (au6) ?_; (with_reducible refine (calls_Whom.calls _ _ t252 _ _ t255 _ _ t258 t261 a1 t279 t282 _ ?side1 ?side2 ?side3 ?side4 ?side5 ?side6 A33.out).mono ?_); (case side1 => exact au58); (case side2 => exact (Kd.R_reads' HO_263000.out).2.1); (case side3 => exact au59); (case side4 => exact (Kd.R_reads' HO_263001.out).2.1); (case side5 => exact au60); (case side6 => exact (Kd.S_reads' HO_263002.out).2.1); rintro e w40 ⟨v280, rfl, ho0, hb⟩; refine ⟨_, rfl, ?_⟩; have n0_ := Aside0.mk (Kd.R_elder' (au24) (Kd.R_base ho0) hb); have n1_ := Aside0.mk (Kd.R_elder' (au8) (Kd.R_base ho0) hb); have n2_ := Aside0.mk (Kd.R_elder' (au34) (Kd.R_base ho0) hb); have n3_ := Aside0.mk (Kd.R_elder' (au30) (Kd.R_base ho0) hb); have n4_ := Aside0.mk (Kd.R_below (au46) hb); have n5_ := Aside0.mk (Kd.R_below (au47) hb); have n6_ := Aside0.mk (Kd.S_below (au48) hb); have n7_ := Aside0.mk (Kd.R_lower (Kd.R_new' (Kd.R_new' (Kd.R_new' (Kd.R_new' ho0 (Kd.R_lt (au24))) (Kd.R_lt (au8))) (Kd.R_lt (au34))) (Kd.R_lt (au30))) (below_size (au2))); have n8_ := Aside0.mk (blk_below (g := gb250) (o := .cells #[.slice A0_0 l0_0.length c0_0, .slice A0_1 l0_1.length c0_1, .slice A0_2 l0_2.length c0_2, .int .i64 a0_3] 25 (0, 0)) (au28) hb); have n9_ := Aside0.mk (blk_below (g := gb262) (o := .cells #[.slice Ao19 t252.length co19, .slice Ao22 t255.length co22, .slice Ao23 t258.length co23, .int .i64 t261] 25 (0, 0)) (au36) hb); have n10_ := Aside0.mk (below_step (au2) hb); clear HO_6; clear HO_8; clear HO_10; clear HO_12; clear HO_263000; clear HO_263001; clear HO_263002; clear BK250; clear BK262; clear HB; have HO_6 := n0_; have HO_8 := n1_; have HO_10 := n2_; have HO_12 := n3_; have HO_263000 := n4_; have HO_263001 := n5_; have HO_263002 := n6_; have HO281 := n7_; have BK250 := n8_; have BK262 := n9_; have HB := n10_; clear n0_ n1_ n2_ n3_ n4_ n5_ n6_ n7_ n8_ n9_ n10_; (try clear hb); (try clear hb2); (try clear hk); (try clear hi); (try clear ho0); obtain ⟨hcz41_0, hcz41_1, hcz41_2, hcz41_3, hfz41_0, hfz41_1, hfz41_2, hfz41_3⟩ := blk_all4 BK262.out) | ((with_reducible refine gate_callee (f := 30) rfl ?_); refine goesL_ (some 61) rfl rfl Try.func30 (by kernel_rfl) rfl #[.agg #[.slice Ao19 t252.length co19, .slice Ao22 t255.length co22, .slice Ao23 t258.length co23, .int .i64 t261]] rfl (au6) ?_; (with_reducible refine (calls_Order.calls k1 _ _ t252 _ _ t255 _ _ t258 t261 t283 t286 _ ?side1 ?side2 ?side3 ?side4 ?side5 ?side6 A34.out).mono ?_); (case side1 => exact au58); (case side2 => exact (Kd.R_reads' HO_263000.out).2.1); (case side3 => exact au59); (case side4 => exact (Kd.R_reads' HO_263001.out).2.1); (case side5 => exact au60); (case side6 => exact (Kd.S_reads' HO_263002.out).2.1); rintro e w42 ⟨v284, rfl, ho0, hb⟩; refine ⟨_, rfl, ?_⟩; have n0_ := Aside0.mk (Kd.R_elder' (au24) (Kd.R_base ho0) hb); have n1_ := Aside0.mk (Kd.R_elder' (au8) (Kd.R_base ho0) hb); have n2_ := Aside0.mk (Kd.R_elder' (au34) (Kd.R_base ho0) hb); have n3_ := Aside0.mk (Kd.R_elder' (au30) (Kd.R_base ho0) hb); have n4_ := Aside0.mk (Kd.R_below (au46) hb); have n5_ := Aside0.mk (Kd.R_below (au47) hb); have n6_ := Aside0.mk (Kd.S_below (au48) hb); have n7_ := Aside0.mk (Kd.R_elder' (au54) (Kd.R_base ho0) hb); have n8_ := Aside0.mk (Kd.R_lower (Kd.R_new' (Kd.R_new' (Kd.R_new' (Kd.R_new' (Kd.R_new' ho0 (Kd.R_lt (au24))) (Kd.R_lt (au8))) (Kd.R_lt (au34))) (Kd.R_lt (au30))) (Kd.R_lt (au54))) (below_size (au2))); have n9_ := Aside0.mk (blk_below (g := gb250) (o := .cells #[.slice A0_0 l0_0.length c0_0, .slice A0_1 l0_1.length c0_1, .slice A0_2 l0_2.length c0_2, .int .i64 a0_3] 25 (0, 0)) (au28) hb); have n10_ := Aside0.mk (blk_below (g := gb262) (o := .cells #[.slice Ao19 t252.length co19, .slice Ao22 t255.length co22, .slice Ao23 t258.length co23, .int .i64 t261] 25 (0, 0)) (au36) hb); have n11_ := Aside0.mk (below_step (au2) hb); clear HO_6; clear HO_8; clear HO_10; clear HO_12; clear HO_263000; clear HO_263001; clear HO_263002; clear HO281; clear BK250; clear BK262; clear HB; have HO_6 := n0_; have HO_8 := n1_; have HO_10 := n2_; have HO_12 := n3_; have HO_263000 := n4_; have HO_263001 := n5_; have HO_263002 := n6_; have HO281 := n7_; have HO285 := n8_; have BK250 := n9_; have BK262 := n10_; have HB := n11_; clear n0_ n1_ n2_ n3_ n4_ n5_ n6_ n7_ n8_ n9_ n10_ n11_; (try clear hb); (try clear hb2); (try clear hk); (try clear hi); (try clear ho0); obtain ⟨hcz43_0, hcz43_1, hcz43_2, hcz43_3, hfz43_0, hfz43_1, hfz43_2, hfz43_3⟩ := blk_all4 BK262.out) | ((with_reducible refine gate_callee (f := 31) rfl ?_); refine goesL_ (some 67) rfl rfl Try.func31 (by kernel_rfl) rfl #[.agg #[.slice Ao19 t252.length co19, .slice Ao22 t255.length co22, .slice Ao23 t258.length co23, .int .i64 t261], .int .i64 a1] rfl (au6) ?_; (with_reducible refine (calls_Leads.calls k1 _ _ t252 _ _ t255 _ _ t258 t261 a1 t287 t290 _ ?side1 ?side2 ?side3 ?side4 ?side5 ?side6 A35.out).mono ?_); (case side1 => exact au58); (case side2 => exact (Kd.R_reads' HO_263000.out).2.1); (case side3 => exact au59); (case side4 => exact (Kd.R_reads' HO_263001.out).2.1); (case side5 => exact au60); (case side6 => exact (Kd.S_reads' HO_263002.out).2.1); rintro e w44 ⟨v288, rfl, ho0, hb⟩; refine ⟨_, rfl, ?_⟩; have n0_ := Aside0.mk (Kd.R_elder' (au24) (Kd.R_base ho0) hb); have n1_ := Aside0.mk (Kd.R_elder' (au8) (Kd.R_base ho0) hb); have n2_ := Aside0.mk (Kd.R_elder' (au34) (Kd.R_base ho0) hb); have n3_ := Aside0.mk (Kd.R_elder' (au30) (Kd.R_base ho0) hb); have n4_ := Aside0.mk (Kd.R_below (au46) hb); have n5_ := Aside0.mk (Kd.R_below (au47) hb); have n6_ := Aside0.mk (Kd.S_below (au48) hb); have n7_ := Aside0.mk (Kd.R_elder' (au54) (Kd.R_base ho0) hb); have n8_ := Aside0.mk (Kd.R_elder' (au70) (Kd.R_base ho0) hb); have n9_ := Aside0.mk (Kd.R_lower (Kd.R_new' (Kd.R_new' (Kd.R_new' (Kd.R_new' (Kd.R_new' (Kd.R_new' ho0 (Kd.R_lt (au24))) (Kd.R_lt (au8))) (Kd.R_lt (au34))) (Kd.R_lt (au30))) (Kd.R_lt (au54))) (Kd.R_lt (au70))) (below_size (au2))); have n10_ := Aside0.mk (blk_below (g := gb250) (o := .cells #[.slice A0_0 l0_0.length c0_0, .slice A0_1 l0_1.length c0_1, .slice A0_2 l0_2.length c0_2, .int .i64 a0_3] 25 (0, 0)) (au28) hb); have n11_ := Aside0.mk (blk_below (g := gb262) (o := .cells #[.slice Ao19 t252.length co19, .slice Ao22 t255.length co22, .slice Ao23 t258.length co23, .int .i64 t261] 25 (0, 0)) (au36) hb); have n12_ := Aside0.mk (below_step (au2) hb); clear HO_6; clear HO_8; clear HO_10; clear HO_12; clear HO_263000; clear HO_263001; clear HO_263002; clear HO281; clear HO285; clear BK250; clear BK262; clear HB; have HO_6 := n0_; have HO_8 := n1_; have HO_10 := n2_; have HO_12 := n3_; have HO_263000 := n4_; have HO_263001 := n5_; have HO_263002 := n6_; have HO281 := n7_; have HO285 := n8_; have HO289 := n9_; have BK250 := n10_; have BK262 := n11_; have HB := n12_; clear n0_ n1_ n2_ n3_ n4_ n5_ n6_ n7_ n8_ n9_ n10_ n11_ n12_; (try clear hb); (try clear hb2); (try clear hk); (try clear hi); (try clear ho0); obtain ⟨hcz45_0, hcz45_1, hcz45_2, hcz45_3, hfz45_0, hfz45_1, hfz45_2, hfz45_3⟩ := blk_all4 BK262.out) | ((with_reducible refine gate_callee (f := 32) rfl ?_); refine goesL_ (some 72) rfl rfl Try.func32 (by kernel_rfl) rfl #[.agg #[.slice Ao19 t252.length co19, .slice Ao22 t255.length co22, .slice Ao23 t258.length co23, .int .i64 t261]] rfl (au6) ?_; (with_reducible refine (calls_Deep.calls k1 _ _ t252 _ _ t255 _ _ t258 t261 t291 t294 _ ?side1 ?side2 ?side3 ?side4 ?side5 ?side6 A36.out).mono ?_); (case side1 => exact au58); (case side2 => exact (Kd.R_reads' HO_263000.out).2.1); (case side3 => exact au59); (case side4 => exact (Kd.R_reads' HO_263001.out).2.1); (case side5 => exact au60); (case side6 => exact (Kd.S_reads' HO_263002.out).2.1); rintro e w46 ⟨v292, rfl, ho0, hb⟩; refine ⟨_, rfl, ?_⟩; have n0_ := Aside0.mk (Kd.R_elder' (au24) (Kd.R_base ho0) hb); have n1_ := Aside0.mk (Kd.R_elder' (au8) (Kd.R_base ho0) hb); have n2_ := Aside0.mk (Kd.R_elder' (au34) (Kd.R_base ho0) hb); have n3_ := Aside0.mk (Kd.R_elder' (au30) (Kd.R_base ho0) hb); have n4_ := Aside0.mk (Kd.R_below (au46) hb); have n5_ := Aside0.mk (Kd.R_below (au47) hb); have n6_ := Aside0.mk (Kd.S_below (au48) hb); have n7_ := Aside0.mk (Kd.R_elder' (au54) (Kd.R_base ho0) hb); have n8_ := Aside0.mk (Kd.R_elder' (au70) (Kd.R_base ho0) hb); have n9_ := Aside0.mk (Kd.R_elder' (au107) (Kd.R_base ho0) hb); have n10_ := Aside0.mk (Kd.R_lower (Kd.R_new' (Kd.R_new' (Kd.R_new' (Kd.R_new' (Kd.R_new' (Kd.R_new' (Kd.R_new' ho0 (Kd.R_lt (au24))) (Kd.R_lt (au8))) (Kd.R_lt (au34))) (Kd.R_lt (au30))) (Kd.R_lt (au54))) (Kd.R_lt (au70))) (Kd.R_lt (au107))) (below_size (au2))); have n11_ := Aside0.mk (blk_below (g := gb250) (o := .cells #[.slice A0_0 l0_0.length c0_0, .slice A0_1 l0_1.length c0_1, .slice A0_2 l0_2.length c0_2, .int .i64 a0_3] 25 (0, 0)) (au28) hb); have n12_ := Aside0.mk (blk_below (g := gb262) (o := .cells #[.slice Ao19 t252.length co19, .slice Ao22 t255.length co22, .slice Ao23 t258.length co23, .int .i64 t261] 25 (0, 0)) (au36) hb); have n13_ := Aside0.mk (below_step (au2) hb); clear HO_6; clear HO_8; clear HO_10; clear HO_12; clear HO_263000; clear HO_263001; clear HO_263002; clear HO281; clear HO285; clear HO289; clear BK250; clear BK262; clear HB; have HO_6 := n0_; have HO_8 := n1_; have HO_10 := n2_; have HO_12 := n3_; have HO_263000 := n4_; have HO_263001 := n5_; have HO_263002 := n6_; have HO281 := n7_; have HO285 := n8_; have HO289 := n9_; have HO293 := n10_; have BK250 := n11_; have BK262 := n12_; have HB := n13_; clear n0_ n1_ n2_ n3_ n4_ n5_ n6_ n7_ n8_ n9_ n10_ n11_ n12_ n13_; (try clear hb); (try clear hb2); (try clear hk); (try clear hi); (try clear ho0)))
     (try simp only [Act.put, List.setIfInBounds_toArray, List.set_cons_zero, List.set_cons_succ])
     go_cut [98] (fun v98 wc => ∃ (kq : Nat) (x98_36 : Bool), v98 = .bool x98_36 ∧ Aside0 (capstanlaw11_CallsTells.j1 kq a1 x6_1 t266 x8_1 t270 x10_1 t274 x12_1 x14_1 t279 t283 t287 t291 x98_36 l0_0 l0_1 l0_2 a0_3 t252 t255 t258 t261 = some r) ∧ Aside0 (kq ≤ k1) ∧ Aside0 (Kd.R (Kd.int .i64) 3 wc w.heap.size (fun k_ => some k_ ≠ (v268 : Value).ownBlock ∧ some k_ ≠ (v272 : Value).ownBlock ∧ some k_ ≠ (v276 : Value).ownBlock ∧ some k_ ≠ (v280 : Value).ownBlock ∧ some k_ ≠ (v284 : Value).ownBlock ∧ some k_ ≠ (v288 : Value).ownBlock ∧ some k_ ≠ (v292 : Value).ownBlock) v264 x6_1) ∧ Aside0 (Kd.R (Kd.int .i64) 3 wc w.heap.size (fun k_ => some k_ ≠ (v264 : Value).ownBlock ∧ some k_ ≠ (v272 : Value).ownBlock ∧ some k_ ≠ (v276 : Value).ownBlock ∧ some k_ ≠ (v280 : Value).ownBlock ∧ some k_ ≠ (v284 : Value).ownBlock ∧ some k_ ≠ (v288 : Value).ownBlock ∧ some k_ ≠ (v292 : Value).ownBlock) v268 x8_1) ∧ Aside0 (Kd.R (Kd.int .i64) 3 wc w.heap.size (fun k_ => some k_ ≠ (v264 : Value).ownBlock ∧ some k_ ≠ (v268 : Value).ownBlock ∧ some k_ ≠ (v276 : Value).ownBlock ∧ some k_ ≠ (v280 : Value).ownBlock ∧ some k_ ≠ (v284 : Value).ownBlock ∧ some k_ ≠ (v288 : Value).ownBlock ∧ some k_ ≠ (v292 : Value).ownBlock) v272 x10_1) ∧ Aside0 (Kd.R (Kd.int .i64) 3 wc w.heap.size (fun k_ => some k_ ≠ (v264 : Value).ownBlock ∧ some k_ ≠ (v268 : Value).ownBlock ∧ some k_ ≠ (v272 : Value).ownBlock ∧ some k_ ≠ (v280 : Value).ownBlock ∧ some k_ ≠ (v284 : Value).ownBlock ∧ some k_ ≠ (v288 : Value).ownBlock ∧ some k_ ≠ (v292 : Value).ownBlock) v276 x12_1) ∧ Aside0 (Kd.R (Kd.int .i64) 3 wc w.heap.size (fun k_ => some k_ ≠ (v264 : Value).ownBlock ∧ some k_ ≠ (v268 : Value).ownBlock ∧ some k_ ≠ (v272 : Value).ownBlock ∧ some k_ ≠ (v276 : Value).ownBlock ∧ some k_ ≠ (v284 : Value).ownBlock ∧ some k_ ≠ (v288 : Value).ownBlock ∧ some k_ ≠ (v292 : Value).ownBlock) v280 t279) ∧ Aside0 (Kd.R (Kd.int .i64) 3 wc w.heap.size (fun k_ => some k_ ≠ (v264 : Value).ownBlock ∧ some k_ ≠ (v268 : Value).ownBlock ∧ some k_ ≠ (v272 : Value).ownBlock ∧ some k_ ≠ (v276 : Value).ownBlock ∧ some k_ ≠ (v280 : Value).ownBlock ∧ some k_ ≠ (v288 : Value).ownBlock ∧ some k_ ≠ (v292 : Value).ownBlock) v284 t283) ∧ Aside0 (Kd.R (Kd.int .i64) 3 wc w.heap.size (fun k_ => some k_ ≠ (v264 : Value).ownBlock ∧ some k_ ≠ (v268 : Value).ownBlock ∧ some k_ ≠ (v272 : Value).ownBlock ∧ some k_ ≠ (v276 : Value).ownBlock ∧ some k_ ≠ (v280 : Value).ownBlock ∧ some k_ ≠ (v284 : Value).ownBlock ∧ some k_ ≠ (v292 : Value).ownBlock) v288 t287) ∧ Aside0 (Kd.R (Kd.int .i64) 3 wc w.heap.size (fun k_ => some k_ ≠ (v264 : Value).ownBlock ∧ some k_ ≠ (v268 : Value).ownBlock ∧ some k_ ≠ (v272 : Value).ownBlock ∧ some k_ ≠ (v276 : Value).ownBlock ∧ some k_ ≠ (v280 : Value).ownBlock ∧ some k_ ≠ (v284 : Value).ownBlock ∧ some k_ ≠ (v288 : Value).ownBlock) v292 t291) ∧ Aside0 (Kd.R k86 86 wc w.heap.size (fun k_ => some k_ ≠ ((.slice Ao22 t255.length co22) : Value).ownBlock) (.slice Ao19 t252.length co19) t252) ∧ Aside0 (Kd.R k86 86 wc w.heap.size (fun k_ => some k_ ≠ ((.slice Ao19 t252.length co19) : Value).ownBlock) (.slice Ao22 t255.length co22) t255) ∧ Aside0 (Kd.S k52 52 wc w.heap.size (fun _ => True) (.slice Ao23 t258.length co23) t258) ∧ Aside0 (wc.heap[gb250]? = some (.cells #[(.slice A0_0 l0_0.length c0_0), (.slice A0_1 l0_1.length c0_1), (.slice A0_2 l0_2.length c0_2), .int .i64 a0_3] 25 (0, 0))) ∧ Aside0 (wc.heap[gb262]? = some (.cells #[(.slice Ao19 t252.length co19), (.slice Ao22 t255.length co22), (.slice Ao23 t258.length co23), .int .i64 t261] 25 (0, 0))) ∧ Aside0 (Below w.heap.size w wc))
     case first =>
      have H := HC37.out
      clear HC37
      by_cases c47 : t282 = t266
      ·
       rw [if_pos c47] at H
       have c47b0 : (t282 == t266) = true := beq_iff_eq.mpr c47
       have c47b1 : (t282 != t266) = false := bne_eq_false_iff_eq.mpr c47
       clear c47
       (first | rw [c47b0] | (simp only [i64_w, i32_w]; rw [c47b0]) | skip)
       by_cases c48 : t286 = t270
       ·
        rw [if_pos c48] at H
        have c48b0 : (t286 == t270) = true := beq_iff_eq.mpr c48
        have c48b1 : (t286 != t270) = false := bne_eq_false_iff_eq.mpr c48
        clear c48
        by_cases c49 : t290 = t274
        ·
         rw [if_pos c49] at H
         have c49b0 : (t290 == t274) = true := beq_iff_eq.mpr c49
         have c49b1 : (t290 != t274) = false := bne_eq_false_iff_eq.mpr c49
         clear c49
         by_cases c50 : t294 = t270
         ·
          rw [if_pos c50] at H
          have c50b0 : (t294 == t270) = true := beq_iff_eq.mpr c50
          have c50b1 : (t294 != t270) = false := bne_eq_false_iff_eq.mpr c50
          clear c50
          replace H := Option.bind_eq_some_iff.mp H
          obtain ⟨t295, A510, H⟩ := H
          replace H : (capstanlaw11_CallsTells.j1 k1 a1 x6_1 t266 x8_1 t270 x10_1 t274 x12_1 x14_1 t279 t283 t287 t291 (t295 != t270) l0_0 l0_1 l0_2 a0_3 t252 t255 t258 t261) = some r := H
          have A51 := Aside0.mk A510
          clear A510
          have H' := Aside0.mk H
          clear H
          have hnb52 := NB262_250.out
          have hnc52 := NB250_262.out
          obtain ⟨hcz53_0, hcz53_1, hcz53_2, hcz53_3, hfz53_0, hfz53_1, hfz53_2, hfz53_3⟩ := blk_all4 BK262.out
          go_wp2_with (first | ((fail_if_success (have h_ := w54)); go_at_call 33; (with_reducible refine (calls_Check.calls k1 _ _ t252 _ _ t255 _ _ t258 t261 t295 _ ?side1 ?side2 ?side3 ?side4 ?side5 ?side6 A51.out).mono ?_); (case side1 => exact au58); (case side2 => exact (Kd.R_reads' HO_263000.out).2.1); (case side3 => exact au59); (case side4 => exact (Kd.R_reads' HO_263001.out).2.1); (case side5 => exact au60); (case side6 => exact (Kd.S_reads' HO_263002.out).2.1); rintro e w54 ⟨rfl, hb⟩; have n0_ := Aside0.mk (Kd.R_below (au24) hb); have n1_ := Aside0.mk (Kd.R_below (au8) hb); have n2_ := Aside0.mk (Kd.R_below (au34) hb); have n3_ := Aside0.mk (Kd.R_below (au30) hb); have n4_ := Aside0.mk (Kd.R_below (au46) hb); have n5_ := Aside0.mk (Kd.R_below (au47) hb); have n6_ := Aside0.mk (Kd.S_below (au48) hb); have n7_ := Aside0.mk (Kd.R_below (au54) hb); have n8_ := Aside0.mk (Kd.R_below (au70) hb); have n9_ := Aside0.mk (Kd.R_below (au107) hb); have n10_ := Aside0.mk (Kd.R_below (by (with_reducible repeat (first | apply Kd.R_alloc | apply Kd.R_drewN | apply Kd.R_drew)); first | exact HO293.out | exact Kd.R_mono (HO293.out) (fun _ h_ => h_.2)) hb); have n11_ := Aside0.mk (blk_below (g := gb250) (o := .cells #[.slice A0_0 l0_0.length c0_0, .slice A0_1 l0_1.length c0_1, .slice A0_2 l0_2.length c0_2, .int .i64 a0_3] 25 (0, 0)) (au28) hb); have n12_ := Aside0.mk (blk_below (g := gb262) (o := .cells #[.slice Ao19 t252.length co19, .slice Ao22 t255.length co22, .slice Ao23 t258.length co23, .int .i64 t261] 25 (0, 0)) (au36) hb); have n13_ := Aside0.mk (below_step (au2) hb); clear HO_6; clear HO_8; clear HO_10; clear HO_12; clear HO_263000; clear HO_263001; clear HO_263002; clear HO281; clear HO285; clear HO289; clear HO293; clear BK250; clear BK262; clear HB; have HO_6 := n0_; have HO_8 := n1_; have HO_10 := n2_; have HO_12 := n3_; have HO_263000 := n4_; have HO_263001 := n5_; have HO_263002 := n6_; have HO281 := n7_; have HO285 := n8_; have HO289 := n9_; have HO293 := n10_; have BK250 := n11_; have BK262 := n12_; have HB := n13_; clear n0_ n1_ n2_ n3_ n4_ n5_ n6_ n7_ n8_ n9_ n10_ n11_ n12_ n13_; (try clear hb); (try clear hb2); (try clear hk); (try clear hi)))
          go_meet
          case rel => exact ⟨_, ((t295 != t270)), (au18), H', ⟨by have := HK1.out; first | omega | exact Nat.le_refl _⟩, ⟨by (with_reducible repeat (first | apply Kd.R_alloc | apply Kd.R_drewN | apply Kd.R_drew)); first | exact Kd.R_mono HO_6.out (fun _ hk => ⟨hk.1.1.1.1.1, ⟨hk.1.1.1.1.2.1, ⟨hk.1.1.1.1.2.2, ⟨hk.1.1.1.2, ⟨hk.1.1.2, ⟨hk.1.2, hk.2⟩⟩⟩⟩⟩⟩) | exact Kd.R_mono (Kd.R_mono HO_6.out (fun _ hk => ⟨hk.1.1.1.1.1, ⟨hk.1.1.1.1.2.1, ⟨hk.1.1.1.1.2.2, ⟨hk.1.1.1.2, ⟨hk.1.1.2, ⟨hk.1.2, hk.2⟩⟩⟩⟩⟩⟩)) (fun _ h_ => h_.2)⟩, ⟨by (with_reducible repeat (first | apply Kd.R_alloc | apply Kd.R_drewN | apply Kd.R_drew)); first | exact Kd.R_mono HO_8.out (fun _ hk => ⟨hk.1.1.1.1.1, ⟨hk.1.1.1.1.2.1, ⟨hk.1.1.1.1.2.2, ⟨hk.1.1.1.2, ⟨hk.1.1.2, ⟨hk.1.2, hk.2⟩⟩⟩⟩⟩⟩) | exact Kd.R_mono (Kd.R_mono HO_8.out (fun _ hk => ⟨hk.1.1.1.1.1, ⟨hk.1.1.1.1.2.1, ⟨hk.1.1.1.1.2.2, ⟨hk.1.1.1.2, ⟨hk.1.1.2, ⟨hk.1.2, hk.2⟩⟩⟩⟩⟩⟩)) (fun _ h_ => h_.2)⟩, ⟨by (with_reducible repeat (first | apply Kd.R_alloc | apply Kd.R_drewN | apply Kd.R_drew)); first | exact Kd.R_mono HO_10.out (fun _ hk => ⟨hk.1.1.1.1.1, ⟨hk.1.1.1.1.2.1, ⟨hk.1.1.1.1.2.2, ⟨hk.1.1.1.2, ⟨hk.1.1.2, ⟨hk.1.2, hk.2⟩⟩⟩⟩⟩⟩) | exact Kd.R_mono (Kd.R_mono HO_10.out (fun _ hk => ⟨hk.1.1.1.1.1, ⟨hk.1.1.1.1.2.1, ⟨hk.1.1.1.1.2.2, ⟨hk.1.1.1.2, ⟨hk.1.1.2, ⟨hk.1.2, hk.2⟩⟩⟩⟩⟩⟩)) (fun _ h_ => h_.2)⟩, ⟨by (with_reducible repeat (first | apply Kd.R_alloc | apply Kd.R_drewN | apply Kd.R_drew)); first | exact Kd.R_mono HO_12.out (fun _ hk => ⟨hk.1.1.1.1.1, ⟨hk.1.1.1.1.2.1, ⟨hk.1.1.1.1.2.2, ⟨hk.1.1.1.2, ⟨hk.1.1.2, ⟨hk.1.2, hk.2⟩⟩⟩⟩⟩⟩) | exact Kd.R_mono (Kd.R_mono HO_12.out (fun _ hk => ⟨hk.1.1.1.1.1, ⟨hk.1.1.1.1.2.1, ⟨hk.1.1.1.1.2.2, ⟨hk.1.1.1.2, ⟨hk.1.1.2, ⟨hk.1.2, hk.2⟩⟩⟩⟩⟩⟩)) (fun _ h_ => h_.2)⟩, ⟨by (with_reducible repeat (first | apply Kd.R_alloc | apply Kd.R_drewN | apply Kd.R_drew)); first | exact Kd.R_mono HO281.out (fun _ hk => ⟨hk.1.1.1.1.1.1.2, ⟨hk.1.1.1.1.1.2, ⟨hk.1.1.1.1.2, ⟨hk.1.1.1.2, ⟨hk.1.1.2, ⟨hk.1.2, hk.2⟩⟩⟩⟩⟩⟩) | exact Kd.R_mono (Kd.R_mono HO281.out (fun _ hk => ⟨hk.1.1.1.1.1.1.2, ⟨hk.1.1.1.1.1.2, ⟨hk.1.1.1.1.2, ⟨hk.1.1.1.2, ⟨hk.1.1.2, ⟨hk.1.2, hk.2⟩⟩⟩⟩⟩⟩)) (fun _ h_ => h_.2)⟩, ⟨by (with_reducible repeat (first | apply Kd.R_alloc | apply Kd.R_drewN | apply Kd.R_drew)); first | exact Kd.R_mono HO285.out (fun _ hk => ⟨hk.1.1.1.1.1.1.2, ⟨hk.1.1.1.1.1.2, ⟨hk.1.1.1.1.2, ⟨hk.1.1.1.2, ⟨hk.1.1.2, ⟨hk.1.2, hk.2⟩⟩⟩⟩⟩⟩) | exact Kd.R_mono (Kd.R_mono HO285.out (fun _ hk => ⟨hk.1.1.1.1.1.1.2, ⟨hk.1.1.1.1.1.2, ⟨hk.1.1.1.1.2, ⟨hk.1.1.1.2, ⟨hk.1.1.2, ⟨hk.1.2, hk.2⟩⟩⟩⟩⟩⟩)) (fun _ h_ => h_.2)⟩, ⟨by (with_reducible repeat (first | apply Kd.R_alloc | apply Kd.R_drewN | apply Kd.R_drew)); first | exact Kd.R_mono HO289.out (fun _ hk => ⟨hk.1.1.1.1.1.1.2, ⟨hk.1.1.1.1.1.2, ⟨hk.1.1.1.1.2, ⟨hk.1.1.1.2, ⟨hk.1.1.2, ⟨hk.1.2, hk.2⟩⟩⟩⟩⟩⟩) | exact Kd.R_mono (Kd.R_mono HO289.out (fun _ hk => ⟨hk.1.1.1.1.1.1.2, ⟨hk.1.1.1.1.1.2, ⟨hk.1.1.1.1.2, ⟨hk.1.1.1.2, ⟨hk.1.1.2, ⟨hk.1.2, hk.2⟩⟩⟩⟩⟩⟩)) (fun _ h_ => h_.2)⟩, ⟨by (with_reducible repeat (first | apply Kd.R_alloc | apply Kd.R_drewN | apply Kd.R_drew)); first | exact Kd.R_mono HO293.out (fun _ hk => ⟨hk.1.1.1.1.1.1.2, ⟨hk.1.1.1.1.1.2, ⟨hk.1.1.1.1.2, ⟨hk.1.1.1.2, ⟨hk.1.1.2, ⟨hk.1.2, hk.2⟩⟩⟩⟩⟩⟩) | exact Kd.R_mono (Kd.R_mono HO293.out (fun _ hk => ⟨hk.1.1.1.1.1.1.2, ⟨hk.1.1.1.1.1.2, ⟨hk.1.1.1.1.2, ⟨hk.1.1.1.2, ⟨hk.1.1.2, ⟨hk.1.2, hk.2⟩⟩⟩⟩⟩⟩)) (fun _ h_ => h_.2)⟩, ⟨au46⟩, ⟨au47⟩, ⟨au48⟩, ⟨au28⟩, ⟨au36⟩, ⟨au2⟩⟩
         ·
          rw [if_neg c50] at H
          exact absurd H (by simp)
        ·
         rw [if_neg c49] at H
         exact absurd H (by simp)
       ·
        rw [if_neg c48] at H
        exact absurd H (by simp)
      ·
       rw [if_neg c47] at H
       exact absurd H (by simp)
     case rest =>
      clear HC37
      try clear c1
      try clear c2
      try clear p2
      try clear c3
      try clear c4
      try clear c5
      try clear c11
      try clear c12
      try clear c20
      try clear c25
      try clear c26
      try clear c27
      try clear c28
      try clear c29
      try clear c30
      try clear c31
      try clear c32
      try clear c32b0
      try clear c38
      try clear c47
      try clear c47b0
      try clear c47b1
      try clear c48
      try clear c48b0
      try clear c48b1
      try clear c49
      try clear c49b0
      try clear c49b1
      try clear c50
      try clear c50b0
      try clear c50b1
      try clear c52
      try clear hcz14_0
      try clear hcz14_1
      try clear hcz14_2
      try clear hcz14_3
      try clear hcz16_0
      try clear hcz16_1
      try clear hcz16_2
      try clear hcz16_3
      try clear hcz21_0
      try clear hcz21_1
      try clear hcz21_2
      try clear hcz21_3
      try clear hcz24_0
      try clear hcz24_1
      try clear hcz24_2
      try clear hcz24_3
      try clear hcz26_0
      try clear hcz26_1
      try clear hcz26_2
      try clear hcz26_3
      try clear hcz28_0
      try clear hcz28_1
      try clear hcz28_2
      try clear hcz28_3
      try clear hcz30_0
      try clear hcz30_1
      try clear hcz30_2
      try clear hcz30_3
      try clear hcz39_0
      try clear hcz39_1
      try clear hcz39_2
      try clear hcz39_3
      try clear hcz41_0
      try clear hcz41_1
      try clear hcz41_2
      try clear hcz41_3
      try clear hcz43_0
      try clear hcz43_1
      try clear hcz43_2
      try clear hcz43_3
      try clear hcz45_0
      try clear hcz45_1
      try clear hcz45_2
      try clear hcz45_3
      try clear hcz53_0
      try clear hcz53_1
      try clear hcz53_2
      try clear hcz53_3
      try clear hcz6_0
      try clear hcz6_1
      try clear hcz6_2
      try clear hcz6_3
      try clear hfz14_0
      try clear hfz14_1
      try clear hfz14_2
      try clear hfz14_3
      try clear hfz16_0
      try clear hfz16_1
      try clear hfz16_2
      try clear hfz16_3
      try clear hfz21_0
      try clear hfz21_1
      try clear hfz21_2
      try clear hfz21_3
      try clear hfz24_0
      try clear hfz24_1
      try clear hfz24_2
      try clear hfz24_3
      try clear hfz26_0
      try clear hfz26_1
      try clear hfz26_2
      try clear hfz26_3
      try clear hfz28_0
      try clear hfz28_1
      try clear hfz28_2
      try clear hfz28_3
      try clear hfz30_0
      try clear hfz30_1
      try clear hfz30_2
      try clear hfz30_3
      try clear hfz39_0
      try clear hfz39_1
      try clear hfz39_2
      try clear hfz39_3
      try clear hfz41_0
      try clear hfz41_1
      try clear hfz41_2
      try clear hfz41_3
      try clear hfz43_0
      try clear hfz43_1
      try clear hfz43_2
      try clear hfz43_3
      try clear hfz45_0
      try clear hfz45_1
      try clear hfz45_2
      try clear hfz45_3
      try clear hfz53_0
      try clear hfz53_1
      try clear hfz53_2
      try clear hfz53_3
      try clear hfz6_0
      try clear hfz6_1
      try clear hfz6_2
      try clear hfz6_3
      try clear p2
      obtain ⟨kq, x98_36, rfl, HA, HJ36, HO_6, HO_8, HO_10, HO_12, HO_15, HO_17, HO_19, HO_21, HO_263000, HO_263001, HO_263002, BK250, BK262, HB⟩ := hcut
      cases kq with
      | zero => exact absurd HA.out (by simp [capstanlaw11_CallsTells.j1])
      | succ kj36 =>
       have H := HA.out
       clear HA
       simp only [capstanlaw11_CallsTells.j1] at H
       by_cases c55 : x98_36 = true
       ·
        subst c55
        have H1 : (none) = some r := by rw [if_pos rfl] at H; exact H
        clear H
        have H := H1
        clear H1
        exact absurd H (by simp)
       ·
        replace c55 := Bool.eq_false_iff.mpr c55
        subst c55
        have H1 : ((capstanref09_SameInts.f kj36 t279 x6_1).bind fun t296 => (if t296 = true then ((capstanref09_SameInts.f kj36 t283 x8_1).bind fun t297 => (if t297 = true then ((capstanref09_SameInts.f kj36 t287 x10_1).bind fun t298 => (if t298 = true then ((capstanref09_SameInts.f kj36 t291 x12_1).bind fun t299 => (if t299 = true then ((capstanref08_Same.f kj36 t252 t255 t258 t261 l0_0 l0_1 l0_2 a0_3).bind fun t300 => (capstanlaw11_CallsTells.j2 kj36 a1 x6_1 t266 x8_1 t270 x10_1 t274 x12_1 x14_1 t279 t283 t287 t291 (!t300) l0_0 l0_1 l0_2 a0_3 t252 t255 t258 t261)) else (none))) else (none))) else (none))) else (none))) = some r := by rw [if_neg (show ¬ (false = true) by decide)] at H; exact H
        clear H
        have H := H1
        clear H1
        have HC56 := Aside0.mk H
        clear H
        go_upto_region 17 with (fail)
        go_cut [126] (fun v126 wc => ∃ (kq : Nat) (x126_55 : Bool), v126 = .bool x126_55 ∧ Aside0 (capstanlaw11_CallsTells.j2 kq a1 x6_1 t266 x8_1 t270 x10_1 t274 x12_1 x14_1 t279 t283 t287 t291 x126_55 l0_0 l0_1 l0_2 a0_3 t252 t255 t258 t261 = some r) ∧ Aside0 (kq ≤ kj36) ∧ Aside0 (Kd.R (Kd.int .i64) 3 wc w.heap.size (fun k_ => some k_ ≠ (v268 : Value).ownBlock ∧ some k_ ≠ (v272 : Value).ownBlock ∧ some k_ ≠ (v276 : Value).ownBlock ∧ some k_ ≠ (v280 : Value).ownBlock ∧ some k_ ≠ (v284 : Value).ownBlock ∧ some k_ ≠ (v288 : Value).ownBlock ∧ some k_ ≠ (v292 : Value).ownBlock) v264 x6_1) ∧ Aside0 (Kd.R (Kd.int .i64) 3 wc w.heap.size (fun k_ => some k_ ≠ (v264 : Value).ownBlock ∧ some k_ ≠ (v272 : Value).ownBlock ∧ some k_ ≠ (v276 : Value).ownBlock ∧ some k_ ≠ (v280 : Value).ownBlock ∧ some k_ ≠ (v284 : Value).ownBlock ∧ some k_ ≠ (v288 : Value).ownBlock ∧ some k_ ≠ (v292 : Value).ownBlock) v268 x8_1) ∧ Aside0 (Kd.R (Kd.int .i64) 3 wc w.heap.size (fun k_ => some k_ ≠ (v264 : Value).ownBlock ∧ some k_ ≠ (v268 : Value).ownBlock ∧ some k_ ≠ (v276 : Value).ownBlock ∧ some k_ ≠ (v280 : Value).ownBlock ∧ some k_ ≠ (v284 : Value).ownBlock ∧ some k_ ≠ (v288 : Value).ownBlock ∧ some k_ ≠ (v292 : Value).ownBlock) v272 x10_1) ∧ Aside0 (Kd.R (Kd.int .i64) 3 wc w.heap.size (fun k_ => some k_ ≠ (v264 : Value).ownBlock ∧ some k_ ≠ (v268 : Value).ownBlock ∧ some k_ ≠ (v272 : Value).ownBlock ∧ some k_ ≠ (v280 : Value).ownBlock ∧ some k_ ≠ (v284 : Value).ownBlock ∧ some k_ ≠ (v288 : Value).ownBlock ∧ some k_ ≠ (v292 : Value).ownBlock) v276 x12_1) ∧ Aside0 (Kd.R (Kd.int .i64) 3 wc w.heap.size (fun k_ => some k_ ≠ (v264 : Value).ownBlock ∧ some k_ ≠ (v268 : Value).ownBlock ∧ some k_ ≠ (v272 : Value).ownBlock ∧ some k_ ≠ (v276 : Value).ownBlock ∧ some k_ ≠ (v284 : Value).ownBlock ∧ some k_ ≠ (v288 : Value).ownBlock ∧ some k_ ≠ (v292 : Value).ownBlock) v280 t279) ∧ Aside0 (Kd.R (Kd.int .i64) 3 wc w.heap.size (fun k_ => some k_ ≠ (v264 : Value).ownBlock ∧ some k_ ≠ (v268 : Value).ownBlock ∧ some k_ ≠ (v272 : Value).ownBlock ∧ some k_ ≠ (v276 : Value).ownBlock ∧ some k_ ≠ (v280 : Value).ownBlock ∧ some k_ ≠ (v288 : Value).ownBlock ∧ some k_ ≠ (v292 : Value).ownBlock) v284 t283) ∧ Aside0 (Kd.R (Kd.int .i64) 3 wc w.heap.size (fun k_ => some k_ ≠ (v264 : Value).ownBlock ∧ some k_ ≠ (v268 : Value).ownBlock ∧ some k_ ≠ (v272 : Value).ownBlock ∧ some k_ ≠ (v276 : Value).ownBlock ∧ some k_ ≠ (v280 : Value).ownBlock ∧ some k_ ≠ (v284 : Value).ownBlock ∧ some k_ ≠ (v292 : Value).ownBlock) v288 t287) ∧ Aside0 (Kd.R (Kd.int .i64) 3 wc w.heap.size (fun k_ => some k_ ≠ (v264 : Value).ownBlock ∧ some k_ ≠ (v268 : Value).ownBlock ∧ some k_ ≠ (v272 : Value).ownBlock ∧ some k_ ≠ (v276 : Value).ownBlock ∧ some k_ ≠ (v280 : Value).ownBlock ∧ some k_ ≠ (v284 : Value).ownBlock ∧ some k_ ≠ (v288 : Value).ownBlock) v292 t291) ∧ Aside0 (Kd.R k86 86 wc w.heap.size (fun k_ => some k_ ≠ ((.slice Ao22 t255.length co22) : Value).ownBlock) (.slice Ao19 t252.length co19) t252) ∧ Aside0 (Kd.R k86 86 wc w.heap.size (fun k_ => some k_ ≠ ((.slice Ao19 t252.length co19) : Value).ownBlock) (.slice Ao22 t255.length co22) t255) ∧ Aside0 (Kd.S k52 52 wc w.heap.size (fun _ => True) (.slice Ao23 t258.length co23) t258) ∧ Aside0 (wc.heap[gb250]? = some (.cells #[(.slice A0_0 l0_0.length c0_0), (.slice A0_1 l0_1.length c0_1), (.slice A0_2 l0_2.length c0_2), .int .i64 a0_3] 25 (0, 0))) ∧ Aside0 (wc.heap[gb262]? = some (.cells #[(.slice Ao19 t252.length co19), (.slice Ao22 t255.length co22), (.slice Ao23 t258.length co23), .int .i64 t261] 25 (0, 0))) ∧ Aside0 (Below w.heap.size w wc))
        case first =>
         have H := HC56.out
         clear HC56
         replace H := Option.bind_eq_some_iff.mp H
         obtain ⟨t296, A570, H⟩ := H
         replace H : (if t296 = true then ((capstanref09_SameInts.f kj36 t283 x8_1).bind fun t297 => (if t297 = true then ((capstanref09_SameInts.f kj36 t287 x10_1).bind fun t298 => (if t298 = true then ((capstanref09_SameInts.f kj36 t291 x12_1).bind fun t299 => (if t299 = true then ((capstanref08_Same.f kj36 t252 t255 t258 t261 l0_0 l0_1 l0_2 a0_3).bind fun t300 => (capstanlaw11_CallsTells.j2 kj36 a1 x6_1 t266 x8_1 t270 x10_1 t274 x12_1 x14_1 t279 t283 t287 t291 (!t300) l0_0 l0_1 l0_2 a0_3 t252 t255 t258 t261)) else (none))) else (none))) else (none))) else (none)) = some r := H
         have A57 := Aside0.mk A570
         clear A570
         by_cases c58 : t296 = true
         ·
          subst c58
          have H1 : ((capstanref09_SameInts.f kj36 t283 x8_1).bind fun t297 => (if t297 = true then ((capstanref09_SameInts.f kj36 t287 x10_1).bind fun t298 => (if t298 = true then ((capstanref09_SameInts.f kj36 t291 x12_1).bind fun t299 => (if t299 = true then ((capstanref08_Same.f kj36 t252 t255 t258 t261 l0_0 l0_1 l0_2 a0_3).bind fun t300 => (capstanlaw11_CallsTells.j2 kj36 a1 x6_1 t266 x8_1 t270 x10_1 t274 x12_1 x14_1 t279 t283 t287 t291 (!t300) l0_0 l0_1 l0_2 a0_3 t252 t255 t258 t261)) else (none))) else (none))) else (none))) = some r := by rw [if_pos rfl] at H; exact H
          clear H
          have H := H1
          clear H1
          replace H := Option.bind_eq_some_iff.mp H
          obtain ⟨t297, A590, H⟩ := H
          replace H : (if t297 = true then ((capstanref09_SameInts.f kj36 t287 x10_1).bind fun t298 => (if t298 = true then ((capstanref09_SameInts.f kj36 t291 x12_1).bind fun t299 => (if t299 = true then ((capstanref08_Same.f kj36 t252 t255 t258 t261 l0_0 l0_1 l0_2 a0_3).bind fun t300 => (capstanlaw11_CallsTells.j2 kj36 a1 x6_1 t266 x8_1 t270 x10_1 t274 x12_1 x14_1 t279 t283 t287 t291 (!t300) l0_0 l0_1 l0_2 a0_3 t252 t255 t258 t261)) else (none))) else (none))) else (none)) = some r := H
          have A59 := Aside0.mk A590
          clear A590
          by_cases c60 : t297 = true
          ·
           subst c60
           have H1 : ((capstanref09_SameInts.f kj36 t287 x10_1).bind fun t298 => (if t298 = true then ((capstanref09_SameInts.f kj36 t291 x12_1).bind fun t299 => (if t299 = true then ((capstanref08_Same.f kj36 t252 t255 t258 t261 l0_0 l0_1 l0_2 a0_3).bind fun t300 => (capstanlaw11_CallsTells.j2 kj36 a1 x6_1 t266 x8_1 t270 x10_1 t274 x12_1 x14_1 t279 t283 t287 t291 (!t300) l0_0 l0_1 l0_2 a0_3 t252 t255 t258 t261)) else (none))) else (none))) = some r := by rw [if_pos rfl] at H; exact H
           clear H
           have H := H1
           clear H1
           replace H := Option.bind_eq_some_iff.mp H
           obtain ⟨t298, A610, H⟩ := H
           replace H : (if t298 = true then ((capstanref09_SameInts.f kj36 t291 x12_1).bind fun t299 => (if t299 = true then ((capstanref08_Same.f kj36 t252 t255 t258 t261 l0_0 l0_1 l0_2 a0_3).bind fun t300 => (capstanlaw11_CallsTells.j2 kj36 a1 x6_1 t266 x8_1 t270 x10_1 t274 x12_1 x14_1 t279 t283 t287 t291 (!t300) l0_0 l0_1 l0_2 a0_3 t252 t255 t258 t261)) else (none))) else (none)) = some r := H
           have A61 := Aside0.mk A610
           clear A610
           by_cases c62 : t298 = true
           ·
            subst c62
            have H1 : ((capstanref09_SameInts.f kj36 t291 x12_1).bind fun t299 => (if t299 = true then ((capstanref08_Same.f kj36 t252 t255 t258 t261 l0_0 l0_1 l0_2 a0_3).bind fun t300 => (capstanlaw11_CallsTells.j2 kj36 a1 x6_1 t266 x8_1 t270 x10_1 t274 x12_1 x14_1 t279 t283 t287 t291 (!t300) l0_0 l0_1 l0_2 a0_3 t252 t255 t258 t261)) else (none))) = some r := by rw [if_pos rfl] at H; exact H
            clear H
            have H := H1
            clear H1
            replace H := Option.bind_eq_some_iff.mp H
            obtain ⟨t299, A630, H⟩ := H
            replace H : (if t299 = true then ((capstanref08_Same.f kj36 t252 t255 t258 t261 l0_0 l0_1 l0_2 a0_3).bind fun t300 => (capstanlaw11_CallsTells.j2 kj36 a1 x6_1 t266 x8_1 t270 x10_1 t274 x12_1 x14_1 t279 t283 t287 t291 (!t300) l0_0 l0_1 l0_2 a0_3 t252 t255 t258 t261)) else (none)) = some r := H
            have A63 := Aside0.mk A630
            clear A630
            by_cases c64 : t299 = true
            ·
             subst c64
             have H1 : ((capstanref08_Same.f kj36 t252 t255 t258 t261 l0_0 l0_1 l0_2 a0_3).bind fun t300 => (capstanlaw11_CallsTells.j2 kj36 a1 x6_1 t266 x8_1 t270 x10_1 t274 x12_1 x14_1 t279 t283 t287 t291 (!t300) l0_0 l0_1 l0_2 a0_3 t252 t255 t258 t261)) = some r := by rw [if_pos rfl] at H; exact H
             clear H
             have H := H1
             clear H1
             replace H := Option.bind_eq_some_iff.mp H
             obtain ⟨t300, A650, H⟩ := H
             replace H : (capstanlaw11_CallsTells.j2 kj36 a1 x6_1 t266 x8_1 t270 x10_1 t274 x12_1 x14_1 t279 t283 t287 t291 (!t300) l0_0 l0_1 l0_2 a0_3 t252 t255 t258 t261) = some r := H
             have A65 := Aside0.mk A650
             clear A650
             have H' := Aside0.mk H
             clear H
             obtain ⟨Ao66, co66, eo66⟩ := Kd.R_slice HO_15.out
             subst eo66
             obtain ⟨Ao67, co67, eo67⟩ := Kd.R_slice HO_6.out
             subst eo67
             go_wp2_with (first | ((with_reducible refine gate_callee (f := 34) rfl ?_); refine goesL_ (some 101) rfl rfl Try.func34 (by kernel_rfl) rfl #[.slice Ao66 t279.length co66, .slice Ao67 x6_1.length co67] rfl (au6) ?_; (with_reducible refine (capstanref09_SameInts.calls kj36 _ _ t279 _ _ x6_1 true _ ?side1 ?side2 ?side3 ?side4 A57.out).mono ?_); (case side1 => repeat (first | exact (Kd.R_reads' HO_15.out).2.2 | (with_reducible refine Kd.C_alloc ?_ _) | (with_reducible refine Kd.C_drewN ?_ _) | (with_reducible refine Kd.C_drew ?_))); (case side2 => exact (Kd.R_reads' HO_15.out).2.1); (case side3 => repeat (first | exact (Kd.R_reads' HO_6.out).2.2 | (with_reducible refine Kd.C_alloc ?_ _) | (with_reducible refine Kd.C_drewN ?_ _) | (with_reducible refine Kd.C_drew ?_))); (case side4 => exact (Kd.R_reads' HO_6.out).2.1); rintro e w' ⟨rfl, ⟨nd, rfl⟩⟩; refine ⟨_, rfl, ?_⟩; obtain ⟨Ao68, co68, eo68⟩ := Kd.R_slice HO_17.out; subst eo68; obtain ⟨Ao69, co69, eo69⟩ := Kd.R_slice HO_8.out; subst eo69) | (go_at_call 34; (with_reducible refine (capstanref09_SameInts.calls kj36 _ _ t283 _ _ x8_1 true _ ?side1 ?side2 ?side3 ?side4 A59.out).mono ?_); (case side1 => repeat (first | exact (Kd.R_reads' HO_17.out).2.2 | (with_reducible refine Kd.C_alloc ?_ _) | (with_reducible refine Kd.C_drewN ?_ _) | (with_reducible refine Kd.C_drew ?_))); (case side2 => exact (Kd.R_reads' HO_17.out).2.1); (case side3 => repeat (first | exact (Kd.R_reads' HO_8.out).2.2 | (with_reducible refine Kd.C_alloc ?_ _) | (with_reducible refine Kd.C_drewN ?_ _) | (with_reducible refine Kd.C_drew ?_))); (case side4 => exact (Kd.R_reads' HO_8.out).2.1); rintro e w' ⟨rfl, ⟨nd, rfl⟩⟩; obtain ⟨Ao70, co70, eo70⟩ := Kd.R_slice HO_19.out; subst eo70; obtain ⟨Ao71, co71, eo71⟩ := Kd.R_slice HO_10.out; subst eo71) | (go_at_call 34; (with_reducible refine (capstanref09_SameInts.calls kj36 _ _ t287 _ _ x10_1 true _ ?side1 ?side2 ?side3 ?side4 A61.out).mono ?_); (case side1 => repeat (first | exact (Kd.R_reads' HO_19.out).2.2 | (with_reducible refine Kd.C_alloc ?_ _) | (with_reducible refine Kd.C_drewN ?_ _) | (with_reducible refine Kd.C_drew ?_))); (case side2 => exact (Kd.R_reads' HO_19.out).2.1); (case side3 => repeat (first | exact (Kd.R_reads' HO_10.out).2.2 | (with_reducible refine Kd.C_alloc ?_ _) | (with_reducible refine Kd.C_drewN ?_ _) | (with_reducible refine Kd.C_drew ?_))); (case side4 => exact (Kd.R_reads' HO_10.out).2.1); rintro e w' ⟨rfl, ⟨nd, rfl⟩⟩; obtain ⟨Ao72, co72, eo72⟩ := Kd.R_slice HO_21.out; subst eo72; obtain ⟨Ao73, co73, eo73⟩ := Kd.R_slice HO_12.out; subst eo73) | (go_at_call 34; (with_reducible refine (capstanref09_SameInts.calls kj36 _ _ t291 _ _ x12_1 true _ ?side1 ?side2 ?side3 ?side4 A63.out).mono ?_); (case side1 => repeat (first | exact (Kd.R_reads' HO_21.out).2.2 | (with_reducible refine Kd.C_alloc ?_ _) | (with_reducible refine Kd.C_drewN ?_ _) | (with_reducible refine Kd.C_drew ?_))); (case side2 => exact (Kd.R_reads' HO_21.out).2.1); (case side3 => repeat (first | exact (Kd.R_reads' HO_12.out).2.2 | (with_reducible refine Kd.C_alloc ?_ _) | (with_reducible refine Kd.C_drewN ?_ _) | (with_reducible refine Kd.C_drew ?_))); (case side4 => exact (Kd.R_reads' HO_12.out).2.1); rintro e w' ⟨rfl, ⟨nd, rfl⟩⟩; have hnb74 := NB262_250.out; have hnc74 := NB250_262.out; obtain ⟨hcz75_0, hcz75_1, hcz75_2, hcz75_3, hfz75_0, hfz75_1, hfz75_2, hfz75_3⟩ := blk_all4 BK262.out; obtain ⟨hcz76_0, hcz76_1, hcz76_2, hcz76_3, hfz76_0, hfz76_1, hfz76_2, hfz76_3⟩ := blk_all4 BK250.out) | ((fail_if_success (have h_ := w77)); go_at_call 20; (with_reducible refine (capstanref08_Same.calls kj36 _ _ t252 _ _ t255 _ _ t258 t261 _ _ l0_0 _ _ l0_1 _ _ l0_2 a0_3 t300 _ ?side1 ?side2 ?side3 ?side4 ?side5 ?side6 ?side7 ?side8 ?side9 ?side10 ?side11 ?side12 A65.out).mono ?_); (case side1 => exact au58); (case side2 => exact (Kd.R_reads' HO_263000.out).2.1); (case side3 => exact au59); (case side4 => exact (Kd.R_reads' HO_263001.out).2.1); (case side5 => exact au60); (case side6 => exact (Kd.S_reads' HO_263002.out).2.1); (case side7 => repeat (first | exact (Kd.C_below HR0_0.out (au2)) | (with_reducible refine Kd.C_alloc ?_ _) | (with_reducible refine Kd.C_drewN ?_ _) | (with_reducible refine Kd.C_drew ?_))); (case side8 => exact HC0_0.out); (case side9 => repeat (first | exact (Kd.C_below HR0_1.out (au2)) | (with_reducible refine Kd.C_alloc ?_ _) | (with_reducible refine Kd.C_drewN ?_ _) | (with_reducible refine Kd.C_drew ?_))); (case side10 => exact HC0_1.out); (case side11 => repeat (first | exact (Kd.C_below HR0_2.out (au2)) | (with_reducible refine Kd.C_alloc ?_ _) | (with_reducible refine Kd.C_drewN ?_ _) | (with_reducible refine Kd.C_drew ?_))); (case side12 => exact HC0_2.out); rintro e w77 ⟨rfl, hb⟩; have n0_ := Aside0.mk (Kd.R_below (au24) hb); have n1_ := Aside0.mk (Kd.R_below (au8) hb); have n2_ := Aside0.mk (Kd.R_below (au34) hb); have n3_ := Aside0.mk (Kd.R_below (au30) hb); have n4_ := Aside0.mk (Kd.R_below (by (with_reducible repeat (first | apply Kd.R_alloc | apply Kd.R_drewN | apply Kd.R_drew)); first | exact HO_15.out | exact Kd.R_mono (HO_15.out) (fun _ h_ => h_.2)) hb); have n5_ := Aside0.mk (Kd.R_below (by (with_reducible repeat (first | apply Kd.R_alloc | apply Kd.R_drewN | apply Kd.R_drew)); first | exact HO_17.out | exact Kd.R_mono (HO_17.out) (fun _ h_ => h_.2)) hb); have n6_ := Aside0.mk (Kd.R_below (by (with_reducible repeat (first | apply Kd.R_alloc | apply Kd.R_drewN | apply Kd.R_drew)); first | exact HO_19.out | exact Kd.R_mono (HO_19.out) (fun _ h_ => h_.2)) hb); have n7_ := Aside0.mk (Kd.R_below (by (with_reducible repeat (first | apply Kd.R_alloc | apply Kd.R_drewN | apply Kd.R_drew)); first | exact HO_21.out | exact Kd.R_mono (HO_21.out) (fun _ h_ => h_.2)) hb); have n8_ := Aside0.mk (Kd.R_below (au46) hb); have n9_ := Aside0.mk (Kd.R_below (au47) hb); have n10_ := Aside0.mk (Kd.S_below (au48) hb); have n11_ := Aside0.mk (blk_below (g := gb250) (o := .cells #[.slice A0_0 l0_0.length c0_0, .slice A0_1 l0_1.length c0_1, .slice A0_2 l0_2.length c0_2, .int .i64 a0_3] 25 (0, 0)) (au28) hb); have n12_ := Aside0.mk (blk_below (g := gb262) (o := .cells #[.slice Ao19 t252.length co19, .slice Ao22 t255.length co22, .slice Ao23 t258.length co23, .int .i64 t261] 25 (0, 0)) (au36) hb); have n13_ := Aside0.mk (below_step (au2) hb); clear HO_6; clear HO_8; clear HO_10; clear HO_12; clear HO_15; clear HO_17; clear HO_19; clear HO_21; clear HO_263000; clear HO_263001; clear HO_263002; clear BK250; clear BK262; clear HB; have HO_6 := n0_; have HO_8 := n1_; have HO_10 := n2_; have HO_12 := n3_; have HO_15 := n4_; have HO_17 := n5_; have HO_19 := n6_; have HO_21 := n7_; have HO_263000 := n8_; have HO_263001 := n9_; have HO_263002 := n10_; have BK250 := n11_; have BK262 := n12_; have HB := n13_; clear n0_ n1_ n2_ n3_ n4_ n5_ n6_ n7_ n8_ n9_ n10_ n11_ n12_ n13_; (try clear hb); (try clear hb2); (try clear hk); (try clear hi)))
             go_meet
             case rel => exact ⟨_, (!t300), (au18), H', ⟨by have := HK1.out; have := HJ36.out; first | omega | exact Nat.le_refl _⟩, ⟨au24⟩, ⟨au8⟩, ⟨au34⟩, ⟨au30⟩, ⟨by (with_reducible repeat (first | apply Kd.R_alloc | apply Kd.R_drewN | apply Kd.R_drew)); first | exact HO_15.out | exact Kd.R_mono (HO_15.out) (fun _ h_ => h_.2)⟩, ⟨by (with_reducible repeat (first | apply Kd.R_alloc | apply Kd.R_drewN | apply Kd.R_drew)); first | exact HO_17.out | exact Kd.R_mono (HO_17.out) (fun _ h_ => h_.2)⟩, ⟨by (with_reducible repeat (first | apply Kd.R_alloc | apply Kd.R_drewN | apply Kd.R_drew)); first | exact HO_19.out | exact Kd.R_mono (HO_19.out) (fun _ h_ => h_.2)⟩, ⟨by (with_reducible repeat (first | apply Kd.R_alloc | apply Kd.R_drewN | apply Kd.R_drew)); first | exact HO_21.out | exact Kd.R_mono (HO_21.out) (fun _ h_ => h_.2)⟩, ⟨au46⟩, ⟨au47⟩, ⟨au48⟩, ⟨au28⟩, ⟨au36⟩, ⟨au2⟩⟩
            ·
             replace c64 := Bool.eq_false_iff.mpr c64
             subst c64
             have H1 : (none) = some r := by rw [if_neg (show ¬ (false = true) by decide)] at H; exact H
             clear H
             have H := H1
             clear H1
             exact absurd H (by simp)
           ·
            replace c62 := Bool.eq_false_iff.mpr c62
            subst c62
            have H1 : (none) = some r := by rw [if_neg (show ¬ (false = true) by decide)] at H; exact H
            clear H
            have H := H1
            clear H1
            exact absurd H (by simp)
          ·
           replace c60 := Bool.eq_false_iff.mpr c60
           subst c60
           have H1 : (none) = some r := by rw [if_neg (show ¬ (false = true) by decide)] at H; exact H
           clear H
           have H := H1
           clear H1
           exact absurd H (by simp)
         ·
          replace c58 := Bool.eq_false_iff.mpr c58
          subst c58
          have H1 : (none) = some r := by rw [if_neg (show ¬ (false = true) by decide)] at H; exact H
          clear H
          have H := H1
          clear H1
          exact absurd H (by simp)
        case rest =>
         clear HC56
         try clear c1
         try clear c2
         try clear p2
         try clear c3
         try clear c4
         try clear c5
         try clear c6
         try clear c7
         try clear c11
         try clear c12
         try clear c20
         try clear c25
         try clear c26
         try clear c27
         try clear c28
         try clear c29
         try clear c30
         try clear c31
         try clear c32
         try clear c32b0
         try clear c34
         try clear c38
         try clear c47
         try clear c47b0
         try clear c47b1
         try clear c48
         try clear c48b0
         try clear c48b1
         try clear c49
         try clear c49b0
         try clear c49b1
         try clear c50
         try clear c50b0
         try clear c50b1
         try clear c52
         try clear c55
         try clear c58
         try clear c60
         try clear c62
         try clear c64
         try clear c74
         try clear hcz14_0
         try clear hcz14_1
         try clear hcz14_2
         try clear hcz14_3
         try clear hcz16_0
         try clear hcz16_1
         try clear hcz16_2
         try clear hcz16_3
         try clear hcz21_0
         try clear hcz21_1
         try clear hcz21_2
         try clear hcz21_3
         try clear hcz24_0
         try clear hcz24_1
         try clear hcz24_2
         try clear hcz24_3
         try clear hcz26_0
         try clear hcz26_1
         try clear hcz26_2
         try clear hcz26_3
         try clear hcz28_0
         try clear hcz28_1
         try clear hcz28_2
         try clear hcz28_3
         try clear hcz30_0
         try clear hcz30_1
         try clear hcz30_2
         try clear hcz30_3
         try clear hcz39_0
         try clear hcz39_1
         try clear hcz39_2
         try clear hcz39_3
         try clear hcz41_0
         try clear hcz41_1
         try clear hcz41_2
         try clear hcz41_3
         try clear hcz43_0
         try clear hcz43_1
         try clear hcz43_2
         try clear hcz43_3
         try clear hcz45_0
         try clear hcz45_1
         try clear hcz45_2
         try clear hcz45_3
         try clear hcz53_0
         try clear hcz53_1
         try clear hcz53_2
         try clear hcz53_3
         try clear hcz6_0
         try clear hcz6_1
         try clear hcz6_2
         try clear hcz6_3
         try clear hcz75_0
         try clear hcz75_1
         try clear hcz75_2
         try clear hcz75_3
         try clear hcz76_0
         try clear hcz76_1
         try clear hcz76_2
         try clear hcz76_3
         try clear hfz14_0
         try clear hfz14_1
         try clear hfz14_2
         try clear hfz14_3
         try clear hfz16_0
         try clear hfz16_1
         try clear hfz16_2
         try clear hfz16_3
         try clear hfz21_0
         try clear hfz21_1
         try clear hfz21_2
         try clear hfz21_3
         try clear hfz24_0
         try clear hfz24_1
         try clear hfz24_2
         try clear hfz24_3
         try clear hfz26_0
         try clear hfz26_1
         try clear hfz26_2
         try clear hfz26_3
         try clear hfz28_0
         try clear hfz28_1
         try clear hfz28_2
         try clear hfz28_3
         try clear hfz30_0
         try clear hfz30_1
         try clear hfz30_2
         try clear hfz30_3
         try clear hfz39_0
         try clear hfz39_1
         try clear hfz39_2
         try clear hfz39_3
         try clear hfz41_0
         try clear hfz41_1
         try clear hfz41_2
         try clear hfz41_3
         try clear hfz43_0
         try clear hfz43_1
         try clear hfz43_2
         try clear hfz43_3
         try clear hfz45_0
         try clear hfz45_1
         try clear hfz45_2
         try clear hfz45_3
         try clear hfz53_0
         try clear hfz53_1
         try clear hfz53_2
         try clear hfz53_3
         try clear hfz6_0
         try clear hfz6_1
         try clear hfz6_2
         try clear hfz6_3
         try clear hfz75_0
         try clear hfz75_1
         try clear hfz75_2
         try clear hfz75_3
         try clear hfz76_0
         try clear hfz76_1
         try clear hfz76_2
         try clear hfz76_3
         try clear p2
         obtain ⟨kq, x126_55, rfl, HA, HJ55, HO_6, HO_8, HO_10, HO_12, HO_15, HO_17, HO_19, HO_21, HO_263000, HO_263001, HO_263002, BK250, BK262, HB⟩ := hcut
         cases kq with
         | zero => exact absurd HA.out (by simp [capstanlaw11_CallsTells.j2])
         | succ kj55 =>
          have H := HA.out
          clear HA
          simp only [capstanlaw11_CallsTells.j2] at H
          by_cases c78 : x126_55 = true
          ·
           subst c78
           have H1 : (none) = some r := by rw [if_pos rfl] at H; exact H
           clear H
           have H := H1
           clear H1
           exact absurd H (by simp)
          ·
           replace c78 := Bool.eq_false_iff.mpr c78
           subst c78
           have H1 : ((capstanlaw11_spoil.f kj55 t279).bind fun t301 => ((capstanlaw11_spoil.f kj55 t283).bind fun t302 => ((capstanlaw11_spoil.f kj55 t287).bind fun t303 => ((capstanlaw11_spoil.f kj55 t291).bind fun t304 => (capstanlaw11_CallsTells.l0 kj55 a1 x6_1 t266 x8_1 t270 x10_1 t274 x12_1 (wrap64 (x14_1 + 1)) l0_0 l0_1 l0_2 a0_3 t252 t255 t258 t261))))) = some r := by rw [if_neg (show ¬ (false = true) by decide)] at H; exact H
           clear H
           have H := H1
           clear H1
           replace H := Option.bind_eq_some_iff.mp H
           obtain ⟨t301, A790, H⟩ := H
           replace H : ((capstanlaw11_spoil.f kj55 t283).bind fun t302 => ((capstanlaw11_spoil.f kj55 t287).bind fun t303 => ((capstanlaw11_spoil.f kj55 t291).bind fun t304 => (capstanlaw11_CallsTells.l0 kj55 a1 x6_1 t266 x8_1 t270 x10_1 t274 x12_1 (wrap64 (x14_1 + 1)) l0_0 l0_1 l0_2 a0_3 t252 t255 t258 t261)))) = some r := H
           have A79 := Aside0.mk A790
           clear A790
           replace H := Option.bind_eq_some_iff.mp H
           obtain ⟨t302, A800, H⟩ := H
           replace H : ((capstanlaw11_spoil.f kj55 t287).bind fun t303 => ((capstanlaw11_spoil.f kj55 t291).bind fun t304 => (capstanlaw11_CallsTells.l0 kj55 a1 x6_1 t266 x8_1 t270 x10_1 t274 x12_1 (wrap64 (x14_1 + 1)) l0_0 l0_1 l0_2 a0_3 t252 t255 t258 t261))) = some r := H
           have A80 := Aside0.mk A800
           clear A800
           replace H := Option.bind_eq_some_iff.mp H
           obtain ⟨t303, A810, H⟩ := H
           replace H : ((capstanlaw11_spoil.f kj55 t291).bind fun t304 => (capstanlaw11_CallsTells.l0 kj55 a1 x6_1 t266 x8_1 t270 x10_1 t274 x12_1 (wrap64 (x14_1 + 1)) l0_0 l0_1 l0_2 a0_3 t252 t255 t258 t261)) = some r := H
           have A81 := Aside0.mk A810
           clear A810
           replace H := Option.bind_eq_some_iff.mp H
           obtain ⟨t304, A820, H⟩ := H
           replace H : (capstanlaw11_CallsTells.l0 kj55 a1 x6_1 t266 x8_1 t270 x10_1 t274 x12_1 (wrap64 (x14_1 + 1)) l0_0 l0_1 l0_2 a0_3 t252 t255 t258 t261) = some r := H
           have A82 := Aside0.mk A820
           clear A820
           have H' := Aside0.mk H
           clear H
           obtain ⟨Ao83, co83, eo83⟩ := Kd.R_slice HO_15.out
           subst eo83
           go_wp2_with (first | ((with_reducible refine gate_callee (f := 35) rfl ?_); refine goesL_ (some 128) rfl rfl Try.func35 (by kernel_rfl) rfl #[.slice Ao83 t279.length co83] rfl (au6) ?_; (with_reducible refine (capstanlaw11_spoil.calls kj55 (fun k_ => some k_ = (.slice Ao83 t279.length co83 : Value).ownBlock) (.slice Ao83 t279.length co83) t279 t301 w _ ?side1 ?side2 A79.out).mono ?_); (case side1 => exact au2); (case side2 => exact Kd.R_tight rfl HO_15.out); rintro e w84 ⟨rfl, hy0, hb, hkp⟩; refine ⟨_, rfl, ?_⟩; have n0_ := Aside0.mk (Kd.R_mono (ok' := fun k_ => some k_ ≠ (v268 : Value).ownBlock ∧ some k_ ≠ (v272 : Value).ownBlock ∧ some k_ ≠ (v276 : Value).ownBlock ∧ some k_ ≠ (.slice Ao83 t279.length co83 : Value).ownBlock ∧ some k_ ≠ (v284 : Value).ownBlock ∧ some k_ ≠ (v288 : Value).ownBlock ∧ some k_ ≠ (v292 : Value).ownBlock) (Kd.R_keptB (HO_6.out) hkp (fun k_ hk_ hs_ => (hk_.2.2.2.1) hs_)) (fun k_ hk_ => ⟨hk_.1.1, hk_.1.2.1, hk_.1.2.2.1, hk_.1.2.2.2.1, hk_.1.2.2.2.2.1, hk_.1.2.2.2.2.2.1, hk_.1.2.2.2.2.2.2⟩)); have n1_ := Aside0.mk (Kd.R_mono (ok' := fun k_ => some k_ ≠ (v264 : Value).ownBlock ∧ some k_ ≠ (v272 : Value).ownBlock ∧ some k_ ≠ (v276 : Value).ownBlock ∧ some k_ ≠ (.slice Ao83 t279.length co83 : Value).ownBlock ∧ some k_ ≠ (v284 : Value).ownBlock ∧ some k_ ≠ (v288 : Value).ownBlock ∧ some k_ ≠ (v292 : Value).ownBlock) (Kd.R_keptB (HO_8.out) hkp (fun k_ hk_ hs_ => (hk_.2.2.2.1) hs_)) (fun k_ hk_ => ⟨hk_.1.1, hk_.1.2.1, hk_.1.2.2.1, hk_.1.2.2.2.1, hk_.1.2.2.2.2.1, hk_.1.2.2.2.2.2.1, hk_.1.2.2.2.2.2.2⟩)); have n2_ := Aside0.mk (Kd.R_mono (ok' := fun k_ => some k_ ≠ (v264 : Value).ownBlock ∧ some k_ ≠ (v268 : Value).ownBlock ∧ some k_ ≠ (v276 : Value).ownBlock ∧ some k_ ≠ (.slice Ao83 t279.length co83 : Value).ownBlock ∧ some k_ ≠ (v284 : Value).ownBlock ∧ some k_ ≠ (v288 : Value).ownBlock ∧ some k_ ≠ (v292 : Value).ownBlock) (Kd.R_keptB (HO_10.out) hkp (fun k_ hk_ hs_ => (hk_.2.2.2.1) hs_)) (fun k_ hk_ => ⟨hk_.1.1, hk_.1.2.1, hk_.1.2.2.1, hk_.1.2.2.2.1, hk_.1.2.2.2.2.1, hk_.1.2.2.2.2.2.1, hk_.1.2.2.2.2.2.2⟩)); have n3_ := Aside0.mk (Kd.R_mono (ok' := fun k_ => some k_ ≠ (v264 : Value).ownBlock ∧ some k_ ≠ (v268 : Value).ownBlock ∧ some k_ ≠ (v272 : Value).ownBlock ∧ some k_ ≠ (.slice Ao83 t279.length co83 : Value).ownBlock ∧ some k_ ≠ (v284 : Value).ownBlock ∧ some k_ ≠ (v288 : Value).ownBlock ∧ some k_ ≠ (v292 : Value).ownBlock) (Kd.R_keptB (HO_12.out) hkp (fun k_ hk_ hs_ => (hk_.2.2.2.1) hs_)) (fun k_ hk_ => ⟨hk_.1.1, hk_.1.2.1, hk_.1.2.2.1, hk_.1.2.2.2.1, hk_.1.2.2.2.2.1, hk_.1.2.2.2.2.2.1, hk_.1.2.2.2.2.2.2⟩)); have n4_ := Aside0.mk (Kd.R_reok rfl hy0 (fun k_ e_ => HO_15.out.1 k_ e_)); have n5_ := Aside0.mk (Kd.R_mono (ok' := fun k_ => some k_ ≠ (v264 : Value).ownBlock ∧ some k_ ≠ (v268 : Value).ownBlock ∧ some k_ ≠ (v272 : Value).ownBlock ∧ some k_ ≠ (v276 : Value).ownBlock ∧ some k_ ≠ (.slice Ao83 t279.length co83 : Value).ownBlock ∧ some k_ ≠ (v288 : Value).ownBlock ∧ some k_ ≠ (v292 : Value).ownBlock) (Kd.R_keptB (HO_17.out) hkp (fun k_ hk_ hs_ => (hk_.2.2.2.2.1) hs_)) (fun k_ hk_ => ⟨hk_.1.1, hk_.1.2.1, hk_.1.2.2.1, hk_.1.2.2.2.1, hk_.1.2.2.2.2.1, hk_.1.2.2.2.2.2.1, hk_.1.2.2.2.2.2.2⟩)); have n6_ := Aside0.mk (Kd.R_mono (ok' := fun k_ => some k_ ≠ (v264 : Value).ownBlock ∧ some k_ ≠ (v268 : Value).ownBlock ∧ some k_ ≠ (v272 : Value).ownBlock ∧ some k_ ≠ (v276 : Value).ownBlock ∧ some k_ ≠ (.slice Ao83 t279.length co83 : Value).ownBlock ∧ some k_ ≠ (v284 : Value).ownBlock ∧ some k_ ≠ (v292 : Value).ownBlock) (Kd.R_keptB (HO_19.out) hkp (fun k_ hk_ hs_ => (hk_.2.2.2.2.1) hs_)) (fun k_ hk_ => ⟨hk_.1.1, hk_.1.2.1, hk_.1.2.2.1, hk_.1.2.2.2.1, hk_.1.2.2.2.2.1, hk_.1.2.2.2.2.2.1, hk_.1.2.2.2.2.2.2⟩)); have n7_ := Aside0.mk (Kd.R_mono (ok' := fun k_ => some k_ ≠ (v264 : Value).ownBlock ∧ some k_ ≠ (v268 : Value).ownBlock ∧ some k_ ≠ (v272 : Value).ownBlock ∧ some k_ ≠ (v276 : Value).ownBlock ∧ some k_ ≠ (.slice Ao83 t279.length co83 : Value).ownBlock ∧ some k_ ≠ (v284 : Value).ownBlock ∧ some k_ ≠ (v288 : Value).ownBlock) (Kd.R_keptB (HO_21.out) hkp (fun k_ hk_ hs_ => (hk_.2.2.2.2.1) hs_)) (fun k_ hk_ => ⟨hk_.1.1, hk_.1.2.1, hk_.1.2.2.1, hk_.1.2.2.2.1, hk_.1.2.2.2.2.1, hk_.1.2.2.2.2.2.1, hk_.1.2.2.2.2.2.2⟩)); have n8_ := Aside0.mk (Kd.R_mono (ok' := fun k_ => some k_ ≠ (.slice Ao22 t255.length co22 : Value).ownBlock) (Kd.R_keptB ((Kd.R_apart' HO_263000.out (Kd.R_typed HO_15.out) (by decide))) hkp (fun k_ hk_ hs_ => (hk_.2) hs_)) (fun k_ hk_ => hk_.1.1)); have n9_ := Aside0.mk (Kd.R_mono (ok' := fun k_ => some k_ ≠ (.slice Ao19 t252.length co19 : Value).ownBlock) (Kd.R_keptB ((Kd.R_apart' HO_263001.out (Kd.R_typed HO_15.out) (by decide))) hkp (fun k_ hk_ hs_ => (hk_.2) hs_)) (fun k_ hk_ => hk_.1.1)); have n10_ := Aside0.mk (Kd.S_mono (ok' := fun k_ => True) (Kd.S_keptB ((Kd.S_apart' HO_263002.out (Kd.R_typed HO_15.out) (by decide))) hkp (fun k_ hk_ hs_ => (hk_.2) hs_)) (fun k_ hk_ => trivial)); have n11_ := Aside0.mk (blk_kept (au28) hkp (fun hs_ => (fun e_ => (Kd.R_ne HO_15.out BK250.out (by decide)) e_) hs_)); have n12_ := Aside0.mk (blk_kept (au36) hkp (fun hs_ => (fun e_ => (Kd.R_ne HO_15.out BK262.out (by decide)) e_) hs_)); have n13_ := Aside0.mk (hb); clear HO_6; clear HO_8; clear HO_10; clear HO_12; clear HO_15; clear HO_17; clear HO_19; clear HO_21; clear HO_263000; clear HO_263001; clear HO_263002; clear BK250; clear BK262; clear HB; have HO_6 := n0_; have HO_8 := n1_; have HO_10 := n2_; have HO_12 := n3_; have HO_15 := n4_; have HO_17 := n5_; have HO_19 := n6_; have HO_21 := n7_; have HO_263000 := n8_; have HO_263001 := n9_; have HO_263002 := n10_; have BK250 := n11_; have BK262 := n12_; have HB := n13_; clear n0_ n1_ n2_ n3_ n4_ n5_ n6_ n7_ n8_ n9_ n10_ n11_ n12_ n13_; (try clear hb); (try clear hkp); (try clear hy0); obtain ⟨Ao85, co85, eo85⟩ := Kd.R_slice HO_17.out; subst eo85) | ((with_reducible refine gate_callee (f := 35) rfl ?_); refine goesL_ (some 130) rfl rfl Try.func35 (by kernel_rfl) rfl #[.slice Ao85 t283.length co85] rfl (au6) ?_; (with_reducible refine (capstanlaw11_spoil.calls kj55 (fun k_ => some k_ = (.slice Ao85 t283.length co85 : Value).ownBlock) (.slice Ao85 t283.length co85) t283 t302 w _ ?side1 ?side2 A80.out).mono ?_); (case side1 => exact au2); (case side2 => exact Kd.R_tight rfl HO_17.out); rintro e w86 ⟨rfl, hy0, hb, hkp⟩; refine ⟨_, rfl, ?_⟩; have n0_ := Aside0.mk (Kd.R_mono (ok' := fun k_ => some k_ ≠ (v268 : Value).ownBlock ∧ some k_ ≠ (v272 : Value).ownBlock ∧ some k_ ≠ (v276 : Value).ownBlock ∧ some k_ ≠ (.slice Ao83 t279.length co83 : Value).ownBlock ∧ some k_ ≠ (.slice Ao85 t283.length co85 : Value).ownBlock ∧ some k_ ≠ (v288 : Value).ownBlock ∧ some k_ ≠ (v292 : Value).ownBlock) (Kd.R_keptB (HO_6.out) hkp (fun k_ hk_ hs_ => (hk_.2.2.2.2.1) hs_)) (fun k_ hk_ => ⟨hk_.1.1, hk_.1.2.1, hk_.1.2.2.1, hk_.1.2.2.2.1, hk_.1.2.2.2.2.1, hk_.1.2.2.2.2.2.1, hk_.1.2.2.2.2.2.2⟩)); have n1_ := Aside0.mk (Kd.R_mono (ok' := fun k_ => some k_ ≠ (v264 : Value).ownBlock ∧ some k_ ≠ (v272 : Value).ownBlock ∧ some k_ ≠ (v276 : Value).ownBlock ∧ some k_ ≠ (.slice Ao83 t279.length co83 : Value).ownBlock ∧ some k_ ≠ (.slice Ao85 t283.length co85 : Value).ownBlock ∧ some k_ ≠ (v288 : Value).ownBlock ∧ some k_ ≠ (v292 : Value).ownBlock) (Kd.R_keptB (HO_8.out) hkp (fun k_ hk_ hs_ => (hk_.2.2.2.2.1) hs_)) (fun k_ hk_ => ⟨hk_.1.1, hk_.1.2.1, hk_.1.2.2.1, hk_.1.2.2.2.1, hk_.1.2.2.2.2.1, hk_.1.2.2.2.2.2.1, hk_.1.2.2.2.2.2.2⟩)); have n2_ := Aside0.mk (Kd.R_mono (ok' := fun k_ => some k_ ≠ (v264 : Value).ownBlock ∧ some k_ ≠ (v268 : Value).ownBlock ∧ some k_ ≠ (v276 : Value).ownBlock ∧ some k_ ≠ (.slice Ao83 t279.length co83 : Value).ownBlock ∧ some k_ ≠ (.slice Ao85 t283.length co85 : Value).ownBlock ∧ some k_ ≠ (v288 : Value).ownBlock ∧ some k_ ≠ (v292 : Value).ownBlock) (Kd.R_keptB (HO_10.out) hkp (fun k_ hk_ hs_ => (hk_.2.2.2.2.1) hs_)) (fun k_ hk_ => ⟨hk_.1.1, hk_.1.2.1, hk_.1.2.2.1, hk_.1.2.2.2.1, hk_.1.2.2.2.2.1, hk_.1.2.2.2.2.2.1, hk_.1.2.2.2.2.2.2⟩)); have n3_ := Aside0.mk (Kd.R_mono (ok' := fun k_ => some k_ ≠ (v264 : Value).ownBlock ∧ some k_ ≠ (v268 : Value).ownBlock ∧ some k_ ≠ (v272 : Value).ownBlock ∧ some k_ ≠ (.slice Ao83 t279.length co83 : Value).ownBlock ∧ some k_ ≠ (.slice Ao85 t283.length co85 : Value).ownBlock ∧ some k_ ≠ (v288 : Value).ownBlock ∧ some k_ ≠ (v292 : Value).ownBlock) (Kd.R_keptB (HO_12.out) hkp (fun k_ hk_ hs_ => (hk_.2.2.2.2.1) hs_)) (fun k_ hk_ => ⟨hk_.1.1, hk_.1.2.1, hk_.1.2.2.1, hk_.1.2.2.2.1, hk_.1.2.2.2.2.1, hk_.1.2.2.2.2.2.1, hk_.1.2.2.2.2.2.2⟩)); have n4_ := Aside0.mk (Kd.R_mono (ok' := fun k_ => some k_ ≠ (v264 : Value).ownBlock ∧ some k_ ≠ (v268 : Value).ownBlock ∧ some k_ ≠ (v272 : Value).ownBlock ∧ some k_ ≠ (v276 : Value).ownBlock ∧ some k_ ≠ (.slice Ao85 t283.length co85 : Value).ownBlock ∧ some k_ ≠ (v288 : Value).ownBlock ∧ some k_ ≠ (v292 : Value).ownBlock) (Kd.R_keptB (HO_15.out) hkp (fun k_ hk_ hs_ => (hk_.2.2.2.2.1) hs_)) (fun k_ hk_ => ⟨hk_.1.1, hk_.1.2.1, hk_.1.2.2.1, hk_.1.2.2.2.1, hk_.1.2.2.2.2.1, hk_.1.2.2.2.2.2.1, hk_.1.2.2.2.2.2.2⟩)); have n5_ := Aside0.mk (Kd.R_reok rfl hy0 (fun k_ e_ => HO_17.out.1 k_ e_)); have n6_ := Aside0.mk (Kd.R_mono (ok' := fun k_ => some k_ ≠ (v264 : Value).ownBlock ∧ some k_ ≠ (v268 : Value).ownBlock ∧ some k_ ≠ (v272 : Value).ownBlock ∧ some k_ ≠ (v276 : Value).ownBlock ∧ some k_ ≠ (.slice Ao83 t279.length co83 : Value).ownBlock ∧ some k_ ≠ (.slice Ao85 t283.length co85 : Value).ownBlock ∧ some k_ ≠ (v292 : Value).ownBlock) (Kd.R_keptB (HO_19.out) hkp (fun k_ hk_ hs_ => (hk_.2.2.2.2.2.1) hs_)) (fun k_ hk_ => ⟨hk_.1.1, hk_.1.2.1, hk_.1.2.2.1, hk_.1.2.2.2.1, hk_.1.2.2.2.2.1, hk_.1.2.2.2.2.2.1, hk_.1.2.2.2.2.2.2⟩)); have n7_ := Aside0.mk (Kd.R_mono (ok' := fun k_ => some k_ ≠ (v264 : Value).ownBlock ∧ some k_ ≠ (v268 : Value).ownBlock ∧ some k_ ≠ (v272 : Value).ownBlock ∧ some k_ ≠ (v276 : Value).ownBlock ∧ some k_ ≠ (.slice Ao83 t279.length co83 : Value).ownBlock ∧ some k_ ≠ (.slice Ao85 t283.length co85 : Value).ownBlock ∧ some k_ ≠ (v288 : Value).ownBlock) (Kd.R_keptB (HO_21.out) hkp (fun k_ hk_ hs_ => (hk_.2.2.2.2.2.1) hs_)) (fun k_ hk_ => ⟨hk_.1.1, hk_.1.2.1, hk_.1.2.2.1, hk_.1.2.2.2.1, hk_.1.2.2.2.2.1, hk_.1.2.2.2.2.2.1, hk_.1.2.2.2.2.2.2⟩)); have n8_ := Aside0.mk (Kd.R_mono (ok' := fun k_ => some k_ ≠ (.slice Ao22 t255.length co22 : Value).ownBlock) (Kd.R_keptB ((Kd.R_apart' HO_263000.out (Kd.R_typed HO_17.out) (by decide))) hkp (fun k_ hk_ hs_ => (hk_.2) hs_)) (fun k_ hk_ => hk_.1.1)); have n9_ := Aside0.mk (Kd.R_mono (ok' := fun k_ => some k_ ≠ (.slice Ao19 t252.length co19 : Value).ownBlock) (Kd.R_keptB ((Kd.R_apart' HO_263001.out (Kd.R_typed HO_17.out) (by decide))) hkp (fun k_ hk_ hs_ => (hk_.2) hs_)) (fun k_ hk_ => hk_.1.1)); have n10_ := Aside0.mk (Kd.S_mono (ok' := fun k_ => True) (Kd.S_keptB ((Kd.S_apart' HO_263002.out (Kd.R_typed HO_17.out) (by decide))) hkp (fun k_ hk_ hs_ => (hk_.2) hs_)) (fun k_ hk_ => trivial)); have n11_ := Aside0.mk (blk_kept (au28) hkp (fun hs_ => (fun e_ => (Kd.R_ne HO_17.out BK250.out (by decide)) e_) hs_)); have n12_ := Aside0.mk (blk_kept (au36) hkp (fun hs_ => (fun e_ => (Kd.R_ne HO_17.out BK262.out (by decide)) e_) hs_)); have n13_ := Aside0.mk (hb); clear HO_6; clear HO_8; clear HO_10; clear HO_12; clear HO_15; clear HO_17; clear HO_19; clear HO_21; clear HO_263000; clear HO_263001; clear HO_263002; clear BK250; clear BK262; clear HB; have HO_6 := n0_; have HO_8 := n1_; have HO_10 := n2_; have HO_12 := n3_; have HO_15 := n4_; have HO_17 := n5_; have HO_19 := n6_; have HO_21 := n7_; have HO_263000 := n8_; have HO_263001 := n9_; have HO_263002 := n10_; have BK250 := n11_; have BK262 := n12_; have HB := n13_; clear n0_ n1_ n2_ n3_ n4_ n5_ n6_ n7_ n8_ n9_ n10_ n11_ n12_ n13_; (try clear hb); (try clear hkp); (try clear hy0); obtain ⟨Ao87, co87, eo87⟩ := Kd.R_slice HO_19.out; subst eo87) | ((with_reducible refine gate_callee (f := 35) rfl ?_); refine goesL_ (some 132) rfl rfl Try.func35 (by kernel_rfl) rfl #[.slice Ao87 t287.length co87] rfl (au6) ?_; (with_reducible refine (capstanlaw11_spoil.calls kj55 (fun k_ => some k_ = (.slice Ao87 t287.length co87 : Value).ownBlock) (.slice Ao87 t287.length co87) t287 t303 w _ ?side1 ?side2 A81.out).mono ?_); (case side1 => exact au2); (case side2 => exact Kd.R_tight rfl HO_19.out); rintro e w88 ⟨rfl, hy0, hb, hkp⟩; refine ⟨_, rfl, ?_⟩; have n0_ := Aside0.mk (Kd.R_mono (ok' := fun k_ => some k_ ≠ (v268 : Value).ownBlock ∧ some k_ ≠ (v272 : Value).ownBlock ∧ some k_ ≠ (v276 : Value).ownBlock ∧ some k_ ≠ (.slice Ao83 t279.length co83 : Value).ownBlock ∧ some k_ ≠ (.slice Ao85 t283.length co85 : Value).ownBlock ∧ some k_ ≠ (.slice Ao87 t287.length co87 : Value).ownBlock ∧ some k_ ≠ (v292 : Value).ownBlock) (Kd.R_keptB (HO_6.out) hkp (fun k_ hk_ hs_ => (hk_.2.2.2.2.2.1) hs_)) (fun k_ hk_ => ⟨hk_.1.1, hk_.1.2.1, hk_.1.2.2.1, hk_.1.2.2.2.1, hk_.1.2.2.2.2.1, hk_.1.2.2.2.2.2.1, hk_.1.2.2.2.2.2.2⟩)); have n1_ := Aside0.mk (Kd.R_mono (ok' := fun k_ => some k_ ≠ (v264 : Value).ownBlock ∧ some k_ ≠ (v272 : Value).ownBlock ∧ some k_ ≠ (v276 : Value).ownBlock ∧ some k_ ≠ (.slice Ao83 t279.length co83 : Value).ownBlock ∧ some k_ ≠ (.slice Ao85 t283.length co85 : Value).ownBlock ∧ some k_ ≠ (.slice Ao87 t287.length co87 : Value).ownBlock ∧ some k_ ≠ (v292 : Value).ownBlock) (Kd.R_keptB (HO_8.out) hkp (fun k_ hk_ hs_ => (hk_.2.2.2.2.2.1) hs_)) (fun k_ hk_ => ⟨hk_.1.1, hk_.1.2.1, hk_.1.2.2.1, hk_.1.2.2.2.1, hk_.1.2.2.2.2.1, hk_.1.2.2.2.2.2.1, hk_.1.2.2.2.2.2.2⟩)); have n2_ := Aside0.mk (Kd.R_mono (ok' := fun k_ => some k_ ≠ (v264 : Value).ownBlock ∧ some k_ ≠ (v268 : Value).ownBlock ∧ some k_ ≠ (v276 : Value).ownBlock ∧ some k_ ≠ (.slice Ao83 t279.length co83 : Value).ownBlock ∧ some k_ ≠ (.slice Ao85 t283.length co85 : Value).ownBlock ∧ some k_ ≠ (.slice Ao87 t287.length co87 : Value).ownBlock ∧ some k_ ≠ (v292 : Value).ownBlock) (Kd.R_keptB (HO_10.out) hkp (fun k_ hk_ hs_ => (hk_.2.2.2.2.2.1) hs_)) (fun k_ hk_ => ⟨hk_.1.1, hk_.1.2.1, hk_.1.2.2.1, hk_.1.2.2.2.1, hk_.1.2.2.2.2.1, hk_.1.2.2.2.2.2.1, hk_.1.2.2.2.2.2.2⟩)); have n3_ := Aside0.mk (Kd.R_mono (ok' := fun k_ => some k_ ≠ (v264 : Value).ownBlock ∧ some k_ ≠ (v268 : Value).ownBlock ∧ some k_ ≠ (v272 : Value).ownBlock ∧ some k_ ≠ (.slice Ao83 t279.length co83 : Value).ownBlock ∧ some k_ ≠ (.slice Ao85 t283.length co85 : Value).ownBlock ∧ some k_ ≠ (.slice Ao87 t287.length co87 : Value).ownBlock ∧ some k_ ≠ (v292 : Value).ownBlock) (Kd.R_keptB (HO_12.out) hkp (fun k_ hk_ hs_ => (hk_.2.2.2.2.2.1) hs_)) (fun k_ hk_ => ⟨hk_.1.1, hk_.1.2.1, hk_.1.2.2.1, hk_.1.2.2.2.1, hk_.1.2.2.2.2.1, hk_.1.2.2.2.2.2.1, hk_.1.2.2.2.2.2.2⟩)); have n4_ := Aside0.mk (Kd.R_mono (ok' := fun k_ => some k_ ≠ (v264 : Value).ownBlock ∧ some k_ ≠ (v268 : Value).ownBlock ∧ some k_ ≠ (v272 : Value).ownBlock ∧ some k_ ≠ (v276 : Value).ownBlock ∧ some k_ ≠ (.slice Ao85 t283.length co85 : Value).ownBlock ∧ some k_ ≠ (.slice Ao87 t287.length co87 : Value).ownBlock ∧ some k_ ≠ (v292 : Value).ownBlock) (Kd.R_keptB (HO_15.out) hkp (fun k_ hk_ hs_ => (hk_.2.2.2.2.2.1) hs_)) (fun k_ hk_ => ⟨hk_.1.1, hk_.1.2.1, hk_.1.2.2.1, hk_.1.2.2.2.1, hk_.1.2.2.2.2.1, hk_.1.2.2.2.2.2.1, hk_.1.2.2.2.2.2.2⟩)); have n5_ := Aside0.mk (Kd.R_mono (ok' := fun k_ => some k_ ≠ (v264 : Value).ownBlock ∧ some k_ ≠ (v268 : Value).ownBlock ∧ some k_ ≠ (v272 : Value).ownBlock ∧ some k_ ≠ (v276 : Value).ownBlock ∧ some k_ ≠ (.slice Ao83 t279.length co83 : Value).ownBlock ∧ some k_ ≠ (.slice Ao87 t287.length co87 : Value).ownBlock ∧ some k_ ≠ (v292 : Value).ownBlock) (Kd.R_keptB (HO_17.out) hkp (fun k_ hk_ hs_ => (hk_.2.2.2.2.2.1) hs_)) (fun k_ hk_ => ⟨hk_.1.1, hk_.1.2.1, hk_.1.2.2.1, hk_.1.2.2.2.1, hk_.1.2.2.2.2.1, hk_.1.2.2.2.2.2.1, hk_.1.2.2.2.2.2.2⟩)); have n6_ := Aside0.mk (Kd.R_reok rfl hy0 (fun k_ e_ => HO_19.out.1 k_ e_)); have n7_ := Aside0.mk (Kd.R_mono (ok' := fun k_ => some k_ ≠ (v264 : Value).ownBlock ∧ some k_ ≠ (v268 : Value).ownBlock ∧ some k_ ≠ (v272 : Value).ownBlock ∧ some k_ ≠ (v276 : Value).ownBlock ∧ some k_ ≠ (.slice Ao83 t279.length co83 : Value).ownBlock ∧ some k_ ≠ (.slice Ao85 t283.length co85 : Value).ownBlock ∧ some k_ ≠ (.slice Ao87 t287.length co87 : Value).ownBlock) (Kd.R_keptB (HO_21.out) hkp (fun k_ hk_ hs_ => (hk_.2.2.2.2.2.2) hs_)) (fun k_ hk_ => ⟨hk_.1.1, hk_.1.2.1, hk_.1.2.2.1, hk_.1.2.2.2.1, hk_.1.2.2.2.2.1, hk_.1.2.2.2.2.2.1, hk_.1.2.2.2.2.2.2⟩)); have n8_ := Aside0.mk (Kd.R_mono (ok' := fun k_ => some k_ ≠ (.slice Ao22 t255.length co22 : Value).ownBlock) (Kd.R_keptB ((Kd.R_apart' HO_263000.out (Kd.R_typed HO_19.out) (by decide))) hkp (fun k_ hk_ hs_ => (hk_.2) hs_)) (fun k_ hk_ => hk_.1.1)); have n9_ := Aside0.mk (Kd.R_mono (ok' := fun k_ => some k_ ≠ (.slice Ao19 t252.length co19 : Value).ownBlock) (Kd.R_keptB ((Kd.R_apart' HO_263001.out (Kd.R_typed HO_19.out) (by decide))) hkp (fun k_ hk_ hs_ => (hk_.2) hs_)) (fun k_ hk_ => hk_.1.1)); have n10_ := Aside0.mk (Kd.S_mono (ok' := fun k_ => True) (Kd.S_keptB ((Kd.S_apart' HO_263002.out (Kd.R_typed HO_19.out) (by decide))) hkp (fun k_ hk_ hs_ => (hk_.2) hs_)) (fun k_ hk_ => trivial)); have n11_ := Aside0.mk (blk_kept (au28) hkp (fun hs_ => (fun e_ => (Kd.R_ne HO_19.out BK250.out (by decide)) e_) hs_)); have n12_ := Aside0.mk (blk_kept (au36) hkp (fun hs_ => (fun e_ => (Kd.R_ne HO_19.out BK262.out (by decide)) e_) hs_)); have n13_ := Aside0.mk (hb); clear HO_6; clear HO_8; clear HO_10; clear HO_12; clear HO_15; clear HO_17; clear HO_19; clear HO_21; clear HO_263000; clear HO_263001; clear HO_263002; clear BK250; clear BK262; clear HB; have HO_6 := n0_; have HO_8 := n1_; have HO_10 := n2_; have HO_12 := n3_; have HO_15 := n4_; have HO_17 := n5_; have HO_19 := n6_; have HO_21 := n7_; have HO_263000 := n8_; have HO_263001 := n9_; have HO_263002 := n10_; have BK250 := n11_; have BK262 := n12_; have HB := n13_; clear n0_ n1_ n2_ n3_ n4_ n5_ n6_ n7_ n8_ n9_ n10_ n11_ n12_ n13_; (try clear hb); (try clear hkp); (try clear hy0); obtain ⟨Ao89, co89, eo89⟩ := Kd.R_slice HO_21.out; subst eo89) | ((with_reducible refine gate_callee (f := 35) rfl ?_); refine goesL_ (some 134) rfl rfl Try.func35 (by kernel_rfl) rfl #[.slice Ao89 t291.length co89] rfl (au6) ?_; (with_reducible refine (capstanlaw11_spoil.calls kj55 (fun k_ => some k_ = (.slice Ao89 t291.length co89 : Value).ownBlock) (.slice Ao89 t291.length co89) t291 t304 w _ ?side1 ?side2 A82.out).mono ?_); (case side1 => exact au2); (case side2 => exact Kd.R_tight rfl HO_21.out); rintro e w90 ⟨rfl, hy0, hb, hkp⟩; refine ⟨_, rfl, ?_⟩; have n0_ := Aside0.mk (Kd.R_mono (ok' := fun k_ => some k_ ≠ (v268 : Value).ownBlock ∧ some k_ ≠ (v272 : Value).ownBlock ∧ some k_ ≠ (v276 : Value).ownBlock ∧ some k_ ≠ (.slice Ao83 t279.length co83 : Value).ownBlock ∧ some k_ ≠ (.slice Ao85 t283.length co85 : Value).ownBlock ∧ some k_ ≠ (.slice Ao87 t287.length co87 : Value).ownBlock ∧ some k_ ≠ (.slice Ao89 t291.length co89 : Value).ownBlock) (Kd.R_keptB (HO_6.out) hkp (fun k_ hk_ hs_ => (hk_.2.2.2.2.2.2) hs_)) (fun k_ hk_ => ⟨hk_.1.1, hk_.1.2.1, hk_.1.2.2.1, hk_.1.2.2.2.1, hk_.1.2.2.2.2.1, hk_.1.2.2.2.2.2.1, hk_.1.2.2.2.2.2.2⟩)); have n1_ := Aside0.mk (Kd.R_mono (ok' := fun k_ => some k_ ≠ (v264 : Value).ownBlock ∧ some k_ ≠ (v272 : Value).ownBlock ∧ some k_ ≠ (v276 : Value).ownBlock ∧ some k_ ≠ (.slice Ao83 t279.length co83 : Value).ownBlock ∧ some k_ ≠ (.slice Ao85 t283.length co85 : Value).ownBlock ∧ some k_ ≠ (.slice Ao87 t287.length co87 : Value).ownBlock ∧ some k_ ≠ (.slice Ao89 t291.length co89 : Value).ownBlock) (Kd.R_keptB (HO_8.out) hkp (fun k_ hk_ hs_ => (hk_.2.2.2.2.2.2) hs_)) (fun k_ hk_ => ⟨hk_.1.1, hk_.1.2.1, hk_.1.2.2.1, hk_.1.2.2.2.1, hk_.1.2.2.2.2.1, hk_.1.2.2.2.2.2.1, hk_.1.2.2.2.2.2.2⟩)); have n2_ := Aside0.mk (Kd.R_mono (ok' := fun k_ => some k_ ≠ (v264 : Value).ownBlock ∧ some k_ ≠ (v268 : Value).ownBlock ∧ some k_ ≠ (v276 : Value).ownBlock ∧ some k_ ≠ (.slice Ao83 t279.length co83 : Value).ownBlock ∧ some k_ ≠ (.slice Ao85 t283.length co85 : Value).ownBlock ∧ some k_ ≠ (.slice Ao87 t287.length co87 : Value).ownBlock ∧ some k_ ≠ (.slice Ao89 t291.length co89 : Value).ownBlock) (Kd.R_keptB (HO_10.out) hkp (fun k_ hk_ hs_ => (hk_.2.2.2.2.2.2) hs_)) (fun k_ hk_ => ⟨hk_.1.1, hk_.1.2.1, hk_.1.2.2.1, hk_.1.2.2.2.1, hk_.1.2.2.2.2.1, hk_.1.2.2.2.2.2.1, hk_.1.2.2.2.2.2.2⟩)); have n3_ := Aside0.mk (Kd.R_mono (ok' := fun k_ => some k_ ≠ (v264 : Value).ownBlock ∧ some k_ ≠ (v268 : Value).ownBlock ∧ some k_ ≠ (v272 : Value).ownBlock ∧ some k_ ≠ (.slice Ao83 t279.length co83 : Value).ownBlock ∧ some k_ ≠ (.slice Ao85 t283.length co85 : Value).ownBlock ∧ some k_ ≠ (.slice Ao87 t287.length co87 : Value).ownBlock ∧ some k_ ≠ (.slice Ao89 t291.length co89 : Value).ownBlock) (Kd.R_keptB (HO_12.out) hkp (fun k_ hk_ hs_ => (hk_.2.2.2.2.2.2) hs_)) (fun k_ hk_ => ⟨hk_.1.1, hk_.1.2.1, hk_.1.2.2.1, hk_.1.2.2.2.1, hk_.1.2.2.2.2.1, hk_.1.2.2.2.2.2.1, hk_.1.2.2.2.2.2.2⟩)); have n4_ := Aside0.mk (Kd.R_mono (ok' := fun k_ => some k_ ≠ (v264 : Value).ownBlock ∧ some k_ ≠ (v268 : Value).ownBlock ∧ some k_ ≠ (v272 : Value).ownBlock ∧ some k_ ≠ (v276 : Value).ownBlock ∧ some k_ ≠ (.slice Ao85 t283.length co85 : Value).ownBlock ∧ some k_ ≠ (.slice Ao87 t287.length co87 : Value).ownBlock ∧ some k_ ≠ (.slice Ao89 t291.length co89 : Value).ownBlock) (Kd.R_keptB (HO_15.out) hkp (fun k_ hk_ hs_ => (hk_.2.2.2.2.2.2) hs_)) (fun k_ hk_ => ⟨hk_.1.1, hk_.1.2.1, hk_.1.2.2.1, hk_.1.2.2.2.1, hk_.1.2.2.2.2.1, hk_.1.2.2.2.2.2.1, hk_.1.2.2.2.2.2.2⟩)); have n5_ := Aside0.mk (Kd.R_mono (ok' := fun k_ => some k_ ≠ (v264 : Value).ownBlock ∧ some k_ ≠ (v268 : Value).ownBlock ∧ some k_ ≠ (v272 : Value).ownBlock ∧ some k_ ≠ (v276 : Value).ownBlock ∧ some k_ ≠ (.slice Ao83 t279.length co83 : Value).ownBlock ∧ some k_ ≠ (.slice Ao87 t287.length co87 : Value).ownBlock ∧ some k_ ≠ (.slice Ao89 t291.length co89 : Value).ownBlock) (Kd.R_keptB (HO_17.out) hkp (fun k_ hk_ hs_ => (hk_.2.2.2.2.2.2) hs_)) (fun k_ hk_ => ⟨hk_.1.1, hk_.1.2.1, hk_.1.2.2.1, hk_.1.2.2.2.1, hk_.1.2.2.2.2.1, hk_.1.2.2.2.2.2.1, hk_.1.2.2.2.2.2.2⟩)); have n6_ := Aside0.mk (Kd.R_mono (ok' := fun k_ => some k_ ≠ (v264 : Value).ownBlock ∧ some k_ ≠ (v268 : Value).ownBlock ∧ some k_ ≠ (v272 : Value).ownBlock ∧ some k_ ≠ (v276 : Value).ownBlock ∧ some k_ ≠ (.slice Ao83 t279.length co83 : Value).ownBlock ∧ some k_ ≠ (.slice Ao85 t283.length co85 : Value).ownBlock ∧ some k_ ≠ (.slice Ao89 t291.length co89 : Value).ownBlock) (Kd.R_keptB (HO_19.out) hkp (fun k_ hk_ hs_ => (hk_.2.2.2.2.2.2) hs_)) (fun k_ hk_ => ⟨hk_.1.1, hk_.1.2.1, hk_.1.2.2.1, hk_.1.2.2.2.1, hk_.1.2.2.2.2.1, hk_.1.2.2.2.2.2.1, hk_.1.2.2.2.2.2.2⟩)); have n7_ := Aside0.mk (Kd.R_reok rfl hy0 (fun k_ e_ => HO_21.out.1 k_ e_)); have n8_ := Aside0.mk (Kd.R_mono (ok' := fun k_ => some k_ ≠ (.slice Ao22 t255.length co22 : Value).ownBlock) (Kd.R_keptB ((Kd.R_apart' HO_263000.out (Kd.R_typed HO_21.out) (by decide))) hkp (fun k_ hk_ hs_ => (hk_.2) hs_)) (fun k_ hk_ => hk_.1.1)); have n9_ := Aside0.mk (Kd.R_mono (ok' := fun k_ => some k_ ≠ (.slice Ao19 t252.length co19 : Value).ownBlock) (Kd.R_keptB ((Kd.R_apart' HO_263001.out (Kd.R_typed HO_21.out) (by decide))) hkp (fun k_ hk_ hs_ => (hk_.2) hs_)) (fun k_ hk_ => hk_.1.1)); have n10_ := Aside0.mk (Kd.S_mono (ok' := fun k_ => True) (Kd.S_keptB ((Kd.S_apart' HO_263002.out (Kd.R_typed HO_21.out) (by decide))) hkp (fun k_ hk_ hs_ => (hk_.2) hs_)) (fun k_ hk_ => trivial)); have n11_ := Aside0.mk (blk_kept (au28) hkp (fun hs_ => (fun e_ => (Kd.R_ne HO_21.out BK250.out (by decide)) e_) hs_)); have n12_ := Aside0.mk (blk_kept (au36) hkp (fun hs_ => (fun e_ => (Kd.R_ne HO_21.out BK262.out (by decide)) e_) hs_)); have n13_ := Aside0.mk (hb); clear HO_6; clear HO_8; clear HO_10; clear HO_12; clear HO_15; clear HO_17; clear HO_19; clear HO_21; clear HO_263000; clear HO_263001; clear HO_263002; clear BK250; clear BK262; clear HB; have HO_6 := n0_; have HO_8 := n1_; have HO_10 := n2_; have HO_12 := n3_; have HO_15 := n4_; have HO_17 := n5_; have HO_19 := n6_; have HO_21 := n7_; have HO_263000 := n8_; have HO_263001 := n9_; have HO_263002 := n10_; have BK250 := n11_; have BK262 := n12_; have HB := n13_; clear n0_ n1_ n2_ n3_ n4_ n5_ n6_ n7_ n8_ n9_ n10_ n11_ n12_ n13_; (try clear hb); (try clear hkp); (try clear hy0)))
           go_roundg kj55
           case measure => have := HK1.out; have := HJ36.out; have := HJ55.out; omega
           case rel => exact ⟨(x6_1), (x8_1), (x10_1), (x12_1), (wrap64 (x14_1 + 1)), (au18), H', ⟨by have := HK1.out; have := HJ36.out; have := HJ55.out; omega⟩, ⟨by (with_reducible repeat (first | apply Kd.R_alloc | apply Kd.R_drewN | apply Kd.R_drew)); first | exact Kd.R_mono HO_6.out (fun _ hk => ⟨hk.1, ⟨hk.2.1, hk.2.2.1⟩⟩) | exact Kd.R_mono (Kd.R_mono HO_6.out (fun _ hk => ⟨hk.1, ⟨hk.2.1, hk.2.2.1⟩⟩)) (fun _ h_ => h_.2)⟩, ⟨by (with_reducible repeat (first | apply Kd.R_alloc | apply Kd.R_drewN | apply Kd.R_drew)); first | exact Kd.R_mono HO_8.out (fun _ hk => ⟨hk.1, ⟨hk.2.1, hk.2.2.1⟩⟩) | exact Kd.R_mono (Kd.R_mono HO_8.out (fun _ hk => ⟨hk.1, ⟨hk.2.1, hk.2.2.1⟩⟩)) (fun _ h_ => h_.2)⟩, ⟨by (with_reducible repeat (first | apply Kd.R_alloc | apply Kd.R_drewN | apply Kd.R_drew)); first | exact Kd.R_mono HO_10.out (fun _ hk => ⟨hk.1, ⟨hk.2.1, hk.2.2.1⟩⟩) | exact Kd.R_mono (Kd.R_mono HO_10.out (fun _ hk => ⟨hk.1, ⟨hk.2.1, hk.2.2.1⟩⟩)) (fun _ h_ => h_.2)⟩, ⟨by (with_reducible repeat (first | apply Kd.R_alloc | apply Kd.R_drewN | apply Kd.R_drew)); first | exact Kd.R_mono HO_12.out (fun _ hk => ⟨hk.1, ⟨hk.2.1, hk.2.2.1⟩⟩) | exact Kd.R_mono (Kd.R_mono HO_12.out (fun _ hk => ⟨hk.1, ⟨hk.2.1, hk.2.2.1⟩⟩)) (fun _ h_ => h_.2)⟩, ⟨au46⟩, ⟨au47⟩, ⟨au48⟩, ⟨au28⟩, ⟨au36⟩, ⟨au2⟩⟩
    ·
     rw [if_neg c32] at H
     have c32b0 : decide (x14_1 < 2) = false := decide_eq_false c32
     clear c32
     obtain rfl := Option.some.inj H
     go_wp2
     go_ret
     exact ⟨au19, au2⟩

/-- THE ONE PURE STATEMENT of capstanlaw11_CallsTells: yours. -/
def capstanlaw11_CallsTells.Pure : Prop := ∀ (l0_0 : List (S86)) (l0_1 : List (S86)) (l0_2 : List (S52)) (a0_3 : Int) (a1 : Int), ((l0_0.length ≤ maxLen ∧ ∀ y0_ ∈ l0_0, (Lit.int .u8 y0_.f0).wf = true ∧ (Lit.int .i64 y0_.f1).wf = true ∧ (Lit.int .i64 y0_.f2).wf = true) ∧ (l0_1.length ≤ maxLen ∧ ∀ y0_ ∈ l0_1, (Lit.int .u8 y0_.f0).wf = true ∧ (Lit.int .i64 y0_.f1).wf = true ∧ (Lit.int .i64 y0_.f2).wf = true) ∧ (l0_2.length ≤ maxLen ∧ ∀ y0_ ∈ l0_2, (y0_.f0.length ≤ maxLen ∧ ∀ y1_ ∈ y0_.f0, (Lit.int .u8 y1_).wf = true) ∧ (y0_.f1.length ≤ maxLen ∧ ∀ y1_ ∈ y0_.f1, (Lit.int .u8 y1_).wf = true) ∧ (Lit.int .u8 y0_.f2).wf = true ∧ True ∧ (Lit.int .i64 y0_.f4).wf = true ∧ (Lit.int .i64 y0_.f5).wf = true ∧ (Lit.int .i64 y0_.f6).wf = true ∧ (y0_.f7.length ≤ maxLen ∧ ∀ y1_ ∈ y0_.f7, (Lit.int .u8 y1_.f0).wf = true ∧ (Lit.int .i64 y1_.f1).wf = true ∧ (Lit.int .i64 y1_.f2).wf = true)) ∧ (Lit.int .i64 a0_3).wf = true) → (Lit.int .i64 a1).wf = true → ∃ k, capstanlaw11_CallsTells.f k l0_0 l0_1 l0_2 a0_3 a1 = some true
theorem capstanlaw11_CallsTells.walk (P : capstanlaw11_CallsTells.Pure) (A0_0 : Option Addr) (c0_0 : Nat) (l0_0 : List (S86)) (A0_1 : Option Addr) (c0_1 : Nat) (l0_1 : List (S86)) (A0_2 : Option Addr) (c0_2 : Nat) (l0_2 : List (S52)) (a0_3 : Int) (a1 : Int) (w : World) (hr0_0 : Kd.C k86 w A0_0 l0_0.length l0_0) (hc0_0 : l0_0.length ≤ c0_0) (hr0_1 : Kd.C k86 w A0_1 l0_1.length l0_1) (hc0_1 : l0_1.length ≤ c0_1) (hr0_2 : Kd.C k52 w A0_2 l0_2.length l0_2) (hc0_2 : l0_2.length ≤ c0_2) (g0 : (l0_0.length ≤ maxLen ∧ ∀ y0_ ∈ l0_0, (Lit.int .u8 y0_.f0).wf = true ∧ (Lit.int .i64 y0_.f1).wf = true ∧ (Lit.int .i64 y0_.f2).wf = true) ∧ (l0_1.length ≤ maxLen ∧ ∀ y0_ ∈ l0_1, (Lit.int .u8 y0_.f0).wf = true ∧ (Lit.int .i64 y0_.f1).wf = true ∧ (Lit.int .i64 y0_.f2).wf = true) ∧ (l0_2.length ≤ maxLen ∧ ∀ y0_ ∈ l0_2, (y0_.f0.length ≤ maxLen ∧ ∀ y1_ ∈ y0_.f0, (Lit.int .u8 y1_).wf = true) ∧ (y0_.f1.length ≤ maxLen ∧ ∀ y1_ ∈ y0_.f1, (Lit.int .u8 y1_).wf = true) ∧ (Lit.int .u8 y0_.f2).wf = true ∧ True ∧ (Lit.int .i64 y0_.f4).wf = true ∧ (Lit.int .i64 y0_.f5).wf = true ∧ (Lit.int .i64 y0_.f6).wf = true ∧ (y0_.f7.length ≤ maxLen ∧ ∀ y1_ ∈ y0_.f7, (Lit.int .u8 y1_.f0).wf = true ∧ (Lit.int .i64 y1_.f1).wf = true ∧ (Lit.int .i64 y1_.f2).wf = true)) ∧ (Lit.int .i64 a0_3).wf = true) (w1 : (Lit.int .i64 a1).wf = true) :
  Calls Try.prog 5 #[.agg #[.slice A0_0 l0_0.length c0_0, .slice A0_1 l0_1.length c0_1, .slice A0_2 l0_2.length c0_2, .int .i64 a0_3], .int .i64 a1] w fun e w' => e = .returned (.bool true) ∧ Below w.heap.size w w' := by
 obtain ⟨k, h⟩ := P l0_0 l0_1 l0_2 a0_3 a1 g0 w1
 refine (capstanlaw11_CallsTells.calls k _ _ l0_0 _ _ l0_1 _ _ l0_2 a0_3 a1 true w hr0_0 hc0_0 hr0_1 hc0_1 hr0_2 hc0_2 h).mono ?_
 rintro e w' ⟨rfl, hd⟩
 exact ⟨rfl, hd⟩

end Go.Proofs.Ytkmnachdibhdhaa.P
