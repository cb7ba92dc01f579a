/- Contracts of the functions of this seat (each: the call of the function does what the plain Lean function of the same name tells; the conditions stand in each statement). Written by a program of this session and by hand; checked by Lean. -/
import Derived.Test.YtdbdajifalioiaaV0
import Derived.Test.YtdbdajifalioiaaV4
import Derived.Test.YtdbdajifalioiaaV6
import Derived.Test.YtdbdajifalioiaaV7
import Derived.Test.YtdbdajifalioiaaV9
import Derived.Test.YtdbdajifalioiaaV10
namespace Go.Proofs.Ytdbdajifalioiaa.V
open Go.RowKit Go.Proofs.YtdbdajifalioiaaW.PrintWords Go.Proofs.YtdbdajifalioiaaW.PrintLast Go.Proofs.YtdbdajifalioiaaW.PrintMore
attribute [local go_sem] max2_int min2_int max_two min_two max_three min_three max_four min_four   -- for this text's walks alone
set_option linter.unusedVariables false
set_option linter.unusedSimpArgs false

/-! ### capstanlaw07_MethodBack: function 5 -/
mutual
def capstanlaw07_MethodBack.j0 : Nat → List Int → List Int → Int → Bool → List Int → List Int → Int → Bool → Int → Int → Int → List (S114) → Option (Bool)
 | 0, _, _, _, _, _, _, _, _, _, _, _, _ => none
 | k + 1, x1, x2, x3, x32, x256000, x256001, x256002, x256003, x256004, x256005, x256006, x256007 => if x32 = true then (some true) else ((method_Bytes.f k x256000 x256001 x256002 x256003 x256004 x256005 x256006 x256007).bind fun bt258 => ((method_May.f k x256000 x256001 x256002 x256003 x256004 x256005 x256006 x256007).bind fun t262 => (if ((bt258.2 == 0) != t262) = true then (none) else (if bt258.2 = 0 then (capstanlaw07_MethodBack.j1 k x1 x2 x3 bt258.1 bt258.2 false x256000 x256001 x256002 x256003 x256004 x256005 x256006 x256007) else (if bt258.2 = 70 then (capstanlaw07_MethodBack.j1 k x1 x2 x3 bt258.1 bt258.2 (decide ((bt258.1.length : Int) > 0)) x256000 x256001 x256002 x256003 x256004 x256005 x256006 x256007) else (none))))))
def capstanlaw07_MethodBack.j1 : Nat → List Int → List Int → Int → List Int → Int → Bool → List Int → List Int → Int → Bool → Int → Int → Int → List (S114) → Option (Bool)
 | 0, _, _, _, _, _, _, _, _, _, _, _, _, _, _ => none
 | k + 1, x1, x2, x3, x9, x10, x55, x256000, x256001, x256002, x256003, x256004, x256005, x256006, x256007 => if x55 = true then (none) else (if x10 = 0 then ((some (([] : List Int) : List Int)).bind fun y263 => (if y263.length + x1.length < 140737488355328 then ((some (y263 ++ x1 : List Int)).bind fun y266 => (if y266.length + x9.length < 140737488355328 then ((some (y266 ++ x9 : List Int)).bind fun y269 => (if y269.length + x2.length < 140737488355328 then ((method_Read.f k (y269 ++ x2) (x1.length : Int)).bind fun bt275 => (if bt275.2.2.2.2.2.2.2.2.2 = 0 then (if bt275.2.2.2.2.2.2.2.2.1 = (wrap64 ((x1.length : Int) + (x9.length : Int))) then ((method_Same.f k bt275.1 bt275.2.1 bt275.2.2.1 bt275.2.2.2.1 bt275.2.2.2.2.1 bt275.2.2.2.2.2.1 bt275.2.2.2.2.2.2.1 bt275.2.2.2.2.2.2.2.1 x256000 x256001 x256002 x256003 x256004 x256005 x256006 x256007).bind fun t292 => (if t292 = true then (if (x9.length : Int) = 0 then (none) else (if 0 ≤ (wrap64 ((x9.length : Int) - 1)) then (if (wrap64 ((x9.length : Int) - 1)) ≤ (x9.length : Int) then ((capstanlaw07_told.f k 10 (x9.take ((wrap64 ((x9.length : Int) - 1)) : Int).toNat)).bind fun t297 => (if t297 = true then (capstanlaw07_MethodBack.j2 k x2 x3) else (none))) else (none)) else (none))) else (none))) else (none)) else (none))) else (none))) else (none))) else (none))) else (capstanlaw07_MethodBack.j2 k x2 x3))
def capstanlaw07_MethodBack.j2 : Nat → List Int → Int → Option (Bool)
 | 0, _, _ => none
 | k + 1, x2, x3 => (method_Read.f k x2 x3).bind fun bt298 => (if bt298.2.2.2.2.2.2.2.2.2 = 0 then ((method_Bytes.f k bt298.1 bt298.2.1 bt298.2.2.1 bt298.2.2.2.1 bt298.2.2.2.2.1 bt298.2.2.2.2.2.1 bt298.2.2.2.2.2.2.1 bt298.2.2.2.2.2.2.2.1).bind fun bt315 => (if bt315.2 = 0 then ((method_May.f k bt298.1 bt298.2.1 bt298.2.2.1 bt298.2.2.2.1 bt298.2.2.2.2.1 bt298.2.2.2.2.2.1 bt298.2.2.2.2.2.2.1 bt298.2.2.2.2.2.2.2.1).bind fun t319 => (if t319 = true then (if x3 ≥ 0 then (if x3 ≤ (x2.length : Int) then (if bt298.2.2.2.2.2.2.2.2.1 ≤ (x2.length : Int) then (if bt298.2.2.2.2.2.2.2.2.1 = (wrap64 (x3 + (bt315.1.length : Int))) then (if 0 ≤ x3 then (if x3 ≤ bt298.2.2.2.2.2.2.2.2.1 then (some ((strOfNums bt315.1).toList == (strOfNums ((x2.take (bt298.2.2.2.2.2.2.2.2.1 : Int).toNat).drop (x3 : Int).toNat)).toList)) else (none)) else (none)) else (none)) else (none)) else (none)) else (none)) else (none))) else (none))) else (some (bt298.2.2.2.2.2.2.2.2.1 == 0)))
end
def capstanlaw07_MethodBack.f (k : Nat) (l0_0 : List Int) (l0_1 : List Int) (a0_2 : Int) (a0_3 : Bool) (a0_4 : Int) (a0_5 : Int) (a0_6 : Int) (l0_7 : List (S114)) (l1 : List Int) (l2 : List Int) (a3 : Int) : Option (Bool) := (capstanlaw07_awake.f k).bind fun t256 => (if t256 = true then ((capstanlaw07_Great.f l0_0 l0_1 a0_2 a0_3 a0_4 a0_5 a0_6 l0_7).bind fun t257 => (if t257 = true then (capstanlaw07_MethodBack.j0 k l1 l2 a3 true l0_0 l0_1 a0_2 a0_3 a0_4 a0_5 a0_6 l0_7) else (if (l1.length : Int) > 300 then (capstanlaw07_MethodBack.j0 k l1 l2 a3 true l0_0 l0_1 a0_2 a0_3 a0_4 a0_5 a0_6 l0_7) else (capstanlaw07_MethodBack.j0 k l1 l2 a3 (decide ((l2.length : Int) > 1500)) l0_0 l0_1 a0_2 a0_3 a0_4 a0_5 a0_6 l0_7)))) else (none))
theorem capstanlaw07_MethodBack.mono_l : ∀ k, (∀ y0 y1 y2 y3 y4 y5 y6 y7 y8 y9 y10 y11, LeO (capstanlaw07_MethodBack.j0 k y0 y1 y2 y3 y4 y5 y6 y7 y8 y9 y10 y11) (capstanlaw07_MethodBack.j0 (k + 1) y0 y1 y2 y3 y4 y5 y6 y7 y8 y9 y10 y11)) ∧ (∀ y0 y1 y2 y3 y4 y5 y6 y7 y8 y9 y10 y11 y12 y13, LeO (capstanlaw07_MethodBack.j1 k y0 y1 y2 y3 y4 y5 y6 y7 y8 y9 y10 y11 y12 y13) (capstanlaw07_MethodBack.j1 (k + 1) y0 y1 y2 y3 y4 y5 y6 y7 y8 y9 y10 y11 y12 y13)) ∧ (∀ y0 y1, LeO (capstanlaw07_MethodBack.j2 k y0 y1) (capstanlaw07_MethodBack.j2 (k + 1) y0 y1))
 | 0 => ⟨fun _ _ _ _ _ _ _ _ _ _ _ _ r h => by simp [capstanlaw07_MethodBack.j0] at h, fun _ _ _ _ _ _ _ _ _ _ _ _ _ _ r h => by simp [capstanlaw07_MethodBack.j1] at h, fun _ _ r h => by simp [capstanlaw07_MethodBack.j2] at h⟩
 | k + 1 => by
  obtain ⟨ih0, ih1, ih2⟩ := capstanlaw07_MethodBack.mono_l k
  refine ⟨?_, ?_, ?_⟩
  ·
   intro y0 y1 y2 y3 y4 y5 y6 y7 y8 y9 y10 y11
   unfold capstanlaw07_MethodBack.j0
   repeat' first
   | (with_reducible exact ih0 _ _ _ _ _ _ _ _ _ _ _ _)
   | (with_reducible exact ih1 _ _ _ _ _ _ _ _ _ _ _ _ _ _)
   | (with_reducible exact ih2 _ _)
   | (with_reducible exact capstanlaw07_awake.mono _)
   | (with_reducible exact capstanlaw07_told.mono _ _ _)
   | (with_reducible exact method_Bytes.mono _ _ _ _ _ _ _ _ _)
   | (with_reducible exact method_May.mono _ _ _ _ _ _ _ _ _)
   | (with_reducible exact method_Read.mono _ _ _)
   | (with_reducible exact method_Same.mono _ _ _ _ _ _ _ _ _ _ _ _ _ _ _ _ _)
   | (with_reducible exact LeO.refl _)
   | (with_reducible exact LeO.none _)
   | (with_reducible refine LeO.ite ?_ ?_)
   | (with_reducible refine LeO.bind ?_ (fun _ => ?_))
   | exact ih0 _ _ _ _ _ _ _ _ _ _ _ _
   | exact ih1 _ _ _ _ _ _ _ _ _ _ _ _ _ _
   | exact ih2 _ _
   | exact capstanlaw07_awake.mono _
   | exact capstanlaw07_told.mono _ _ _
   | exact method_Bytes.mono _ _ _ _ _ _ _ _ _
   | exact method_May.mono _ _ _ _ _ _ _ _ _
   | exact method_Read.mono _ _ _
   | exact method_Same.mono _ _ _ _ _ _ _ _ _ _ _ _ _ _ _ _ _
   | exact LeO.none _
   | refine LeO.ite ?_ ?_
   | refine LeO.bind ?_ (fun _ => ?_)
  ·
   intro y0 y1 y2 y3 y4 y5 y6 y7 y8 y9 y10 y11 y12 y13
   unfold capstanlaw07_MethodBack.j1
   repeat' first
   | (with_reducible exact ih0 _ _ _ _ _ _ _ _ _ _ _ _)
   | (with_reducible exact ih1 _ _ _ _ _ _ _ _ _ _ _ _ _ _)
   | (with_reducible exact ih2 _ _)
   | (with_reducible exact capstanlaw07_awake.mono _)
   | (with_reducible exact capstanlaw07_told.mono _ _ _)
   | (with_reducible exact method_Bytes.mono _ _ _ _ _ _ _ _ _)
   | (with_reducible exact method_May.mono _ _ _ _ _ _ _ _ _)
   | (with_reducible exact method_Read.mono _ _ _)
   | (with_reducible exact method_Same.mono _ _ _ _ _ _ _ _ _ _ _ _ _ _ _ _ _)
   | (with_reducible exact LeO.refl _)
   | (with_reducible exact LeO.none _)
   | (with_reducible refine LeO.ite ?_ ?_)
   | (with_reducible refine LeO.bind ?_ (fun _ => ?_))
   | exact ih0 _ _ _ _ _ _ _ _ _ _ _ _
   | exact ih1 _ _ _ _ _ _ _ _ _ _ _ _ _ _
   | exact ih2 _ _
   | exact capstanlaw07_awake.mono _
   | exact capstanlaw07_told.mono _ _ _
   | exact method_Bytes.mono _ _ _ _ _ _ _ _ _
   | exact method_May.mono _ _ _ _ _ _ _ _ _
   | exact method_Read.mono _ _ _
   | exact method_Same.mono _ _ _ _ _ _ _ _ _ _ _ _ _ _ _ _ _
   | exact LeO.none _
   | refine LeO.ite ?_ ?_
   | refine LeO.bind ?_ (fun _ => ?_)
  ·
   intro y0 y1
   unfold capstanlaw07_MethodBack.j2
   repeat' first
   | (with_reducible exact ih0 _ _ _ _ _ _ _ _ _ _ _ _)
   | (with_reducible exact ih1 _ _ _ _ _ _ _ _ _ _ _ _ _ _)
   | (with_reducible exact ih2 _ _)
   | (with_reducible exact capstanlaw07_awake.mono _)
   | (with_reducible exact capstanlaw07_told.mono _ _ _)
   | (with_reducible exact method_Bytes.mono _ _ _ _ _ _ _ _ _)
   | (with_reducible exact method_May.mono _ _ _ _ _ _ _ _ _)
   | (with_reducible exact method_Read.mono _ _ _)
   | (with_reducible exact method_Same.mono _ _ _ _ _ _ _ _ _ _ _ _ _ _ _ _ _)
   | (with_reducible exact LeO.refl _)
   | (with_reducible exact LeO.none _)
   | (with_reducible refine LeO.ite ?_ ?_)
   | (with_reducible refine LeO.bind ?_ (fun _ => ?_))
   | exact ih0 _ _ _ _ _ _ _ _ _ _ _ _
   | exact ih1 _ _ _ _ _ _ _ _ _ _ _ _ _ _
   | exact ih2 _ _
   | exact capstanlaw07_awake.mono _
   | exact capstanlaw07_told.mono _ _ _
   | exact method_Bytes.mono _ _ _ _ _ _ _ _ _
   | exact method_May.mono _ _ _ _ _ _ _ _ _
   | exact method_Read.mono _ _ _
   | exact method_Same.mono _ _ _ _ _ _ _ _ _ _ _ _ _ _ _ _ _
   | exact LeO.none _
   | refine LeO.ite ?_ ?_
   | refine LeO.bind ?_ (fun _ => ?_)
theorem capstanlaw07_MethodBack.mono : ∀ a0 a1 a2 a3 a4 a5 a6 a7 a8 a9 a10 k, LeO (capstanlaw07_MethodBack.f k a0 a1 a2 a3 a4 a5 a6 a7 a8 a9 a10) (capstanlaw07_MethodBack.f (k + 1) a0 a1 a2 a3 a4 a5 a6 a7 a8 a9 a10) := by
 intro a0 a1 a2 a3 a4 a5 a6 a7 a8 a9 a10 k
 obtain ⟨ih0, ih1, ih2⟩ := capstanlaw07_MethodBack.mono_l k
 unfold capstanlaw07_MethodBack.f
 repeat' first
   | (with_reducible exact ih0 _ _ _ _ _ _ _ _ _ _ _ _)
   | (with_reducible exact ih1 _ _ _ _ _ _ _ _ _ _ _ _ _ _)
   | (with_reducible exact ih2 _ _)
   | (with_reducible exact capstanlaw07_awake.mono _)
   | (with_reducible exact capstanlaw07_told.mono _ _ _)
   | (with_reducible exact method_Bytes.mono _ _ _ _ _ _ _ _ _)
   | (with_reducible exact method_May.mono _ _ _ _ _ _ _ _ _)
   | (with_reducible exact method_Read.mono _ _ _)
   | (with_reducible exact method_Same.mono _ _ _ _ _ _ _ _ _ _ _ _ _ _ _ _ _)
   | (with_reducible exact LeO.refl _)
   | (with_reducible exact LeO.none _)
   | (with_reducible refine LeO.ite ?_ ?_)
   | (with_reducible refine LeO.bind ?_ (fun _ => ?_))
   | exact ih0 _ _ _ _ _ _ _ _ _ _ _ _
   | exact ih1 _ _ _ _ _ _ _ _ _ _ _ _ _ _
   | exact ih2 _ _
   | exact capstanlaw07_awake.mono _
   | exact capstanlaw07_told.mono _ _ _
   | exact method_Bytes.mono _ _ _ _ _ _ _ _ _
   | exact method_May.mono _ _ _ _ _ _ _ _ _
   | exact method_Read.mono _ _ _
   | exact method_Same.mono _ _ _ _ _ _ _ _ _ _ _ _ _ _ _ _ _
   | exact LeO.none _
   | refine LeO.ite ?_ ?_
   | refine LeO.bind ?_ (fun _ => ?_)
def capstanlaw07_MethodBack.T16 : Bool × List (List Nat × List Nat) := (true, [([], []), ([0], [0]), ([1], [1]), ([2], [2]), ([3, 2, 2], [2, 3]), ([2, 4], [2, 4]), ([5, 4], [5]), ([6], [6]), ([7, 6], [6, 7]), ([6, 8], [6, 8]), ([9, 6], [9]), ([10], [10]), ([10], [10]), ([12, 10], [10, 12]), ([11, 13, 10], [10, 11, 13]), ([10, 14], [10, 14]), ([15, 10], [15]), ([16], [16]), ([16], [16]), ([18, 16], [16, 18]), ([17, 19, 16], [16, 17, 19]), ([16, 20], [16, 20]), ([21, 16], [21]), ([22], [22]), ([22], [22]), ([22], [22]), ([25, 22], [22, 25]), ([24, 26, 22], [22, 24, 26]), ([23, 27, 22], [22, 23, 27]), ([22, 28], [22, 28]), ([29, 22], [29]), ([30], [30]), ([31, 30], [30, 31]), ([30], [30]), ([30], [30]), ([30], [30]), ([33, 34, 35, 30], [30, 33, 34, 35]), ([36, 30], [30, 36]), ([32, 37, 30], [30, 32, 37]), ([30, 38], [30, 38]), ([39, 30, 0, 1, 2, 3, 4, 5, 6, 7, 8, 9, 10, 11, 12, 13, 14, 15, 16, 17, 18, 19, 20, 21, 22, 23, 24, 25, 26, 27, 28, 29, 30, 31, 32, 33, 34, 35, 36, 37, 38, 39], [39])])
def capstanlaw07_MethodBack.B16 : List Nat := [0, 1, 3, 7, 15, 31, 63, 127, 255, 511, 1023, 2047, 2047, 6143, 16383, 32767, 65535, 131071, 131071, 393215, 1048575, 2097151, 4194303, 8388607, 8388607, 8388607, 41943039, 125829119, 268435455, 536870911, 1073741823, 2147483647, 4294967295, 2147483647, 2147483647, 2147483647, 62277025791, 130996502527, 274877906943, 549755813887, 1099511627775]
theorem capstanlaw07_MethodBack.tab16 : rtab .any (opsOf Try.f5 16) = capstanlaw07_MethodBack.T16 := by kernel_rfl
theorem capstanlaw07_MethodBack.bits16 : waitsOk capstanlaw07_MethodBack.T16.2 capstanlaw07_MethodBack.B16 = true := by kernel_rfl
set_option maxHeartbeats 8000000 in
set_option maxRecDepth 100000 in
theorem capstanlaw07_MethodBack.calls (k : Nat) (A0_0 : Option Addr) (c0_0 : Nat) (l0_0 : List Int) (A0_1 : Option Addr) (c0_1 : Nat) (l0_1 : List Int) (a0_2 : Int) (a0_3 : Bool) (a0_4 : Int) (a0_5 : Int) (a0_6 : Int) (A0_7 : Option Addr) (c0_7 : Nat) (l0_7 : List (S114)) (A1 : Option Addr) (c1 : Nat) (l1 : List Int) (A2 : Option Addr) (c2 : Nat) (l2 : List Int) (a3 : Int) (r : Bool) (w : World) (hr0_0 : Kd.C (Kd.int .u8) w A0_0 l0_0.length l0_0) (hc0_0 : l0_0.length ≤ c0_0) (hr0_1 : Kd.C (Kd.int .u8) w A0_1 l0_1.length l0_1) (hc0_1 : l0_1.length ≤ c0_1) (hr0_7 : Kd.C k114 w A0_7 l0_7.length l0_7) (hc0_7 : l0_7.length ≤ c0_7) (hr1 : Kd.C (Kd.int .u8) w A1 l1.length l1) (hc1 : l1.length ≤ c1) (hr2 : Kd.C (Kd.int .u8) w A2 l2.length l2) (hc2 : l2.length ≤ c2) (h : capstanlaw07_MethodBack.f k l0_0 l0_1 a0_2 a0_3 a0_4 a0_5 a0_6 l0_7 l1 l2 a3 = some r) :
  Calls Try.prog 5 #[.agg #[.slice A0_0 l0_0.length c0_0, .slice A0_1 l0_1.length c0_1, .int .u8 a0_2, .bool a0_3, .int .i64 a0_4, .int .i64 a0_5, .int .i64 a0_6, .slice A0_7 l0_7.length c0_7], .slice A1 l1.length c1, .slice A2 l2.length c2, .int .i64 a3] w fun e w' => e = .returned (.bool r) ∧ Below w.heap.size w w' := by
 have hu25 := Try.underlying25
 have HR0_0 := Aside0.mk hr0_0
 have HC0_0 := Aside0.mk hc0_0
 clear hr0_0 hc0_0
 have HR0_1 := Aside0.mk hr0_1
 have HC0_1 := Aside0.mk hc0_1
 clear hr0_1 hc0_1
 have HR0_7 := Aside0.mk hr0_7
 have HC0_7 := Aside0.mk hc0_7
 clear hr0_7 hc0_7
 have HR1 := Aside0.mk hr1
 have HC1 := Aside0.mk hc1
 clear hr1 hc1
 have HR2 := Aside0.mk hr2
 have HC2 := Aside0.mk hc2
 clear hr2 hc2
 have HB := Aside0.mk (Below.refl w.heap.size w)
 have H : ((capstanlaw07_awake.f k).bind fun t256 => (if t256 = true then ((capstanlaw07_Great.f l0_0 l0_1 a0_2 a0_3 a0_4 a0_5 a0_6 l0_7).bind fun t257 => (if t257 = true then (capstanlaw07_MethodBack.j0 k l1 l2 a3 true l0_0 l0_1 a0_2 a0_3 a0_4 a0_5 a0_6 l0_7) else (if (l1.length : Int) > 300 then (capstanlaw07_MethodBack.j0 k l1 l2 a3 true l0_0 l0_1 a0_2 a0_3 a0_4 a0_5 a0_6 l0_7) else (capstanlaw07_MethodBack.j0 k l1 l2 a3 (decide ((l2.length : Int) > 1500)) l0_0 l0_1 a0_2 a0_3 a0_4 a0_5 a0_6 l0_7)))) else (none))) = some r := h
 clear h
 replace H := Option.bind_eq_some_iff.mp H
 obtain ⟨t256, A50, H⟩ := H
 replace H : (if t256 = true then ((capstanlaw07_Great.f l0_0 l0_1 a0_2 a0_3 a0_4 a0_5 a0_6 l0_7).bind fun t257 => (if t257 = true then (capstanlaw07_MethodBack.j0 k l1 l2 a3 true l0_0 l0_1 a0_2 a0_3 a0_4 a0_5 a0_6 l0_7) else (if (l1.length : Int) > 300 then (capstanlaw07_MethodBack.j0 k l1 l2 a3 true l0_0 l0_1 a0_2 a0_3 a0_4 a0_5 a0_6 l0_7) else (capstanlaw07_MethodBack.j0 k l1 l2 a3 (decide ((l2.length : Int) > 1500)) l0_0 l0_1 a0_2 a0_3 a0_4 a0_5 a0_6 l0_7)))) else (none)) = some r := H
 have A5 := Aside0.mk A50
 clear A50
 by_cases c6 : t256 = true
 ·
  subst c6
  have H1 : ((capstanlaw07_Great.f l0_0 l0_1 a0_2 a0_3 a0_4 a0_5 a0_6 l0_7).bind fun t257 => (if t257 = true then (capstanlaw07_MethodBack.j0 k l1 l2 a3 true l0_0 l0_1 a0_2 a0_3 a0_4 a0_5 a0_6 l0_7) else (if (l1.length : Int) > 300 then (capstanlaw07_MethodBack.j0 k l1 l2 a3 true l0_0 l0_1 a0_2 a0_3 a0_4 a0_5 a0_6 l0_7) else (capstanlaw07_MethodBack.j0 k l1 l2 a3 (decide ((l2.length : Int) > 1500)) l0_0 l0_1 a0_2 a0_3 a0_4 a0_5 a0_6 l0_7)))) = some r := by rw [if_pos rfl] at H; exact H
  clear H
  have H := H1
  clear H1
  have HC7 := Aside0.mk H
  clear H
  go_enter Try.func5, Try.ntmps5
  go_upto_region 3 with (first | ((with_reducible refine gate_dst (N := 4) rfl ?_); (try (refine gate_guard (by rfl) ?_; dsimp only)); refine box_event ?hg (N := 4) ?hd (cs := #[.slice A0_0 l0_0.length c0_0, .slice A0_1 l0_1.length c0_1, .int .u8 a0_2, .bool a0_3, .int .i64 a0_4, .int .i64 a0_5, .int .i64 a0_6, .slice A0_7 l0_7.length c0_7]) (t := 25) ?hr ?_; (case hd => rfl); (case hg => rfl); (case hr => first | (go_simp; done) | (go_simp; rfl)); intro gb255 hg w8 hbox hb; have n0_ := Aside0.mk (below_step (au1) hb); have n1_ := Aside0.mk (hbox); have n2_ := Aside0.mk ((au29 : w.heap.size ≤ gb255)); have n3_ := Aside0.mk ((au29 : w.heap.size ≤ gb255)); clear HB; have HB := n0_; have BK255 := n1_; have GW255 := n2_; have GE255 := n3_; clear n0_ n1_ n2_ n3_; clear hb hbox hg) | ((with_reducible refine gate_callee (f := 28) rfl ?_); refine goesL_ (some 19) rfl rfl Try.func28 (by kernel_rfl) rfl #[] rfl (au3) ?_; (with_reducible refine (capstanlaw07_awake.calls k  true _ A5.out).mono ?_); rintro e w9 ⟨rfl, hb⟩; refine ⟨_, rfl, ?_⟩; have n0_ := Aside0.mk (blk_below (g := gb255) (o := .cells #[.slice A0_0 l0_0.length c0_0, .slice A0_1 l0_1.length c0_1, .int .u8 a0_2, .bool a0_3, .int .i64 a0_4, .int .i64 a0_5, .int .i64 a0_6, .slice A0_7 l0_7.length c0_7] 25 (0, 0)) (au9) hb); have n1_ := Aside0.mk (below_step (au2) hb); clear BK255; clear HB; have BK255 := n0_; have HB := n1_; clear n0_ n1_; (try clear hb); (try clear hb2); (try clear hk); (try clear hi)))
  (try simp only [Act.put, List.setIfInBounds_toArray, List.set_cons_zero, List.set_cons_succ])
  go_cut [32] (fun v32 wc => ∃ (kq : Nat) (x32_6 : Bool), v32 = .bool x32_6 ∧ Aside0 (capstanlaw07_MethodBack.j0 kq l1 l2 a3 x32_6 l0_0 l0_1 a0_2 a0_3 a0_4 a0_5 a0_6 l0_7 = some r) ∧ Aside0 (kq ≤ k) ∧ Aside0 (wc.heap[gb255]? = some (.cells #[(.slice A0_0 l0_0.length c0_0), (.slice A0_1 l0_1.length c0_1), .int .u8 a0_2, .bool a0_3, .int .i64 a0_4, .int .i64 a0_5, .int .i64 a0_6, (.slice A0_7 l0_7.length c0_7)] 25 (0, 0))) ∧ Aside0 (Below w.heap.size w wc))
  case first =>
   have H := HC7.out
   clear HC7
   replace H := Option.bind_eq_some_iff.mp H
   obtain ⟨t257, A100, H⟩ := H
   replace H : (if t257 = true then (capstanlaw07_MethodBack.j0 k l1 l2 a3 true l0_0 l0_1 a0_2 a0_3 a0_4 a0_5 a0_6 l0_7) else (if (l1.length : Int) > 300 then (capstanlaw07_MethodBack.j0 k l1 l2 a3 true l0_0 l0_1 a0_2 a0_3 a0_4 a0_5 a0_6 l0_7) else (capstanlaw07_MethodBack.j0 k l1 l2 a3 (decide ((l2.length : Int) > 1500)) l0_0 l0_1 a0_2 a0_3 a0_4 a0_5 a0_6 l0_7))) = some r := H
   have A10 := Aside0.mk A100
   clear A100
   by_cases c11 : t257 = true
   ·
    subst c11
    have H1 : (capstanlaw07_MethodBack.j0 k l1 l2 a3 true l0_0 l0_1 a0_2 a0_3 a0_4 a0_5 a0_6 l0_7) = some r := by rw [if_pos rfl] at H; exact H
    clear H
    have H := H1
    clear H1
    have H' := Aside0.mk H
    clear H
    obtain ⟨hcz12_0, hcz12_1, hcz12_2, hcz12_3, hcz12_4, hcz12_5, hcz12_6, hcz12_7, hfz12_0, hfz12_1, hfz12_2, hfz12_3, hfz12_4, hfz12_5, hfz12_6, hfz12_7⟩ := blk_all8 BK255.out
    go_wp2_with (first | ((with_reducible refine gate_callee (f := 11) rfl ?_); refine goesL_ (some 22) rfl rfl Try.func11 (by kernel_rfl) rfl #[.agg #[.slice A0_0 l0_0.length c0_0, .slice A0_1 l0_1.length c0_1, .int .u8 a0_2, .bool a0_3, .int .i64 a0_4, .int .i64 a0_5, .int .i64 a0_6, .slice A0_7 l0_7.length c0_7]] rfl (au3) ?_; (with_reducible refine (capstanlaw07_Great.calls _ _ l0_0 _ _ l0_1 a0_2 a0_3 a0_4 a0_5 a0_6 _ _ l0_7 true _ ?side1 ?side2 ?side3 ?side4 ?side5 ?side6 A10.out).mono ?_); (case side1 => exact au14); (case side2 => exact HC0_0.out); (case side3 => exact au46); (case side4 => exact HC0_1.out); (case side5 => exact au42); (case side6 => exact HC0_7.out); rintro e w13 ⟨rfl, hb⟩; refine ⟨_, rfl, ?_⟩; have n0_ := Aside0.mk (blk_below (g := gb255) (o := .cells #[.slice A0_0 l0_0.length c0_0, .slice A0_1 l0_1.length c0_1, .int .u8 a0_2, .bool a0_3, .int .i64 a0_4, .int .i64 a0_5, .int .i64 a0_6, .slice A0_7 l0_7.length c0_7] 25 (0, 0)) (au9) hb); have n1_ := Aside0.mk (below_step (au2) hb); clear BK255; clear HB; have BK255 := n0_; have HB := n1_; clear n0_ n1_; (try clear hb); (try clear hb2); (try clear hk); (try clear hi)))
    go_meet
    case rel => exact ⟨_, (true), (au28), H', ⟨au78⟩, ⟨au9⟩, ⟨au2⟩⟩
   ·
    replace c11 := Bool.eq_false_iff.mpr c11
    subst c11
    have H1 : (if (l1.length : Int) > 300 then (capstanlaw07_MethodBack.j0 k l1 l2 a3 true l0_0 l0_1 a0_2 a0_3 a0_4 a0_5 a0_6 l0_7) else (capstanlaw07_MethodBack.j0 k l1 l2 a3 (decide ((l2.length : Int) > 1500)) l0_0 l0_1 a0_2 a0_3 a0_4 a0_5 a0_6 l0_7)) = some r := by rw [if_neg (show ¬ (false = true) by decide)] at H; exact H
    clear H
    have H := H1
    clear H1
    by_cases c14 : (l1.length : Int) > 300
    ·
     rw [if_pos c14] at H
     have c14b0 : decide (300 < (l1.length : Int)) = true := decide_eq_true c14
     have c14b1 : decide (300 < l1.length) = true := decide_eq_true (by omega)
     clear c14
     (first | rw [c14b0] | (simp only [i64_w, i32_w]; rw [c14b0]) | skip)
     have H' := Aside0.mk H
     clear H
     obtain ⟨hcz15_0, hcz15_1, hcz15_2, hcz15_3, hcz15_4, hcz15_5, hcz15_6, hcz15_7, hfz15_0, hfz15_1, hfz15_2, hfz15_3, hfz15_4, hfz15_5, hfz15_6, hfz15_7⟩ := blk_all8 BK255.out
     go_wp2_with (first | ((with_reducible refine gate_callee (f := 11) rfl ?_); refine goesL_ (some 22) rfl rfl Try.func11 (by kernel_rfl) rfl #[.agg #[.slice A0_0 l0_0.length c0_0, .slice A0_1 l0_1.length c0_1, .int .u8 a0_2, .bool a0_3, .int .i64 a0_4, .int .i64 a0_5, .int .i64 a0_6, .slice A0_7 l0_7.length c0_7]] rfl (au3) ?_; (with_reducible refine (capstanlaw07_Great.calls _ _ l0_0 _ _ l0_1 a0_2 a0_3 a0_4 a0_5 a0_6 _ _ l0_7 false _ ?side1 ?side2 ?side3 ?side4 ?side5 ?side6 A10.out).mono ?_); (case side1 => exact au14); (case side2 => exact HC0_0.out); (case side3 => exact au46); (case side4 => exact HC0_1.out); (case side5 => exact au42); (case side6 => exact HC0_7.out); rintro e w16 ⟨rfl, hb⟩; refine ⟨_, rfl, ?_⟩; have n0_ := Aside0.mk (blk_below (g := gb255) (o := .cells #[.slice A0_0 l0_0.length c0_0, .slice A0_1 l0_1.length c0_1, .int .u8 a0_2, .bool a0_3, .int .i64 a0_4, .int .i64 a0_5, .int .i64 a0_6, .slice A0_7 l0_7.length c0_7] 25 (0, 0)) (au9) hb); have n1_ := Aside0.mk (below_step (au2) hb); clear BK255; clear HB; have BK255 := n0_; have HB := n1_; clear n0_ n1_; (try clear hb); (try clear hb2); (try clear hk); (try clear hi)))
     go_meet
     case rel => exact ⟨_, (true), (au28), H', ⟨au78⟩, ⟨au9⟩, ⟨au2⟩⟩
    ·
     rw [if_neg c14] at H
     have c14b0 : decide (300 < (l1.length : Int)) = false := decide_eq_false c14
     have c14b1 : decide (300 < l1.length) = false := decide_eq_false (by omega)
     clear c14
     (first | rw [c14b0] | (simp only [i64_w, i32_w]; rw [c14b0]) | skip)
     have H' := Aside0.mk H
     clear H
     obtain ⟨hcz17_0, hcz17_1, hcz17_2, hcz17_3, hcz17_4, hcz17_5, hcz17_6, hcz17_7, hfz17_0, hfz17_1, hfz17_2, hfz17_3, hfz17_4, hfz17_5, hfz17_6, hfz17_7⟩ := blk_all8 BK255.out
     go_wp2_with (first | ((with_reducible refine gate_callee (f := 11) rfl ?_); refine goesL_ (some 22) rfl rfl Try.func11 (by kernel_rfl) rfl #[.agg #[.slice A0_0 l0_0.length c0_0, .slice A0_1 l0_1.length c0_1, .int .u8 a0_2, .bool a0_3, .int .i64 a0_4, .int .i64 a0_5, .int .i64 a0_6, .slice A0_7 l0_7.length c0_7]] rfl (au3) ?_; (with_reducible refine (capstanlaw07_Great.calls _ _ l0_0 _ _ l0_1 a0_2 a0_3 a0_4 a0_5 a0_6 _ _ l0_7 false _ ?side1 ?side2 ?side3 ?side4 ?side5 ?side6 A10.out).mono ?_); (case side1 => exact au14); (case side2 => exact HC0_0.out); (case side3 => exact au46); (case side4 => exact HC0_1.out); (case side5 => exact au42); (case side6 => exact HC0_7.out); rintro e w18 ⟨rfl, hb⟩; refine ⟨_, rfl, ?_⟩; have n0_ := Aside0.mk (blk_below (g := gb255) (o := .cells #[.slice A0_0 l0_0.length c0_0, .slice A0_1 l0_1.length c0_1, .int .u8 a0_2, .bool a0_3, .int .i64 a0_4, .int .i64 a0_5, .int .i64 a0_6, .slice A0_7 l0_7.length c0_7] 25 (0, 0)) (au9) hb); have n1_ := Aside0.mk (below_step (au2) hb); clear BK255; clear HB; have BK255 := n0_; have HB := n1_; clear n0_ n1_; (try clear hb); (try clear hb2); (try clear hk); (try clear hi)))
     go_meet
     case rel => exact ⟨_, (decide ((l2.length : Int) > 1500)), (au28), H', ⟨au78⟩, ⟨au9⟩, ⟨au2⟩⟩
  case rest =>
   clear HC7
   try clear c1
   try clear c2
   try clear p2
   try clear c5
   try clear c6
   try clear c11
   try clear c14
   try clear c14b0
   try clear c14b1
   try clear hcz12_0
   try clear hcz12_1
   try clear hcz12_2
   try clear hcz12_3
   try clear hcz12_4
   try clear hcz12_5
   try clear hcz12_6
   try clear hcz12_7
   try clear hcz15_0
   try clear hcz15_1
   try clear hcz15_2
   try clear hcz15_3
   try clear hcz15_4
   try clear hcz15_5
   try clear hcz15_6
   try clear hcz15_7
   try clear hcz17_0
   try clear hcz17_1
   try clear hcz17_2
   try clear hcz17_3
   try clear hcz17_4
   try clear hcz17_5
   try clear hcz17_6
   try clear hcz17_7
   try clear hfz12_0
   try clear hfz12_1
   try clear hfz12_2
   try clear hfz12_3
   try clear hfz12_4
   try clear hfz12_5
   try clear hfz12_6
   try clear hfz12_7
   try clear hfz15_0
   try clear hfz15_1
   try clear hfz15_2
   try clear hfz15_3
   try clear hfz15_4
   try clear hfz15_5
   try clear hfz15_6
   try clear hfz15_7
   try clear hfz17_0
   try clear hfz17_1
   try clear hfz17_2
   try clear hfz17_3
   try clear hfz17_4
   try clear hfz17_5
   try clear hfz17_6
   try clear hfz17_7
   obtain ⟨kq, x32_6, rfl, HA, HJ6, BK255, HB⟩ := hcut
   cases kq with
   | zero => exact absurd HA.out (by simp [capstanlaw07_MethodBack.j0])
   | succ kj6 =>
    have H := HA.out
    clear HA
    simp only [capstanlaw07_MethodBack.j0] at H
    by_cases c19 : x32_6 = true
    ·
     subst c19
     have H1 : (some true) = some r := by rw [if_pos rfl] at H; exact H
     clear H
     have H := H1
     clear H1
     obtain rfl := Option.some.inj H
     go_wp2
     go_ret
     exact ⟨au10, au2⟩
    ·
     replace c19 := Bool.eq_false_iff.mpr c19
     subst c19
     have H1 : ((method_Bytes.f kj6 l0_0 l0_1 a0_2 a0_3 a0_4 a0_5 a0_6 l0_7).bind fun bt258 => ((method_May.f kj6 l0_0 l0_1 a0_2 a0_3 a0_4 a0_5 a0_6 l0_7).bind fun t262 => (if ((bt258.2 == 0) != t262) = true then (none) else (if bt258.2 = 0 then (capstanlaw07_MethodBack.j1 kj6 l1 l2 a3 bt258.1 bt258.2 false l0_0 l0_1 a0_2 a0_3 a0_4 a0_5 a0_6 l0_7) else (if bt258.2 = 70 then (capstanlaw07_MethodBack.j1 kj6 l1 l2 a3 bt258.1 bt258.2 (decide ((bt258.1.length : Int) > 0)) l0_0 l0_1 a0_2 a0_3 a0_4 a0_5 a0_6 l0_7) else (none)))))) = some r := by rw [if_neg (show ¬ (false = true) by decide)] at H; exact H
     clear H
     have H := H1
     clear H1
     replace H := Option.bind_eq_some_iff.mp H
     obtain ⟨⟨t258, t261⟩, A200, H⟩ := H
     replace H : ((method_May.f kj6 l0_0 l0_1 a0_2 a0_3 a0_4 a0_5 a0_6 l0_7).bind fun t262 => (if ((t261 == 0) != t262) = true then (none) else (if t261 = 0 then (capstanlaw07_MethodBack.j1 kj6 l1 l2 a3 t258 t261 false l0_0 l0_1 a0_2 a0_3 a0_4 a0_5 a0_6 l0_7) else (if t261 = 70 then (capstanlaw07_MethodBack.j1 kj6 l1 l2 a3 t258 t261 (decide ((t258.length : Int) > 0)) l0_0 l0_1 a0_2 a0_3 a0_4 a0_5 a0_6 l0_7) else (none))))) = some r := H
     have A20 := Aside0.mk A200
     clear A200
     have HC21 := Aside0.mk H
     clear H
     obtain ⟨hcz22_0, hcz22_1, hcz22_2, hcz22_3, hcz22_4, hcz22_5, hcz22_6, hcz22_7, hfz22_0, hfz22_1, hfz22_2, hfz22_3, hfz22_4, hfz22_5, hfz22_6, hfz22_7⟩ := blk_all8 BK255.out
     go_upto_region 6 with (first | ((with_reducible refine gate_callee (f := 21) rfl ?_); refine goesL_ (some 35) rfl rfl Try.func21 (by kernel_rfl) rfl #[.agg #[.slice A0_0 l0_0.length c0_0, .slice A0_1 l0_1.length c0_1, .int .u8 a0_2, .bool a0_3, .int .i64 a0_4, .int .i64 a0_5, .int .i64 a0_6, .slice A0_7 l0_7.length c0_7]] rfl (au3) ?_; (with_reducible refine (method_Bytes.calls kj6 _ _ l0_0 _ _ l0_1 a0_2 a0_3 a0_4 a0_5 a0_6 _ _ l0_7 t258 t261 _ ?side1 ?side2 ?side3 ?side4 ?side5 ?side6 A20.out).mono ?_); (case side1 => exact au14); (case side2 => exact HC0_0.out); (case side3 => exact au46); (case side4 => exact HC0_1.out); (case side5 => exact au42); (case side6 => exact HC0_7.out); rintro e w23 ⟨v259, rfl, ho0, hb⟩; refine ⟨_, rfl, ?_⟩; have n0_ := Aside0.mk (Kd.R_lower ho0 (below_size (au2))); have n1_ := Aside0.mk (blk_below (g := gb255) (o := .cells #[.slice A0_0 l0_0.length c0_0, .slice A0_1 l0_1.length c0_1, .int .u8 a0_2, .bool a0_3, .int .i64 a0_4, .int .i64 a0_5, .int .i64 a0_6, .slice A0_7 l0_7.length c0_7] 25 (0, 0)) (au9) hb); have n2_ := Aside0.mk (below_step (au2) hb); clear BK255; clear HB; have HO260 := n0_; have BK255 := n1_; have HB := n2_; clear n0_ n1_ n2_; (try clear hb); (try clear hb2); (try clear hk); (try clear hi); (try clear ho0)))
     (try simp only [Act.put, List.setIfInBounds_toArray, List.set_cons_zero, List.set_cons_succ])
     go_cut [55] (fun v55 wc => ∃ (kq : Nat) (x55_20 : Bool), v55 = .bool x55_20 ∧ Aside0 (capstanlaw07_MethodBack.j1 kq l1 l2 a3 t258 t261 x55_20 l0_0 l0_1 a0_2 a0_3 a0_4 a0_5 a0_6 l0_7 = some r) ∧ Aside0 (kq ≤ kj6) ∧ Aside0 (Kd.R (Kd.int .u8) 5 wc w.heap.size (fun _ => True) v259 t258) ∧ Aside0 (wc.heap[gb255]? = some (.cells #[(.slice A0_0 l0_0.length c0_0), (.slice A0_1 l0_1.length c0_1), .int .u8 a0_2, .bool a0_3, .int .i64 a0_4, .int .i64 a0_5, .int .i64 a0_6, (.slice A0_7 l0_7.length c0_7)] 25 (0, 0))) ∧ Aside0 (Below w.heap.size w wc))
     case first =>
      have H := HC21.out
      clear HC21
      replace H := Option.bind_eq_some_iff.mp H
      obtain ⟨t262, A240, H⟩ := H
      replace H : (if ((t261 == 0) != t262) = true then (none) else (if t261 = 0 then (capstanlaw07_MethodBack.j1 kj6 l1 l2 a3 t258 t261 false l0_0 l0_1 a0_2 a0_3 a0_4 a0_5 a0_6 l0_7) else (if t261 = 70 then (capstanlaw07_MethodBack.j1 kj6 l1 l2 a3 t258 t261 (decide ((t258.length : Int) > 0)) l0_0 l0_1 a0_2 a0_3 a0_4 a0_5 a0_6 l0_7) else (none)))) = some r := H
      have A24 := Aside0.mk A240
      clear A240
      by_cases c25 : ((t261 == 0) != t262) = true
      ·
       rw [if_pos c25] at H
       exact absurd H (by simp)
      ·
       rw [if_neg c25] at H
       have c25b0 : ((t261 == 0) != t262) = false := by simpa using c25
       (try (have c25b1 : decide ((t261 == 0) = t262) = true := by first | (simp; done) | simpa using c25))
       (try (have c25b2 : ((t261 == 0) == t262) = true := by first | (simp; done) | simpa using c25))
       clear c25
       (first | rw [c25b0] | (simp only [i64_w, i32_w]; rw [c25b0]) | skip)
       by_cases c26 : t261 = 0
       ·
        rw [if_pos c26] at H
        have c26b0 : (t261 == 0) = true := beq_iff_eq.mpr c26
        have c26b1 : (t261 != 0) = false := bne_eq_false_iff_eq.mpr c26
        clear c26
        (try (have c26q2 : t262 = true := by have h_ := c25b2; rw [c26b0] at h_; simpa using h_))
        have H' := Aside0.mk H
        clear H
        obtain ⟨hcz27_0, hcz27_1, hcz27_2, hcz27_3, hcz27_4, hcz27_5, hcz27_6, hcz27_7, hfz27_0, hfz27_1, hfz27_2, hfz27_3, hfz27_4, hfz27_5, hfz27_6, hfz27_7⟩ := blk_all8 BK255.out
        go_wp2_with (first | ((with_reducible refine gate_callee (f := 14) rfl ?_); refine goesL_ (some 41) rfl rfl Try.func14 (by kernel_rfl) rfl #[.agg #[.slice A0_0 l0_0.length c0_0, .slice A0_1 l0_1.length c0_1, .int .u8 a0_2, .bool a0_3, .int .i64 a0_4, .int .i64 a0_5, .int .i64 a0_6, .slice A0_7 l0_7.length c0_7]] rfl (au3) ?_; (with_reducible refine (method_May.calls kj6 _ _ l0_0 _ _ l0_1 a0_2 a0_3 a0_4 a0_5 a0_6 _ _ l0_7 t262 _ ?side1 ?side2 ?side3 ?side4 ?side5 ?side6 A24.out).mono ?_); (case side1 => exact au14); (case side2 => exact HC0_0.out); (case side3 => exact au46); (case side4 => exact HC0_1.out); (case side5 => exact au42); (case side6 => exact HC0_7.out); rintro e w28 ⟨rfl, hb⟩; refine ⟨_, rfl, ?_⟩; have n0_ := Aside0.mk (Kd.R_below (au67) hb); have n1_ := Aside0.mk (blk_below (g := gb255) (o := .cells #[.slice A0_0 l0_0.length c0_0, .slice A0_1 l0_1.length c0_1, .int .u8 a0_2, .bool a0_3, .int .i64 a0_4, .int .i64 a0_5, .int .i64 a0_6, .slice A0_7 l0_7.length c0_7] 25 (0, 0)) (au9) hb); have n2_ := Aside0.mk (below_step (au2) hb); clear HO260; clear BK255; clear HB; have HO260 := n0_; have BK255 := n1_; have HB := n2_; clear n0_ n1_ n2_; (try clear hb); (try clear hb2); (try clear hk); (try clear hi)))
        go_meet
        case rel => exact ⟨_, (false), (au28), H', ⟨by have := HJ6.out; first | omega | exact Nat.le_refl _⟩, ⟨au67⟩, ⟨au9⟩, ⟨au2⟩⟩
       ·
        rw [if_neg c26] at H
        have c26b0 : (t261 == 0) = false := beq_eq_false_iff_ne.mpr c26
        have c26b1 : (t261 != 0) = true := bne_iff_ne.mpr c26
        (try (have c26q2 : t262 = false := by have h_ := c25b2; rw [c26b0] at h_; simpa using h_))
        by_cases c29 : t261 = 70
        ·
         rw [if_pos c29] at H
         have c29b0 : (t261 == 70) = true := beq_iff_eq.mpr c29
         have c29b1 : (t261 != 70) = false := bne_eq_false_iff_eq.mpr c29
         clear c29
         have H' := Aside0.mk H
         clear H
         obtain ⟨hcz30_0, hcz30_1, hcz30_2, hcz30_3, hcz30_4, hcz30_5, hcz30_6, hcz30_7, hfz30_0, hfz30_1, hfz30_2, hfz30_3, hfz30_4, hfz30_5, hfz30_6, hfz30_7⟩ := blk_all8 BK255.out
         go_wp2_with (first | ((with_reducible refine gate_callee (f := 14) rfl ?_); refine goesL_ (some 41) rfl rfl Try.func14 (by kernel_rfl) rfl #[.agg #[.slice A0_0 l0_0.length c0_0, .slice A0_1 l0_1.length c0_1, .int .u8 a0_2, .bool a0_3, .int .i64 a0_4, .int .i64 a0_5, .int .i64 a0_6, .slice A0_7 l0_7.length c0_7]] rfl (au3) ?_; (with_reducible refine (method_May.calls kj6 _ _ l0_0 _ _ l0_1 a0_2 a0_3 a0_4 a0_5 a0_6 _ _ l0_7 t262 _ ?side1 ?side2 ?side3 ?side4 ?side5 ?side6 A24.out).mono ?_); (case side1 => exact au14); (case side2 => exact HC0_0.out); (case side3 => exact au46); (case side4 => exact HC0_1.out); (case side5 => exact au42); (case side6 => exact HC0_7.out); rintro e w31 ⟨rfl, hb⟩; refine ⟨_, rfl, ?_⟩; have n0_ := Aside0.mk (Kd.R_below (au67) hb); have n1_ := Aside0.mk (blk_below (g := gb255) (o := .cells #[.slice A0_0 l0_0.length c0_0, .slice A0_1 l0_1.length c0_1, .int .u8 a0_2, .bool a0_3, .int .i64 a0_4, .int .i64 a0_5, .int .i64 a0_6, .slice A0_7 l0_7.length c0_7] 25 (0, 0)) (au9) hb); have n2_ := Aside0.mk (below_step (au2) hb); clear HO260; clear BK255; clear HB; have HO260 := n0_; have BK255 := n1_; have HB := n2_; clear n0_ n1_ n2_; (try clear hb); (try clear hb2); (try clear hk); (try clear hi); obtain ⟨Ao32, co32, eo32⟩ := Kd.R_slice HO260.out; subst eo32))
         go_meet
         case rel => exact ⟨_, (decide ((t258.length : Int) > 0)), (au28), H', ⟨by have := HJ6.out; first | omega | exact Nat.le_refl _⟩, ⟨au67⟩, ⟨au9⟩, ⟨au2⟩⟩
        ·
         rw [if_neg c29] at H
         exact absurd H (by simp)
     case rest =>
      clear HC21
      try clear c1
      try clear c2
      try clear p2
      try clear q2
      try clear c5
      try clear c6
      try clear c11
      try clear c14
      try clear c14b0
      try clear c14b1
      try clear c19
      try clear c21
      try clear c25
      try clear c25b0
      try clear c25b1
      try clear c25b2
      try clear c26
      try clear c26b0
      try clear c26b1
      try clear c28
      try clear c29
      try clear c29b0
      try clear c29b1
      try clear hcz12_0
      try clear hcz12_1
      try clear hcz12_2
      try clear hcz12_3
      try clear hcz12_4
      try clear hcz12_5
      try clear hcz12_6
      try clear hcz12_7
      try clear hcz15_0
      try clear hcz15_1
      try clear hcz15_2
      try clear hcz15_3
      try clear hcz15_4
      try clear hcz15_5
      try clear hcz15_6
      try clear hcz15_7
      try clear hcz17_0
      try clear hcz17_1
      try clear hcz17_2
      try clear hcz17_3
      try clear hcz17_4
      try clear hcz17_5
      try clear hcz17_6
      try clear hcz17_7
      try clear hcz22_0
      try clear hcz22_1
      try clear hcz22_2
      try clear hcz22_3
      try clear hcz22_4
      try clear hcz22_5
      try clear hcz22_6
      try clear hcz22_7
      try clear hcz27_0
      try clear hcz27_1
      try clear hcz27_2
      try clear hcz27_3
      try clear hcz27_4
      try clear hcz27_5
      try clear hcz27_6
      try clear hcz27_7
      try clear hcz30_0
      try clear hcz30_1
      try clear hcz30_2
      try clear hcz30_3
      try clear hcz30_4
      try clear hcz30_5
      try clear hcz30_6
      try clear hcz30_7
      try clear hfz12_0
      try clear hfz12_1
      try clear hfz12_2
      try clear hfz12_3
      try clear hfz12_4
      try clear hfz12_5
      try clear hfz12_6
      try clear hfz12_7
      try clear hfz15_0
      try clear hfz15_1
      try clear hfz15_2
      try clear hfz15_3
      try clear hfz15_4
      try clear hfz15_5
      try clear hfz15_6
      try clear hfz15_7
      try clear hfz17_0
      try clear hfz17_1
      try clear hfz17_2
      try clear hfz17_3
      try clear hfz17_4
      try clear hfz17_5
      try clear hfz17_6
      try clear hfz17_7
      try clear hfz22_0
      try clear hfz22_1
      try clear hfz22_2
      try clear hfz22_3
      try clear hfz22_4
      try clear hfz22_5
      try clear hfz22_6
      try clear hfz22_7
      try clear hfz27_0
      try clear hfz27_1
      try clear hfz27_2
      try clear hfz27_3
      try clear hfz27_4
      try clear hfz27_5
      try clear hfz27_6
      try clear hfz27_7
      try clear hfz30_0
      try clear hfz30_1
      try clear hfz30_2
      try clear hfz30_3
      try clear hfz30_4
      try clear hfz30_5
      try clear hfz30_6
      try clear hfz30_7
      try clear p2
      obtain ⟨kq, x55_20, rfl, HA, HJ20, HO_9, BK255, HB⟩ := hcut
      cases kq with
      | zero => exact absurd HA.out (by simp [capstanlaw07_MethodBack.j1])
      | succ kj20 =>
       have H := HA.out
       clear HA
       simp only [capstanlaw07_MethodBack.j1] at H
       by_cases c33 : x55_20 = true
       ·
        subst c33
        have H1 : (none) = some r := by rw [if_pos rfl] at H; exact H
        clear H
        have H := H1
        clear H1
        exact absurd H (by simp)
       ·
        replace c33 := Bool.eq_false_iff.mpr c33
        subst c33
        have H1 : (if t261 = 0 then ((some (([] : List Int) : List Int)).bind fun y263 => (if y263.length + l1.length < 140737488355328 then ((some (y263 ++ l1 : List Int)).bind fun y266 => (if y266.length + t258.length < 140737488355328 then ((some (y266 ++ t258 : List Int)).bind fun y269 => (if y269.length + l2.length < 140737488355328 then ((method_Read.f kj20 (y269 ++ l2) (l1.length : Int)).bind fun bt275 => (if bt275.2.2.2.2.2.2.2.2.2 = 0 then (if bt275.2.2.2.2.2.2.2.2.1 = (wrap64 ((l1.length : Int) + (t258.length : Int))) then ((method_Same.f kj20 bt275.1 bt275.2.1 bt275.2.2.1 bt275.2.2.2.1 bt275.2.2.2.2.1 bt275.2.2.2.2.2.1 bt275.2.2.2.2.2.2.1 bt275.2.2.2.2.2.2.2.1 l0_0 l0_1 a0_2 a0_3 a0_4 a0_5 a0_6 l0_7).bind fun t292 => (if t292 = true then (if (t258.length : Int) = 0 then (none) else (if 0 ≤ (wrap64 ((t258.length : Int) - 1)) then (if (wrap64 ((t258.length : Int) - 1)) ≤ (t258.length : Int) then ((capstanlaw07_told.f kj20 10 (t258.take ((wrap64 ((t258.length : Int) - 1)) : Int).toNat)).bind fun t297 => (if t297 = true then (capstanlaw07_MethodBack.j2 kj20 l2 a3) else (none))) else (none)) else (none))) else (none))) else (none)) else (none))) else (none))) else (none))) else (none))) else (capstanlaw07_MethodBack.j2 kj20 l2 a3)) = some r := by rw [if_neg (show ¬ (false = true) by decide)] at H; exact H
        clear H
        have H := H1
        clear H1
        have HC34 := Aside0.mk H
        clear H
        go_upto_if 57 with (fail)
        go_cut [] (fun wc => ∃ (kq : Nat), Aside0 (capstanlaw07_MethodBack.j2 kq l2 a3 = some r) ∧ Aside0 (kq ≤ kj20) ∧ Aside0 (wc.heap[gb255]? = some (.cells #[(.slice A0_0 l0_0.length c0_0), (.slice A0_1 l0_1.length c0_1), .int .u8 a0_2, .bool a0_3, .int .i64 a0_4, .int .i64 a0_5, .int .i64 a0_6, (.slice A0_7 l0_7.length c0_7)] 25 (0, 0))) ∧ Aside0 (Below w.heap.size w wc))
        case first =>
         have H := HC34.out
         clear HC34
         by_cases c35 : t261 = 0
         ·
          rw [if_pos c35] at H
          have c35b0 : (t261 == 0) = true := beq_iff_eq.mpr c35
          have c35b1 : (t261 != 0) = false := bne_eq_false_iff_eq.mpr c35
          clear c35
          (first | rw [c35b0] | (simp only [i64_w, i32_w]; rw [c35b0]) | skip)
          obtain ⟨y263, hy263⟩ : ∃ y_ : List Int, y_ = (([] : List Int)) := ⟨_, rfl⟩
          replace H : (if y263.length + l1.length < 140737488355328 then ((some (y263 ++ l1 : List Int)).bind fun y266 => (if y266.length + t258.length < 140737488355328 then ((some (y266 ++ t258 : List Int)).bind fun y269 => (if y269.length + l2.length < 140737488355328 then ((method_Read.f kj20 (y269 ++ l2) (l1.length : Int)).bind fun bt275 => (if bt275.2.2.2.2.2.2.2.2.2 = 0 then (if bt275.2.2.2.2.2.2.2.2.1 = (wrap64 ((l1.length : Int) + (t258.length : Int))) then ((method_Same.f kj20 bt275.1 bt275.2.1 bt275.2.2.1 bt275.2.2.2.1 bt275.2.2.2.2.1 bt275.2.2.2.2.2.1 bt275.2.2.2.2.2.2.1 bt275.2.2.2.2.2.2.2.1 l0_0 l0_1 a0_2 a0_3 a0_4 a0_5 a0_6 l0_7).bind fun t292 => (if t292 = true then (if (t258.length : Int) = 0 then (none) else (if 0 ≤ (wrap64 ((t258.length : Int) - 1)) then (if (wrap64 ((t258.length : Int) - 1)) ≤ (t258.length : Int) then ((capstanlaw07_told.f kj20 10 (t258.take ((wrap64 ((t258.length : Int) - 1)) : Int).toNat)).bind fun t297 => (if t297 = true then (capstanlaw07_MethodBack.j2 kj20 l2 a3) else (none))) else (none)) else (none))) else (none))) else (none)) else (none))) else (none))) else (none))) else (none)) = some r := by first | (rw [hy263]; with_reducible exact H) | (have H2_ := (Option.bind_some _ _).symm.trans H; rw [hy263]; with_reducible exact H2_) | (have H2_ := (Option.bind_some _ _).symm.trans H; with_reducible exact H2_) | with_reducible exact H | (rw [hy263]; exact H) | exact H
          have Ny263 := Aside0.mk hy263
          clear hy263
          by_cases c36 : y263.length + l1.length < 140737488355328
          ·
           rw [if_pos c36] at H
           have LMc36 := Aside0.mk c36
           clear c36
           obtain ⟨y266, hy266⟩ : ∃ y_ : List Int, y_ = (y263 ++ l1) := ⟨_, rfl⟩
           replace H : (if y266.length + t258.length < 140737488355328 then ((some (y266 ++ t258 : List Int)).bind fun y269 => (if y269.length + l2.length < 140737488355328 then ((method_Read.f kj20 (y269 ++ l2) (l1.length : Int)).bind fun bt275 => (if bt275.2.2.2.2.2.2.2.2.2 = 0 then (if bt275.2.2.2.2.2.2.2.2.1 = (wrap64 ((l1.length : Int) + (t258.length : Int))) then ((method_Same.f kj20 bt275.1 bt275.2.1 bt275.2.2.1 bt275.2.2.2.1 bt275.2.2.2.2.1 bt275.2.2.2.2.2.1 bt275.2.2.2.2.2.2.1 bt275.2.2.2.2.2.2.2.1 l0_0 l0_1 a0_2 a0_3 a0_4 a0_5 a0_6 l0_7).bind fun t292 => (if t292 = true then (if (t258.length : Int) = 0 then (none) else (if 0 ≤ (wrap64 ((t258.length : Int) - 1)) then (if (wrap64 ((t258.length : Int) - 1)) ≤ (t258.length : Int) then ((capstanlaw07_told.f kj20 10 (t258.take ((wrap64 ((t258.length : Int) - 1)) : Int).toNat)).bind fun t297 => (if t297 = true then (capstanlaw07_MethodBack.j2 kj20 l2 a3) else (none))) else (none)) else (none))) else (none))) else (none)) else (none))) else (none))) else (none)) = some r := by first | (rw [hy266]; with_reducible exact H) | (have H2_ := (Option.bind_some _ _).symm.trans H; rw [hy266]; with_reducible exact H2_) | (have H2_ := (Option.bind_some _ _).symm.trans H; with_reducible exact H2_) | with_reducible exact H | (rw [hy266]; exact H) | exact H
           have Ny266 := Aside0.mk hy266
           clear hy266
           by_cases c37 : y266.length + t258.length < 140737488355328
           ·
            rw [if_pos c37] at H
            have LMc37 := Aside0.mk c37
            clear c37
            obtain ⟨y269, hy269⟩ : ∃ y_ : List Int, y_ = (y266 ++ t258) := ⟨_, rfl⟩
            replace H : (if y269.length + l2.length < 140737488355328 then ((method_Read.f kj20 (y269 ++ l2) (l1.length : Int)).bind fun bt275 => (if bt275.2.2.2.2.2.2.2.2.2 = 0 then (if bt275.2.2.2.2.2.2.2.2.1 = (wrap64 ((l1.length : Int) + (t258.length : Int))) then ((method_Same.f kj20 bt275.1 bt275.2.1 bt275.2.2.1 bt275.2.2.2.1 bt275.2.2.2.2.1 bt275.2.2.2.2.2.1 bt275.2.2.2.2.2.2.1 bt275.2.2.2.2.2.2.2.1 l0_0 l0_1 a0_2 a0_3 a0_4 a0_5 a0_6 l0_7).bind fun t292 => (if t292 = true then (if (t258.length : Int) = 0 then (none) else (if 0 ≤ (wrap64 ((t258.length : Int) - 1)) then (if (wrap64 ((t258.length : Int) - 1)) ≤ (t258.length : Int) then ((capstanlaw07_told.f kj20 10 (t258.take ((wrap64 ((t258.length : Int) - 1)) : Int).toNat)).bind fun t297 => (if t297 = true then (capstanlaw07_MethodBack.j2 kj20 l2 a3) else (none))) else (none)) else (none))) else (none))) else (none)) else (none))) else (none)) = some r := by first | (rw [hy269]; with_reducible exact H) | (have H2_ := (Option.bind_some _ _).symm.trans H; rw [hy269]; with_reducible exact H2_) | (have H2_ := (Option.bind_some _ _).symm.trans H; with_reducible exact H2_) | with_reducible exact H | (rw [hy269]; exact H) | exact H
            have Ny269 := Aside0.mk hy269
            clear hy269
            by_cases c38 : y269.length + l2.length < 140737488355328
            ·
             rw [if_pos c38] at H
             have LMc38 := Aside0.mk c38
             clear c38
             obtain ⟨y272, hy272⟩ : ∃ y_ : List Int, y_ = (y269 ++ l2) := ⟨_, rfl⟩
             replace H : ((method_Read.f kj20 y272 (l1.length : Int)).bind fun bt275 => (if bt275.2.2.2.2.2.2.2.2.2 = 0 then (if bt275.2.2.2.2.2.2.2.2.1 = (wrap64 ((l1.length : Int) + (t258.length : Int))) then ((method_Same.f kj20 bt275.1 bt275.2.1 bt275.2.2.1 bt275.2.2.2.1 bt275.2.2.2.2.1 bt275.2.2.2.2.2.1 bt275.2.2.2.2.2.2.1 bt275.2.2.2.2.2.2.2.1 l0_0 l0_1 a0_2 a0_3 a0_4 a0_5 a0_6 l0_7).bind fun t292 => (if t292 = true then (if (t258.length : Int) = 0 then (none) else (if 0 ≤ (wrap64 ((t258.length : Int) - 1)) then (if (wrap64 ((t258.length : Int) - 1)) ≤ (t258.length : Int) then ((capstanlaw07_told.f kj20 10 (t258.take ((wrap64 ((t258.length : Int) - 1)) : Int).toNat)).bind fun t297 => (if t297 = true then (capstanlaw07_MethodBack.j2 kj20 l2 a3) else (none))) else (none)) else (none))) else (none))) else (none)) else (none))) = some r := by first | (rw [hy272]; with_reducible exact H) | (have H2_ := (Option.bind_some _ _).symm.trans H; rw [hy272]; with_reducible exact H2_) | (have H2_ := (Option.bind_some _ _).symm.trans H; with_reducible exact H2_) | with_reducible exact H | (rw [hy272]; exact H) | exact H
             have Ny272 := Aside0.mk hy272
             clear hy272
             replace H := Option.bind_eq_some_iff.mp H
             obtain ⟨⟨t275, t278, t281, t282, t283, t284, t285, t286, t289, t290⟩, A390, H⟩ := H
             replace H : (if t290 = 0 then (if t289 = (wrap64 ((l1.length : Int) + (t258.length : Int))) then ((method_Same.f kj20 t275 t278 t281 t282 t283 t284 t285 t286 l0_0 l0_1 a0_2 a0_3 a0_4 a0_5 a0_6 l0_7).bind fun t292 => (if t292 = true then (if (t258.length : Int) = 0 then (none) else (if 0 ≤ (wrap64 ((t258.length : Int) - 1)) then (if (wrap64 ((t258.length : Int) - 1)) ≤ (t258.length : Int) then ((capstanlaw07_told.f kj20 10 (t258.take ((wrap64 ((t258.length : Int) - 1)) : Int).toNat)).bind fun t297 => (if t297 = true then (capstanlaw07_MethodBack.j2 kj20 l2 a3) else (none))) else (none)) else (none))) else (none))) else (none)) else (none)) = some r := H
             have A39 := Aside0.mk A390
             clear A390
             by_cases c40 : t290 = 0
             ·
              rw [if_pos c40] at H
              have c40b0 : (t290 == 0) = true := beq_iff_eq.mpr c40
              have c40b1 : (t290 != 0) = false := bne_eq_false_iff_eq.mpr c40
              clear c40
              by_cases c41 : t289 = (wrap64 ((l1.length : Int) + (t258.length : Int)))
              ·
               rw [if_pos c41] at H
               have c41b0 : (t289 == (wrap64 ((l1.length : Int) + (t258.length : Int)))) = true := beq_iff_eq.mpr c41
               have c41b1 : (t289 != (wrap64 ((l1.length : Int) + (t258.length : Int)))) = false := bne_eq_false_iff_eq.mpr c41
               clear c41
               replace H := Option.bind_eq_some_iff.mp H
               obtain ⟨t292, A420, H⟩ := H
               replace H : (if t292 = true then (if (t258.length : Int) = 0 then (none) else (if 0 ≤ (wrap64 ((t258.length : Int) - 1)) then (if (wrap64 ((t258.length : Int) - 1)) ≤ (t258.length : Int) then ((capstanlaw07_told.f kj20 10 (t258.take ((wrap64 ((t258.length : Int) - 1)) : Int).toNat)).bind fun t297 => (if t297 = true then (capstanlaw07_MethodBack.j2 kj20 l2 a3) else (none))) else (none)) else (none))) else (none)) = some r := H
               have A42 := Aside0.mk A420
               clear A420
               by_cases c43 : t292 = true
               ·
                subst c43
                have H1 : (if (t258.length : Int) = 0 then (none) else (if 0 ≤ (wrap64 ((t258.length : Int) - 1)) then (if (wrap64 ((t258.length : Int) - 1)) ≤ (t258.length : Int) then ((capstanlaw07_told.f kj20 10 (t258.take ((wrap64 ((t258.length : Int) - 1)) : Int).toNat)).bind fun t297 => (if t297 = true then (capstanlaw07_MethodBack.j2 kj20 l2 a3) else (none))) else (none)) else (none))) = some r := by rw [if_pos rfl] at H; exact H
                clear H
                have H := H1
                clear H1
                by_cases c44 : (t258.length : Int) = 0
                ·
                 rw [if_pos c44] at H
                 exact absurd H (by simp)
                ·
                 rw [if_neg c44] at H
                 have c44b0 : ((t258.length : Int) == 0) = false := beq_eq_false_iff_ne.mpr c44
                 have c44b1 : ((t258.length : Int) != 0) = true := bne_iff_ne.mpr c44
                 have c44b2 : ¬ (t258 = []) := fun h_ => c44 (by rw [h_]; rfl)
                 obtain ⟨ji45, hji45⟩ : ∃ j_ : Int, (wrap64 ((t258.length : Int) - 1)) = j_ := ⟨_, rfl⟩
                 replace H : (if 0 ≤ (ji45) then (if (ji45) ≤ (t258.length : Int) then ((capstanlaw07_told.f kj20 10 (t258.take ((ji45) : Int).toNat)).bind fun t297 => (if t297 = true then (capstanlaw07_MethodBack.j2 kj20 l2 a3) else (none))) else (none)) else (none)) = some r := by first | (rw [hji45] at H; exact H) | (simp only [hji45] at H ⊢; exact H)
                 (try rw [hji45] at A39)
                 (try rw [hji45] at A42)
                 have hji45w : (IntKind.i64.wrap ((t258.length : Int) - 1)) = ji45 := (i64_w _).trans hji45
                 by_cases c46 : 0 ≤ (ji45)
                 ·
                  rw [if_pos c46] at H
                  have c46b0 := eq_true c46
                  have c46b1 : decide (0 ≤ (ji45)) = true := decide_eq_true c46
                  clear c46
                  by_cases c47 : (ji45) ≤ (t258.length : Int)
                  ·
                   rw [if_pos c47] at H
                   have c47b0 := eq_true c47
                   have c47b1 : decide ((ji45) ≤ (t258.length : Int)) = true := decide_eq_true c47
                   clear c47
                   obtain ⟨y293, hy293⟩ : ∃ y_ : List Int, y_ = (t258.take ((ji45) : Int).toNat) := ⟨_, rfl⟩
                   replace H : ((capstanlaw07_told.f kj20 10 y293).bind fun t297 => (if t297 = true then (capstanlaw07_MethodBack.j2 kj20 l2 a3) else (none))) = some r := by first | (rw [hy293]; with_reducible exact H) | (have H2_ := (Option.bind_some _ _).symm.trans H; rw [hy293]; with_reducible exact H2_) | (have H2_ := (Option.bind_some _ _).symm.trans H; with_reducible exact H2_) | with_reducible exact H | (rw [hy293]; exact H) | exact H
                   have Ny293 := Aside0.mk hy293
                   clear hy293
                   replace H := Option.bind_eq_some_iff.mp H
                   obtain ⟨t297, A480, H⟩ := H
                   replace H : (if t297 = true then (capstanlaw07_MethodBack.j2 kj20 l2 a3) else (none)) = some r := H
                   have A48 := Aside0.mk A480
                   clear A480
                   by_cases c49 : t297 = true
                   ·
                    subst c49
                    have H1 : (capstanlaw07_MethodBack.j2 kj20 l2 a3) = some r := by rw [if_pos rfl] at H; exact H
                    clear H
                    have H := H1
                    clear H1
                    have H' := Aside0.mk H
                    clear H
                    go_wp2_with (first | ((with_reducible refine gate_dst (N := 59) rfl ?_); (try (refine gate_guard (by rfl) ?_; dsimp only)); refine Kd.R_lit (Kd.int .u8) _ 5 ?hg (N := 59) ?hd (xs := ([] : List Int)) (inner := []) (ok := fun _ => True) (okp := fun _ => True) ?hr ?hp (fun _ hk => hk) trivial (Below.refl _ _) (Nat.le_refl _) (by simp) ?_; (case hd => rfl); (case hg => rfl); (case hr => first | (go_simp; done) | (go_simp; rfl)); (case hp => exact (Reps.none _ _)); intro v264 w50 ho51 hb hg_ hnew_; clear hg_ hnew_; (first | rw [← Ny263.out] at ho51 | (simp only [Int.reduceToNat] at ho51; rw [← Ny263.out] at ho51)); have n0_ := Aside0.mk (Kd.R_elder' (au25) (Kd.R_base ho51) hb); have n1_ := Aside0.mk (Kd.R_lower (Kd.R_new' ho51 (Kd.R_lt (au25))) (below_size (au2))); have n2_ := Aside0.mk (blk_below (g := gb255) (o := .cells #[.slice A0_0 l0_0.length c0_0, .slice A0_1 l0_1.length c0_1, .int .u8 a0_2, .bool a0_3, .int .i64 a0_4, .int .i64 a0_5, .int .i64 a0_6, .slice A0_7 l0_7.length c0_7] 25 (0, 0)) (au9) hb); have n3_ := Aside0.mk (below_step (au2) hb); clear HO_9; clear BK255; clear HB; have HO_9 := n0_; have HO265 := n1_; have BK255 := n2_; have HB := n3_; clear n0_ n1_ n2_ n3_; clear hb ho51) | ((with_reducible refine gate_builtin (b := .append) (xs := #[.tmp 59, .tmp 60]) rfl ?_); (try (refine gate_guard (by rfl) ?_; dsimp only)); at_builtin; refine Kd.R_append_rows (Kd.int .u8) (w0 := w) w.heap.size rfl (.tmp 59) (.tmp 60) 22 5 (.int .u8 0) 1 rfl Try.underlying22 info5 rfl (by decide) (by omega) v264 y263 l1 _ _ _ (fun k_ => some k_ ≠ (v259 : Value).ownBlock) (fun _ => False) rfl rfl ?aO ?aR (fun _ _ h => h) (fun _ h => h.elim) ?aF ?aB ?aS ?aL ?_; (case aR => repeat (first | exact (Kd.C_below HR1.out HB.out) | (with_reducible refine Kd.C_alloc ?_ _) | (with_reducible refine Kd.C_drewN ?_ _) | (with_reducible refine Kd.C_drew ?_))); (case aB => exact (au2)); (case aF => exact (fun k_ hk => Kd.fresh' (Kd.R_lt (au25)) k_ hk)); (case aO => exact (by (with_reducible repeat (first | apply Kd.R_alloc | apply Kd.R_drewN | apply Kd.R_drew)); first | exact Kd.R_mono HO265.out (fun _ hk => hk.2) | exact Kd.R_mono (Kd.R_mono HO265.out (fun _ hk => hk.2)) (fun _ h_ => h_.2))); (case aS => exact (below_size (au2))); (case aL => have := LMc36.out; omega); intro v267 w52 ho hb hg hat; rw [← Ny266.out] at ho; have n0_ := Aside0.mk (Kd.R_after (ok := (fun _ => True)) (au25) hg hat); have n1_ := Aside0.mk (blk_grown (g := gb255) (o := .cells #[.slice A0_0 l0_0.length c0_0, .slice A0_1 l0_1.length c0_1, .int .u8 a0_2, .bool a0_3, .int .i64 a0_4, .int .i64 a0_5, .int .i64 a0_6, .slice A0_7 l0_7.length c0_7] 25 (0, 0)) (au9) hg (Kd.R_ne HO265.out BK255.out (by decide))); have n2_ := Aside0.mk (hb); have n3_ := Aside0.mk (ho); clear HO_9; clear BK255; clear HB; clear HO265; have HO_9 := n0_; have BK255 := n1_; have HB := n2_; have HO268 := n3_; clear n0_ n1_ n2_ n3_; clear ho hb hg hat; obtain ⟨Ao54, co54, eo54⟩ := Kd.R_slice HO_9.out; subst eo54) | ((with_reducible refine gate_builtin (b := .append) (xs := #[.tmp 61, .tmp 62]) rfl ?_); (try (refine gate_guard (by rfl) ?_; dsimp only)); at_builtin; refine Kd.R_append_rows (Kd.int .u8) (w0 := w) w.heap.size rfl (.tmp 61) (.tmp 62) 22 5 (.int .u8 0) 1 rfl Try.underlying22 info5 rfl (by decide) (by omega) v267 y266 t258 _ _ _ (fun k_ => some k_ ≠ (.slice Ao54 t258.length co54 : Value).ownBlock) (fun _ => False) rfl rfl ?aO ?aR (fun _ _ h => h) (fun _ h => h.elim) ?aF ?aB ?aS ?aL ?_; (case aR => repeat (first | exact (Kd.R_reads' HO_9.out).2.2 | (with_reducible refine Kd.C_alloc ?_ _) | (with_reducible refine Kd.C_drewN ?_ _) | (with_reducible refine Kd.C_drew ?_))); (case aB => exact (au2)); (case aF => exact (fun k_ hk => Kd.fresh' (Kd.R_lt (au25)) k_ hk)); (case aO => exact (by (with_reducible repeat (first | apply Kd.R_alloc | apply Kd.R_drewN | apply Kd.R_drew)); first | exact HO268.out | exact Kd.R_mono (HO268.out) (fun _ h_ => h_.2))); (case aS => exact (below_size (au2))); (case aL => have := LMc37.out; omega); intro v270 w53 ho hb hg hat; rw [← Ny269.out] at ho; have n0_ := Aside0.mk (Kd.R_after (ok := (fun _ => True)) (au25) hg hat); have n1_ := Aside0.mk (blk_grown (g := gb255) (o := .cells #[.slice A0_0 l0_0.length c0_0, .slice A0_1 l0_1.length c0_1, .int .u8 a0_2, .bool a0_3, .int .i64 a0_4, .int .i64 a0_5, .int .i64 a0_6, .slice A0_7 l0_7.length c0_7] 25 (0, 0)) (au9) hg (Kd.R_ne HO268.out BK255.out (by decide))); have n2_ := Aside0.mk (hb); have n3_ := Aside0.mk (ho); clear HO_9; clear BK255; clear HB; clear HO268; have HO_9 := n0_; have BK255 := n1_; have HB := n2_; have HO271 := n3_; clear n0_ n1_ n2_ n3_; clear ho hb hg hat) | ((with_reducible refine gate_builtin (b := .append) (xs := #[.tmp 63, .tmp 64]) rfl ?_); (try (refine gate_guard (by rfl) ?_; dsimp only)); at_builtin; refine Kd.R_append_rows (Kd.int .u8) (w0 := w) w.heap.size rfl (.tmp 63) (.tmp 64) 22 5 (.int .u8 0) 1 rfl Try.underlying22 info5 rfl (by decide) (by omega) v270 y269 l2 _ _ _ (fun k_ => some k_ ≠ (.slice Ao54 t258.length co54 : Value).ownBlock) (fun _ => False) rfl rfl ?aO ?aR (fun _ _ h => h) (fun _ h => h.elim) ?aF ?aB ?aS ?aL ?_; (case aR => repeat (first | exact (Kd.C_below HR2.out HB.out) | (with_reducible refine Kd.C_alloc ?_ _) | (with_reducible refine Kd.C_drewN ?_ _) | (with_reducible refine Kd.C_drew ?_))); (case aB => exact (au2)); (case aF => exact (fun k_ hk => Kd.fresh' (Kd.R_lt (au25)) k_ hk)); (case aO => exact (by (with_reducible repeat (first | apply Kd.R_alloc | apply Kd.R_drewN | apply Kd.R_drew)); first | exact HO271.out | exact Kd.R_mono (HO271.out) (fun _ h_ => h_.2))); (case aS => exact (below_size (au2))); (case aL => have := LMc38.out; omega); intro v273 w55 ho hb hg hat; rw [← Ny272.out] at ho; have n0_ := Aside0.mk (Kd.R_after (ok := (fun _ => True)) (au25) hg hat); have n1_ := Aside0.mk (blk_grown (g := gb255) (o := .cells #[.slice A0_0 l0_0.length c0_0, .slice A0_1 l0_1.length c0_1, .int .u8 a0_2, .bool a0_3, .int .i64 a0_4, .int .i64 a0_5, .int .i64 a0_6, .slice A0_7 l0_7.length c0_7] 25 (0, 0)) (au9) hg (Kd.R_ne HO271.out BK255.out (by decide))); have n2_ := Aside0.mk (hb); have n3_ := Aside0.mk (ho); clear HO_9; clear BK255; clear HB; clear HO271; have HO_9 := n0_; have BK255 := n1_; have HB := n2_; have HO274 := n3_; clear n0_ n1_ n2_ n3_; clear ho hb hg hat; obtain ⟨Ao56, co56, eo56⟩ := Kd.R_slice HO274.out; subst eo56) | ((with_reducible refine gate_callee (f := 8) rfl ?_); refine goesL_ (some 68) rfl rfl Try.func8 (by kernel_rfl) rfl #[.slice Ao56 y272.length co56, .int .i64 (l1.length : Int)] rfl (au3) ?_; (with_reducible refine (method_Read.calls kj20 _ _ y272 (l1.length : Int) t275 t278 t281 t282 t283 t284 t285 t286 t289 t290 _ ?side1 ?side2 A39.out).mono ?_); (case side1 => repeat (first | exact (Kd.R_reads' HO274.out).2.2 | (with_reducible refine Kd.C_alloc ?_ _) | (with_reducible refine Kd.C_drewN ?_ _) | (with_reducible refine Kd.C_drew ?_))); (case side2 => exact (Kd.R_reads' HO274.out).2.1); rintro e w57 ⟨v276, v279, v287, rfl, ho0, ho1, ho2, hb⟩; refine ⟨_, rfl, ?_⟩; have n0_ := Aside0.mk (Kd.R_mono (Kd.R_told (Kd.R_told (Kd.R_old (au25) hb) (Kd.R_base ho0)) (Kd.R_base ho1)) (fun _ h_ => h_.1)); have n1_ := Aside0.mk (Kd.R_mono (Kd.R_told (Kd.R_told (Kd.R_old (au57) hb) (Kd.R_base ho0)) (Kd.R_base ho1)) (fun _ h_ => h_.1)); have n2_ := Aside0.mk (Kd.R_lower (Kd.R_new' (Kd.R_new' ho0 (Kd.R_lt (au25))) (Kd.R_lt (au57))) (below_size (au2))); have n3_ := Aside0.mk (Kd.R_lower (Kd.R_new' (Kd.R_new' ho1 (Kd.R_lt (au25))) (Kd.R_lt (au57))) (below_size (au2))); have n4_ := Aside0.mk (Kd.R_lower ho2 (below_size (au2))); have n5_ := Aside0.mk (blk_below (g := gb255) (o := .cells #[.slice A0_0 l0_0.length c0_0, .slice A0_1 l0_1.length c0_1, .int .u8 a0_2, .bool a0_3, .int .i64 a0_4, .int .i64 a0_5, .int .i64 a0_6, .slice A0_7 l0_7.length c0_7] 25 (0, 0)) (au9) hb); have n6_ := Aside0.mk (below_step (au2) hb); clear HO_9; clear HO274; clear BK255; clear HB; have HO_9 := n0_; have HO274 := n1_; have HO277 := n2_; have HO280 := n3_; have HO288 := n4_; have BK255 := n5_; have HB := n6_; clear n0_ n1_ n2_ n3_ n4_ n5_ n6_; (try clear hb); (try clear hb2); (try clear hk); (try clear hi); (try clear ho0); (try clear ho1); (try clear ho2)) | ((with_reducible refine gate_dst (N := 11) rfl ?_); (try (refine gate_guard (by rfl) ?_; dsimp only)); refine box_event ?hg (N := 11) ?hd (cs := #[.slice none 0 0, .slice none 0 0, .int .u8 0, .bool false, .int .i64 0, .int .i64 0, .int .i64 0, .slice none 0 0]) (t := 25) ?hr ?_; (case hd => rfl); (case hg => rfl); (case hr => first | (go_simp; done) | (go_simp; rfl)); intro gb291 hg w58 hbox hb; have n0_ := Aside0.mk (Kd.R_below (au25) hb); have n1_ := Aside0.mk (Kd.R_below (au57) hb); have n2_ := Aside0.mk (Kd.R_below (by (with_reducible repeat (first | apply Kd.R_alloc | apply Kd.R_drewN | apply Kd.R_drew)); first | exact HO277.out | exact Kd.R_mono (HO277.out) (fun _ h_ => h_.2)) hb); have n3_ := Aside0.mk (Kd.R_below (by (with_reducible repeat (first | apply Kd.R_alloc | apply Kd.R_drewN | apply Kd.R_drew)); first | exact HO280.out | exact Kd.R_mono (HO280.out) (fun _ h_ => h_.2)) hb); have n4_ := Aside0.mk (Kd.R_below (by (with_reducible repeat (first | apply Kd.R_alloc | apply Kd.R_drewN | apply Kd.R_drew)); first | exact HO288.out | exact Kd.R_mono (HO288.out) (fun _ h_ => h_.2)) hb); have n5_ := Aside0.mk (blk_below (g := gb255) (o := .cells #[.slice A0_0 l0_0.length c0_0, .slice A0_1 l0_1.length c0_1, .int .u8 a0_2, .bool a0_3, .int .i64 a0_4, .int .i64 a0_5, .int .i64 a0_6, .slice A0_7 l0_7.length c0_7] 25 (0, 0)) (au9) hb); have n6_ := Aside0.mk (below_step (au2) hb); have n7_ := Aside0.mk (hbox); have n8_ := Aside0.mk ((by rw [hg]; exact (below_size (au2)) : w.heap.size ≤ gb291)); have n9_ := Aside0.mk ((by rw [hg]; exact (below_size (au2)) : w.heap.size ≤ gb291)); have n10_ := Aside0.mk ((au63 : gb255 ≠ gb291)); have n11_ := Aside0.mk ((au64 : gb291 ≠ gb255)); clear HO_9; clear HO274; clear HO277; clear HO280; clear HO288; clear BK255; clear HB; have HO_9 := n0_; have HO274 := n1_; have HO277 := n2_; have HO280 := n3_; have HO288 := n4_; have BK255 := n5_; have HB := n6_; have BK291 := n7_; have GW291 := n8_; have GE291 := n9_; have NB255_291 := n10_; have NB291_255 := n11_; clear n0_ n1_ n2_ n3_ n4_ n5_ n6_ n7_ n8_ n9_ n10_ n11_; clear hb hbox hg; obtain ⟨Ao59, co59, eo59⟩ := Kd.R_slice HO277.out; subst eo59; have hnb60 := NB291_255.out; have hnc60 := NB255_291.out; obtain ⟨hcz61_0, hcz61_1, hcz61_2, hcz61_3, hcz61_4, hcz61_5, hcz61_6, hcz61_7, hfz61_0, hfz61_1, hfz61_2, hfz61_3, hfz61_4, hfz61_5, hfz61_6, hfz61_7⟩ := blk_all8 BK291.out; obtain ⟨Ao62, co62, eo62⟩ := Kd.R_slice HO280.out; subst eo62; obtain ⟨Ao63, co63, eo63⟩ := Kd.R_slice HO288.out; subst eo63; obtain ⟨hcz64_0, hcz64_1, hcz64_2, hcz64_3, hcz64_4, hcz64_5, hcz64_6, hcz64_7, hfz64_0, hfz64_1, hfz64_2, hfz64_3, hfz64_4, hfz64_5, hfz64_6, hfz64_7⟩ := blk_all8 BK255.out) | ((fail_if_success (have h_ := w65)); go_at_call 20; (with_reducible refine (method_Same.calls kj20 _ _ t275 _ _ t278 t281 t282 t283 t284 t285 _ _ t286 _ _ l0_0 _ _ l0_1 a0_2 a0_3 a0_4 a0_5 a0_6 _ _ l0_7 true _ ?side1 ?side2 ?side3 ?side4 ?side5 ?side6 ?side7 ?side8 ?side9 ?side10 ?side11 ?side12 A42.out).mono ?_); (case side1 => refine (Kd.R_reads' (e := 5) (base := w.heap.size) (ok := fun k_ => ((some k_ ≠ (.slice Ao62 t278.length co62 : Value).ownBlock ∧ some k_ ≠ (.slice Ao54 t258.length co54 : Value).ownBlock) ∧ some k_ ≠ (.slice Ao56 y272.length co56 : Value).ownBlock)) (n := t275.length) (c := co59) ?_).2.2; exact (au30)); (case side2 => exact (Kd.R_reads' HO277.out).2.1); (case side3 => refine (Kd.R_reads' (e := 5) (base := w.heap.size) (ok := fun k_ => ((some k_ ≠ (.slice Ao59 t275.length co59 : Value).ownBlock ∧ some k_ ≠ (.slice Ao54 t258.length co54 : Value).ownBlock) ∧ some k_ ≠ (.slice Ao56 y272.length co56 : Value).ownBlock)) (n := t278.length) (c := co62) ?_).2.2; exact (au31)); (case side4 => exact (Kd.R_reads' HO280.out).2.1); (case side5 => refine (Kd.R_reads' (e := 114) (base := w.heap.size) (ok := fun k_ => True) (n := t286.length) (c := co63) ?_).2.2; exact (au32)); (case side6 => exact (Kd.R_reads' HO288.out).2.1); (case side7 => exact Kd.C_below HR0_0.out (au43)); (case side8 => exact HC0_0.out); (case side9 => exact Kd.C_below HR0_1.out (au43)); (case side10 => exact HC0_1.out); (case side11 => exact Kd.C_below HR0_7.out (au43)); (case side12 => exact HC0_7.out); rintro e w65 ⟨rfl, hb⟩; have n0_ := Aside0.mk (Kd.R_below (by (with_reducible repeat (first | apply Kd.R_alloc | apply Kd.R_drewN | apply Kd.R_drew)); first | exact (Kd.R_mono (Kd.R_far (p := ⟨gb291, 7, none⟩) (Kd.R_far (p := ⟨gb291, 6, none⟩) (Kd.R_far (p := ⟨gb291, 5, none⟩) (Kd.R_far (p := ⟨gb291, 4, none⟩) (Kd.R_far (p := ⟨gb291, 3, none⟩) (Kd.R_far (p := ⟨gb291, 2, none⟩) (Kd.R_far (p := ⟨gb291, 1, none⟩) (Kd.R_far (p := ⟨gb291, 0, none⟩) (Kd.R_types HO_9.out BK291.out (by decide)) (fun _ hk => hk.2) (.slice Ao59 t275.length co59)) (fun _ hk => hk.2) (.slice Ao62 t278.length co62)) (fun _ hk => hk.2) (.int .u8 t281)) (fun _ hk => hk.2) (.bool t282)) (fun _ hk => hk.2) (.int .i64 t283)) (fun _ hk => hk.2) (.int .i64 t284)) (fun _ hk => hk.2) (.int .i64 t285)) (fun _ hk => hk.2) (.slice Ao63 t286.length co63)) (fun _ h_ => h_.1)) | exact Kd.R_mono ((Kd.R_mono (Kd.R_far (p := ⟨gb291, 7, none⟩) (Kd.R_far (p := ⟨gb291, 6, none⟩) (Kd.R_far (p := ⟨gb291, 5, none⟩) (Kd.R_far (p := ⟨gb291, 4, none⟩) (Kd.R_far (p := ⟨gb291, 3, none⟩) (Kd.R_far (p := ⟨gb291, 2, none⟩) (Kd.R_far (p := ⟨gb291, 1, none⟩) (Kd.R_far (p := ⟨gb291, 0, none⟩) (Kd.R_types HO_9.out BK291.out (by decide)) (fun _ hk => hk.2) (.slice Ao59 t275.length co59)) (fun _ hk => hk.2) (.slice Ao62 t278.length co62)) (fun _ hk => hk.2) (.int .u8 t281)) (fun _ hk => hk.2) (.bool t282)) (fun _ hk => hk.2) (.int .i64 t283)) (fun _ hk => hk.2) (.int .i64 t284)) (fun _ hk => hk.2) (.int .i64 t285)) (fun _ hk => hk.2) (.slice Ao63 t286.length co63)) (fun _ h_ => h_.1))) (fun _ h_ => h_.2)) hb); have n1_ := Aside0.mk (Kd.R_below (by (with_reducible repeat (first | apply Kd.R_alloc | apply Kd.R_drewN | apply Kd.R_drew)); first | exact (Kd.R_mono (Kd.R_far (p := ⟨gb291, 7, none⟩) (Kd.R_far (p := ⟨gb291, 6, none⟩) (Kd.R_far (p := ⟨gb291, 5, none⟩) (Kd.R_far (p := ⟨gb291, 4, none⟩) (Kd.R_far (p := ⟨gb291, 3, none⟩) (Kd.R_far (p := ⟨gb291, 2, none⟩) (Kd.R_far (p := ⟨gb291, 1, none⟩) (Kd.R_far (p := ⟨gb291, 0, none⟩) (Kd.R_types HO274.out BK291.out (by decide)) (fun _ hk => hk.2) (.slice Ao59 t275.length co59)) (fun _ hk => hk.2) (.slice Ao62 t278.length co62)) (fun _ hk => hk.2) (.int .u8 t281)) (fun _ hk => hk.2) (.bool t282)) (fun _ hk => hk.2) (.int .i64 t283)) (fun _ hk => hk.2) (.int .i64 t284)) (fun _ hk => hk.2) (.int .i64 t285)) (fun _ hk => hk.2) (.slice Ao63 t286.length co63)) (fun _ h_ => h_.1)) | exact Kd.R_mono ((Kd.R_mono (Kd.R_far (p := ⟨gb291, 7, none⟩) (Kd.R_far (p := ⟨gb291, 6, none⟩) (Kd.R_far (p := ⟨gb291, 5, none⟩) (Kd.R_far (p := ⟨gb291, 4, none⟩) (Kd.R_far (p := ⟨gb291, 3, none⟩) (Kd.R_far (p := ⟨gb291, 2, none⟩) (Kd.R_far (p := ⟨gb291, 1, none⟩) (Kd.R_far (p := ⟨gb291, 0, none⟩) (Kd.R_types HO274.out BK291.out (by decide)) (fun _ hk => hk.2) (.slice Ao59 t275.length co59)) (fun _ hk => hk.2) (.slice Ao62 t278.length co62)) (fun _ hk => hk.2) (.int .u8 t281)) (fun _ hk => hk.2) (.bool t282)) (fun _ hk => hk.2) (.int .i64 t283)) (fun _ hk => hk.2) (.int .i64 t284)) (fun _ hk => hk.2) (.int .i64 t285)) (fun _ hk => hk.2) (.slice Ao63 t286.length co63)) (fun _ h_ => h_.1))) (fun _ h_ => h_.2)) hb); have n2_ := Aside0.mk (Kd.R_below (au30) hb); have n3_ := Aside0.mk (Kd.R_below (au31) hb); have n4_ := Aside0.mk (Kd.R_below (au32) hb); have n5_ := Aside0.mk (blk_below (g := gb255) (o := .cells #[.slice A0_0 l0_0.length c0_0, .slice A0_1 l0_1.length c0_1, .int .u8 a0_2, .bool a0_3, .int .i64 a0_4, .int .i64 a0_5, .int .i64 a0_6, .slice A0_7 l0_7.length c0_7] 25 (0, 0)) (by (with_reducible repeat (first | refine blk_drewN ?_ _ | refine blk_drew ?_ | refine blk_alloc ?_ _)); refine blk_far ?_ NB255_291.out _; (with_reducible repeat (first | refine blk_drewN ?_ _ | refine blk_drew ?_ | refine blk_alloc ?_ _)); refine blk_far ?_ NB255_291.out _; (with_reducible repeat (first | refine blk_drewN ?_ _ | refine blk_drew ?_ | refine blk_alloc ?_ _)); refine blk_far ?_ NB255_291.out _; (with_reducible repeat (first | refine blk_drewN ?_ _ | refine blk_drew ?_ | refine blk_alloc ?_ _)); refine blk_far ?_ NB255_291.out _; (with_reducible repeat (first | refine blk_drewN ?_ _ | refine blk_drew ?_ | refine blk_alloc ?_ _)); refine blk_far ?_ NB255_291.out _; (with_reducible repeat (first | refine blk_drewN ?_ _ | refine blk_drew ?_ | refine blk_alloc ?_ _)); refine blk_far ?_ NB255_291.out _; (with_reducible repeat (first | refine blk_drewN ?_ _ | refine blk_drew ?_ | refine blk_alloc ?_ _)); refine blk_far ?_ NB255_291.out _; (with_reducible repeat (first | refine blk_drewN ?_ _ | refine blk_drew ?_ | refine blk_alloc ?_ _)); refine blk_far ?_ NB255_291.out _; (with_reducible repeat (first | refine blk_drewN ?_ _ | refine blk_drew ?_ | refine blk_alloc ?_ _)); exact BK255.out) hb); have n6_ := Aside0.mk (blk_below (g := gb291) (o := .cells #[.slice Ao59 t275.length co59, .slice Ao62 t278.length co62, .int .u8 t281, .bool t282, .int .i64 t283, .int .i64 t284, .int .i64 t285, .slice Ao63 t286.length co63] 25 (0, 0)) (by (with_reducible repeat (first | refine blk_drewN ?_ _ | refine blk_drew ?_ | refine blk_alloc ?_ _)); refine blk_put (cs := #[.slice Ao59 t275.length co59, .slice Ao62 t278.length co62, .int .u8 t281, .bool t282, .int .i64 t283, .int .i64 t284, .int .i64 t285, .slice none 0 0]) ?_ 7 _ rfl; (with_reducible repeat (first | refine blk_drewN ?_ _ | refine blk_drew ?_ | refine blk_alloc ?_ _)); refine blk_put (cs := #[.slice Ao59 t275.length co59, .slice Ao62 t278.length co62, .int .u8 t281, .bool t282, .int .i64 t283, .int .i64 t284, .int .i64 0, .slice none 0 0]) ?_ 6 _ rfl; (with_reducible repeat (first | refine blk_drewN ?_ _ | refine blk_drew ?_ | refine blk_alloc ?_ _)); refine blk_put (cs := #[.slice Ao59 t275.length co59, .slice Ao62 t278.length co62, .int .u8 t281, .bool t282, .int .i64 t283, .int .i64 0, .int .i64 0, .slice none 0 0]) ?_ 5 _ rfl; (with_reducible repeat (first | refine blk_drewN ?_ _ | refine blk_drew ?_ | refine blk_alloc ?_ _)); refine blk_put (cs := #[.slice Ao59 t275.length co59, .slice Ao62 t278.length co62, .int .u8 t281, .bool t282, .int .i64 0, .int .i64 0, .int .i64 0, .slice none 0 0]) ?_ 4 _ rfl; (with_reducible repeat (first | refine blk_drewN ?_ _ | refine blk_drew ?_ | refine blk_alloc ?_ _)); refine blk_put (cs := #[.slice Ao59 t275.length co59, .slice Ao62 t278.length co62, .int .u8 t281, .bool false, .int .i64 0, .int .i64 0, .int .i64 0, .slice none 0 0]) ?_ 3 _ rfl; (with_reducible repeat (first | refine blk_drewN ?_ _ | refine blk_drew ?_ | refine blk_alloc ?_ _)); refine blk_put (cs := #[.slice Ao59 t275.length co59, .slice Ao62 t278.length co62, .int .u8 0, .bool false, .int .i64 0, .int .i64 0, .int .i64 0, .slice none 0 0]) ?_ 2 _ rfl; (with_reducible repeat (first | refine blk_drewN ?_ _ | refine blk_drew ?_ | refine blk_alloc ?_ _)); refine blk_put (cs := #[.slice Ao59 t275.length co59, .slice none 0 0, .int .u8 0, .bool false, .int .i64 0, .int .i64 0, .int .i64 0, .slice none 0 0]) ?_ 1 _ rfl; (with_reducible repeat (first | refine blk_drewN ?_ _ | refine blk_drew ?_ | refine blk_alloc ?_ _)); refine blk_put (cs := #[.slice none 0 0, .slice none 0 0, .int .u8 0, .bool false, .int .i64 0, .int .i64 0, .int .i64 0, .slice none 0 0]) ?_ 0 _ rfl; (with_reducible repeat (first | refine blk_drewN ?_ _ | refine blk_drew ?_ | refine blk_alloc ?_ _)); exact BK291.out) hb); have n7_ := Aside0.mk (below_step (au43) hb); clear HO_9; clear HO274; clear HO277; clear HO280; clear HO288; clear BK255; clear BK291; clear HB; have HO_9 := n0_; have HO274 := n1_; have HO277 := n2_; have HO280 := n3_; have HO288 := n4_; have BK255 := n5_; have BK291 := n6_; have HB := n7_; clear n0_ n1_ n2_ n3_ n4_ n5_ n6_ n7_; (try clear hb); (try clear hb2); (try clear hk); (try clear hi); have q66 : ((ji45) : Int) ≤ ((t258.length : Int) : Int) := of_decide_eq_true (au20); obtain ⟨i066, hi066, _, hsz66, _⟩ := info_parts info5; have hroom66 : t258.length ≤ co54 := (Kd.R_reads' HO_9.out).2.1; have hC66 : Kd.C (Kd.int .u8) _ Ao54 t258.length t258 := (Kd.R_reads' HO_9.out).2.2; have hcut66 := cut_to (P := Try.prog) 22 5 .i64 Try.underlying22 hi066 Ao54 t258.length co54 (ji45) (of_decide_eq_true (au20)) q66 hroom66; have hr66 := Kd.C_take (m := ((ji45) : Int).toNat) hC66 (by omega); have hy66 : y293.length = ((ji45) : Int).toNat := (by rw [Ny293.out, List.length_take]; omega); rw [← Ny293.out] at hr66; rw [← hy66] at hcut66; have HR296 := Aside0.mk hr66; have HC296 := Aside0.mk (show y293.length ≤ co54 from by omega); clear hr66 hC66 hroom66 hi066 hsz66; have KY66 := Aside0.mk hy66; clear hy66; have KL66 := Aside0.mk (show ((ji45) : Int).toNat ≤ t258.length from by omega); replace q66 := eq_true q66) | ((fail_if_success (have h_ := w67)); go_at_call 29; (with_reducible refine (capstanlaw07_told.calls kj20 10 _ _ y293 true _ ?side1 ?side2 A48.out).mono ?_); (case side1 => repeat (first | exact (by repeat (first | (with_reducible exact HR296.out) | (with_reducible refine Kd.C_alloc ?_ _) | (with_reducible refine Kd.C_drewN ?_ _) | (with_reducible refine Kd.C_drew ?_) | exact HR296.out)) | (with_reducible refine Kd.C_alloc ?_ _) | (with_reducible refine Kd.C_drewN ?_ _) | (with_reducible refine Kd.C_drew ?_))); (case side2 => exact HC296.out); rintro e w67 ⟨rfl, hb⟩; have n0_ := Aside0.mk (Kd.R_below (au25) hb); have n1_ := Aside0.mk (Kd.R_below (au57) hb); have n2_ := Aside0.mk (Kd.R_below (by (with_reducible repeat (first | apply Kd.R_alloc | apply Kd.R_drewN | apply Kd.R_drew)); first | exact HO277.out | exact Kd.R_mono (HO277.out) (fun _ h_ => h_.2)) hb); have n3_ := Aside0.mk (Kd.R_below (by (with_reducible repeat (first | apply Kd.R_alloc | apply Kd.R_drewN | apply Kd.R_drew)); first | exact HO280.out | exact Kd.R_mono (HO280.out) (fun _ h_ => h_.2)) hb); have n4_ := Aside0.mk (Kd.R_below (by (with_reducible repeat (first | apply Kd.R_alloc | apply Kd.R_drewN | apply Kd.R_drew)); first | exact HO288.out | exact Kd.R_mono (HO288.out) (fun _ h_ => h_.2)) hb); have n5_ := Aside0.mk (blk_below (g := gb255) (o := .cells #[.slice A0_0 l0_0.length c0_0, .slice A0_1 l0_1.length c0_1, .int .u8 a0_2, .bool a0_3, .int .i64 a0_4, .int .i64 a0_5, .int .i64 a0_6, .slice A0_7 l0_7.length c0_7] 25 (0, 0)) (au9) hb); have n6_ := Aside0.mk (blk_below (g := gb291) (o := .cells #[.slice Ao59 t275.length co59, .slice Ao62 t278.length co62, .int .u8 t281, .bool t282, .int .i64 t283, .int .i64 t284, .int .i64 t285, .slice Ao63 t286.length co63] 25 (0, 0)) (by (with_reducible repeat (first | refine blk_drewN ?_ _ | refine blk_drew ?_ | refine blk_alloc ?_ _)); exact BK291.out) hb); have n7_ := Aside0.mk (Kd.C_below (by repeat (first | (with_reducible exact HR296.out) | (with_reducible refine Kd.C_alloc ?_ _) | (with_reducible refine Kd.C_drewN ?_ _) | (with_reducible refine Kd.C_drew ?_) | exact HR296.out)) hb); have n8_ := Aside0.mk (below_step (au43) hb); clear HO_9; clear HO274; clear HO277; clear HO280; clear HO288; clear BK255; clear BK291; clear HR296; clear HB; have HO_9 := n0_; have HO274 := n1_; have HO277 := n2_; have HO280 := n3_; have HO288 := n4_; have BK255 := n5_; have BK291 := n6_; have HR296 := n7_; have HB := n8_; clear n0_ n1_ n2_ n3_ n4_ n5_ n6_ n7_ n8_; (try clear hb); (try clear hb2); (try clear hk); (try clear hi)))
                    go_meet
                    case rel => exact ⟨_, H', ⟨by have := HJ6.out; have := HJ20.out; first | omega | exact Nat.le_refl _⟩, ⟨au9⟩, ⟨au43⟩⟩
                   ·
                    replace c49 := Bool.eq_false_iff.mpr c49
                    subst c49
                    have H1 : (none) = some r := by rw [if_neg (show ¬ (false = true) by decide)] at H; exact H
                    clear H
                    have H := H1
                    clear H1
                    exact absurd H (by simp)
                  ·
                   rw [if_neg c47] at H
                   exact absurd H (by simp)
                 ·
                  rw [if_neg c46] at H
                  exact absurd H (by simp)
               ·
                replace c43 := Bool.eq_false_iff.mpr c43
                subst c43
                have H1 : (none) = some r := by rw [if_neg (show ¬ (false = true) by decide)] at H; exact H
                clear H
                have H := H1
                clear H1
                exact absurd H (by simp)
              ·
               rw [if_neg c41] at H
               exact absurd H (by simp)
             ·
              rw [if_neg c40] at H
              exact absurd H (by simp)
            ·
             rw [if_neg c38] at H
             exact absurd H (by simp)
           ·
            rw [if_neg c37] at H
            exact absurd H (by simp)
          ·
           rw [if_neg c36] at H
           exact absurd H (by simp)
         ·
          rw [if_neg c35] at H
          have c35b0 : (t261 == 0) = false := beq_eq_false_iff_ne.mpr c35
          have c35b1 : (t261 != 0) = true := bne_iff_ne.mpr c35
          (first | rw [c35b0] | (simp only [i64_w, i32_w]; rw [c35b0]) | skip)
          have H' := Aside0.mk H
          clear H
          go_wp2
          go_meet
          case rel => exact ⟨_, H', ⟨by have := HJ6.out; have := HJ20.out; first | omega | exact Nat.le_refl _⟩, ⟨au9⟩, ⟨au2⟩⟩
        case rest =>
         clear HC34
         try clear c1
         try clear c2
         try clear p2
         try clear q2
         try clear c3
         try clear c4
         try clear c5
         try clear c6
         try clear p6
         try clear q6
         try clear c8
         try clear c11
         try clear c14
         try clear c14b0
         try clear c14b1
         try clear c19
         try clear c21
         try clear c25
         try clear c25b0
         try clear c25b1
         try clear c25b2
         try clear c26
         try clear c26b0
         try clear c26b1
         try clear c28
         try clear c29
         try clear c29b0
         try clear c29b1
         try clear c33
         try clear c35
         try clear c35b0
         try clear c35b1
         try clear c36
         try clear c37
         try clear c38
         try clear c40
         try clear c40b0
         try clear c40b1
         try clear c41
         try clear c41b0
         try clear c41b1
         try clear c43
         try clear c44
         try clear c44b0
         try clear c44b1
         try clear c44b2
         try clear c46
         try clear c46b0
         try clear c46b1
         try clear c47
         try clear c47b0
         try clear c47b1
         try clear c49
         try clear c60
         try clear p64
         try clear q66
         try clear hcz12_0
         try clear hcz12_1
         try clear hcz12_2
         try clear hcz12_3
         try clear hcz12_4
         try clear hcz12_5
         try clear hcz12_6
         try clear hcz12_7
         try clear hcz15_0
         try clear hcz15_1
         try clear hcz15_2
         try clear hcz15_3
         try clear hcz15_4
         try clear hcz15_5
         try clear hcz15_6
         try clear hcz15_7
         try clear hcz17_0
         try clear hcz17_1
         try clear hcz17_2
         try clear hcz17_3
         try clear hcz17_4
         try clear hcz17_5
         try clear hcz17_6
         try clear hcz17_7
         try clear hcz22_0
         try clear hcz22_1
         try clear hcz22_2
         try clear hcz22_3
         try clear hcz22_4
         try clear hcz22_5
         try clear hcz22_6
         try clear hcz22_7
         try clear hcz27_0
         try clear hcz27_1
         try clear hcz27_2
         try clear hcz27_3
         try clear hcz27_4
         try clear hcz27_5
         try clear hcz27_6
         try clear hcz27_7
         try clear hcz30_0
         try clear hcz30_1
         try clear hcz30_2
         try clear hcz30_3
         try clear hcz30_4
         try clear hcz30_5
         try clear hcz30_6
         try clear hcz30_7
         try clear hcz61_0
         try clear hcz61_1
         try clear hcz61_2
         try clear hcz61_3
         try clear hcz61_4
         try clear hcz61_5
         try clear hcz61_6
         try clear hcz61_7
         try clear hcz64_0
         try clear hcz64_1
         try clear hcz64_2
         try clear hcz64_3
         try clear hcz64_4
         try clear hcz64_5
         try clear hcz64_6
         try clear hcz64_7
         try clear hfz12_0
         try clear hfz12_1
         try clear hfz12_2
         try clear hfz12_3
         try clear hfz12_4
         try clear hfz12_5
         try clear hfz12_6
         try clear hfz12_7
         try clear hfz15_0
         try clear hfz15_1
         try clear hfz15_2
         try clear hfz15_3
         try clear hfz15_4
         try clear hfz15_5
         try clear hfz15_6
         try clear hfz15_7
         try clear hfz17_0
         try clear hfz17_1
         try clear hfz17_2
         try clear hfz17_3
         try clear hfz17_4
         try clear hfz17_5
         try clear hfz17_6
         try clear hfz17_7
         try clear hfz22_0
         try clear hfz22_1
         try clear hfz22_2
         try clear hfz22_3
         try clear hfz22_4
         try clear hfz22_5
         try clear hfz22_6
         try clear hfz22_7
         try clear hfz27_0
         try clear hfz27_1
         try clear hfz27_2
         try clear hfz27_3
         try clear hfz27_4
         try clear hfz27_5
         try clear hfz27_6
         try clear hfz27_7
         try clear hfz30_0
         try clear hfz30_1
         try clear hfz30_2
         try clear hfz30_3
         try clear hfz30_4
         try clear hfz30_5
         try clear hfz30_6
         try clear hfz30_7
         try clear hfz61_0
         try clear hfz61_1
         try clear hfz61_2
         try clear hfz61_3
         try clear hfz61_4
         try clear hfz61_5
         try clear hfz61_6
         try clear hfz61_7
         try clear hfz64_0
         try clear hfz64_1
         try clear hfz64_2
         try clear hfz64_3
         try clear hfz64_4
         try clear hfz64_5
         try clear hfz64_6
         try clear hfz64_7
         try clear p2
         try clear q2
         try clear q66
         obtain ⟨kq, HA, HJ33, BK255, HB⟩ := hcut
         cases kq with
         | zero => exact absurd HA.out (by simp [capstanlaw07_MethodBack.j2])
         | succ kj33 =>
          have H := HA.out
          clear HA
          simp only [capstanlaw07_MethodBack.j2] at H
          replace H := Option.bind_eq_some_iff.mp H
          obtain ⟨⟨t298, t301, t304, t305, t306, t307, t308, t309, t312, t313⟩, A680, H⟩ := H
          replace H : (if t313 = 0 then ((method_Bytes.f kj33 t298 t301 t304 t305 t306 t307 t308 t309).bind fun bt315 => (if bt315.2 = 0 then ((method_May.f kj33 t298 t301 t304 t305 t306 t307 t308 t309).bind fun t319 => (if t319 = true then (if a3 ≥ 0 then (if a3 ≤ (l2.length : Int) then (if t312 ≤ (l2.length : Int) then (if t312 = (wrap64 (a3 + (bt315.1.length : Int))) then (if 0 ≤ a3 then (if a3 ≤ t312 then (some ((strOfNums bt315.1).toList == (strOfNums ((l2.take (t312 : Int).toNat).drop (a3 : Int).toNat)).toList)) else (none)) else (none)) else (none)) else (none)) else (none)) else (none)) else (none))) else (none))) else (some (t312 == 0))) = some r := H
          have A68 := Aside0.mk A680
          clear A680
          by_cases c69 : t313 = 0
          ·
           rw [if_pos c69] at H
           have c69b0 : (t313 == 0) = true := beq_iff_eq.mpr c69
           have c69b1 : (t313 != 0) = false := bne_eq_false_iff_eq.mpr c69
           clear c69
           replace H := Option.bind_eq_some_iff.mp H
           obtain ⟨⟨t315, t318⟩, A700, H⟩ := H
           replace H : (if t318 = 0 then ((method_May.f kj33 t298 t301 t304 t305 t306 t307 t308 t309).bind fun t319 => (if t319 = true then (if a3 ≥ 0 then (if a3 ≤ (l2.length : Int) then (if t312 ≤ (l2.length : Int) then (if t312 = (wrap64 (a3 + (t315.length : Int))) then (if 0 ≤ a3 then (if a3 ≤ t312 then (some ((strOfNums t315).toList == (strOfNums ((l2.take (t312 : Int).toNat).drop (a3 : Int).toNat)).toList)) else (none)) else (none)) else (none)) else (none)) else (none)) else (none)) else (none))) else (none)) = some r := H
           have A70 := Aside0.mk A700
           clear A700
           by_cases c71 : t318 = 0
           ·
            rw [if_pos c71] at H
            have c71b0 : (t318 == 0) = true := beq_iff_eq.mpr c71
            have c71b1 : (t318 != 0) = false := bne_eq_false_iff_eq.mpr c71
            clear c71
            replace H := Option.bind_eq_some_iff.mp H
            obtain ⟨t319, A720, H⟩ := H
            replace H : (if t319 = true then (if a3 ≥ 0 then (if a3 ≤ (l2.length : Int) then (if t312 ≤ (l2.length : Int) then (if t312 = (wrap64 (a3 + (t315.length : Int))) then (if 0 ≤ a3 then (if a3 ≤ t312 then (some ((strOfNums t315).toList == (strOfNums ((l2.take (t312 : Int).toNat).drop (a3 : Int).toNat)).toList)) else (none)) else (none)) else (none)) else (none)) else (none)) else (none)) else (none)) = some r := H
            have A72 := Aside0.mk A720
            clear A720
            by_cases c73 : t319 = true
            ·
             subst c73
             have H1 : (if a3 ≥ 0 then (if a3 ≤ (l2.length : Int) then (if t312 ≤ (l2.length : Int) then (if t312 = (wrap64 (a3 + (t315.length : Int))) then (if 0 ≤ a3 then (if a3 ≤ t312 then (some ((strOfNums t315).toList == (strOfNums ((l2.take (t312 : Int).toNat).drop (a3 : Int).toNat)).toList)) else (none)) else (none)) else (none)) else (none)) else (none)) else (none)) = some r := by rw [if_pos rfl] at H; exact H
             clear H
             have H := H1
             clear H1
             by_cases c74 : a3 ≥ 0
             ·
              rw [if_pos c74] at H
              have c74b0 : decide (0 ≤ a3) = true := decide_eq_true c74
              clear c74
              by_cases c75 : a3 ≤ (l2.length : Int)
              ·
               rw [if_pos c75] at H
               have c75b0 : decide (a3 ≤ (l2.length : Int)) = true := decide_eq_true c75
               clear c75
               by_cases c76 : t312 ≤ (l2.length : Int)
               ·
                rw [if_pos c76] at H
                have c76b0 : decide (t312 ≤ (l2.length : Int)) = true := decide_eq_true c76
                clear c76
                by_cases c77 : t312 = (wrap64 (a3 + (t315.length : Int)))
                ·
                 rw [if_pos c77] at H
                 have c77b0 : (t312 == (wrap64 (a3 + (t315.length : Int)))) = true := beq_iff_eq.mpr c77
                 have c77b1 : (t312 != (wrap64 (a3 + (t315.length : Int)))) = false := bne_eq_false_iff_eq.mpr c77
                 clear c77
                 by_cases c78 : 0 ≤ a3
                 ·
                  rw [if_pos c78] at H
                  have c78b0 := eq_true c78
                  have c78b1 : decide (0 ≤ a3) = true := decide_eq_true c78
                  clear c78
                  by_cases c79 : a3 ≤ t312
                  ·
                   rw [if_pos c79] at H
                   have c79b0 := eq_true c79
                   have c79b1 : decide (a3 ≤ t312) = true := decide_eq_true c79
                   clear c79
                   have c80b0 := eq_true (of_decide_eq_true (au20) : t312 ≤ (l2.length : Int))
                   obtain rfl := Option.some.inj H
                   try go_wp2_with (first | ((with_reducible refine gate_callee (f := 8) rfl ?_); refine goesL_ (some 106) rfl rfl Try.func8 (by kernel_rfl) rfl #[.slice A2 l2.length c2, .int .i64 a3] rfl (au3) ?_; (with_reducible refine (method_Read.calls kj33 _ _ l2 a3 t298 t301 t304 t305 t306 t307 t308 t309 t312 t313 _ ?side1 ?side2 A68.out).mono ?_); (case side1 => repeat (first | exact (Kd.C_below HR2.out HB.out) | (with_reducible refine Kd.C_alloc ?_ _) | (with_reducible refine Kd.C_drewN ?_ _) | (with_reducible refine Kd.C_drew ?_))); (case side2 => exact HC2.out); rintro e w81 ⟨v299, v302, v310, rfl, ho0, ho1, ho2, hb⟩; refine ⟨_, rfl, ?_⟩; have n0_ := Aside0.mk (Kd.R_lower ho0 (below_size (au2))); have n1_ := Aside0.mk (Kd.R_lower ho1 (below_size (au2))); have n2_ := Aside0.mk (Kd.R_lower ho2 (below_size (au2))); have n3_ := Aside0.mk (blk_below (g := gb255) (o := .cells #[.slice A0_0 l0_0.length c0_0, .slice A0_1 l0_1.length c0_1, .int .u8 a0_2, .bool a0_3, .int .i64 a0_4, .int .i64 a0_5, .int .i64 a0_6, .slice A0_7 l0_7.length c0_7] 25 (0, 0)) (au9) hb); have n4_ := Aside0.mk (below_step (au2) hb); clear BK255; clear HB; have HO300 := n0_; have HO303 := n1_; have HO311 := n2_; have BK255 := n3_; have HB := n4_; clear n0_ n1_ n2_ n3_ n4_; (try clear hb); (try clear hb2); (try clear hk); (try clear hi); (try clear ho0); (try clear ho1); (try clear ho2)) | ((with_reducible refine gate_dst (N := 14) rfl ?_); (try (refine gate_guard (by rfl) ?_; dsimp only)); refine box_event ?hg (N := 14) ?hd (cs := #[.slice none 0 0, .slice none 0 0, .int .u8 0, .bool false, .int .i64 0, .int .i64 0, .int .i64 0, .slice none 0 0]) (t := 25) ?hr ?_; (case hd => rfl); (case hg => rfl); (case hr => first | (go_simp; done) | (go_simp; rfl)); intro gb314 hg w82 hbox hb; have n0_ := Aside0.mk (Kd.R_below (au68) hb); have n1_ := Aside0.mk (Kd.R_below (au69) hb); have n2_ := Aside0.mk (Kd.R_below (au70) hb); have n3_ := Aside0.mk (blk_below (g := gb255) (o := .cells #[.slice A0_0 l0_0.length c0_0, .slice A0_1 l0_1.length c0_1, .int .u8 a0_2, .bool a0_3, .int .i64 a0_4, .int .i64 a0_5, .int .i64 a0_6, .slice A0_7 l0_7.length c0_7] 25 (0, 0)) (au9) hb); have n4_ := Aside0.mk (below_step (au2) hb); have n5_ := Aside0.mk (hbox); have n6_ := Aside0.mk ((by rw [hg]; exact (below_size (au2)) : w.heap.size ≤ gb314)); have n7_ := Aside0.mk ((by rw [hg]; exact (below_size (au2)) : w.heap.size ≤ gb314)); have n8_ := Aside0.mk ((au63 : gb255 ≠ gb314)); have n9_ := Aside0.mk ((au64 : gb314 ≠ gb255)); clear HO300; clear HO303; clear HO311; clear BK255; clear HB; have HO300 := n0_; have HO303 := n1_; have HO311 := n2_; have BK255 := n3_; have HB := n4_; have BK314 := n5_; have GW314 := n6_; have GE314 := n7_; have NB255_314 := n8_; have NB314_255 := n9_; clear n0_ n1_ n2_ n3_ n4_ n5_ n6_ n7_ n8_ n9_; clear hb hbox hg; obtain ⟨Ao83, co83, eo83⟩ := Kd.R_slice HO300.out; subst eo83; have hnb84 := NB314_255.out; have hnc84 := NB255_314.out; obtain ⟨hcz85_0, hcz85_1, hcz85_2, hcz85_3, hcz85_4, hcz85_5, hcz85_6, hcz85_7, hfz85_0, hfz85_1, hfz85_2, hfz85_3, hfz85_4, hfz85_5, hfz85_6, hfz85_7⟩ := blk_all8 BK314.out; obtain ⟨Ao86, co86, eo86⟩ := Kd.R_slice HO303.out; subst eo86; obtain ⟨Ao87, co87, eo87⟩ := Kd.R_slice HO311.out; subst eo87) | ((with_reducible refine gate_callee (f := 21) rfl ?_); refine goesL_ (some 116) rfl rfl Try.func21 (by kernel_rfl) rfl #[.agg #[.slice Ao83 t298.length co83, .slice Ao86 t301.length co86, .int .u8 t304, .bool t305, .int .i64 t306, .int .i64 t307, .int .i64 t308, .slice Ao87 t309.length co87]] rfl (au3) ?_; (with_reducible refine (method_Bytes.calls kj33 _ _ t298 _ _ t301 t304 t305 t306 t307 t308 _ _ t309 t315 t318 _ ?side1 ?side2 ?side3 ?side4 ?side5 ?side6 A70.out).mono ?_); (case side1 => refine (Kd.R_reads' (e := 5) (base := w.heap.size) (ok := fun k_ => some k_ ≠ (.slice Ao86 t301.length co86 : Value).ownBlock) (n := t298.length) (c := co83) ?_).2.2; exact (au11)); (case side2 => exact (Kd.R_reads' HO300.out).2.1); (case side3 => refine (Kd.R_reads' (e := 5) (base := w.heap.size) (ok := fun k_ => some k_ ≠ (.slice Ao83 t298.length co83 : Value).ownBlock) (n := t301.length) (c := co86) ?_).2.2; exact (au12)); (case side4 => exact (Kd.R_reads' HO303.out).2.1); (case side5 => refine (Kd.R_reads' (e := 114) (base := w.heap.size) (ok := fun k_ => True) (n := t309.length) (c := co87) ?_).2.2; exact (au33)); (case side6 => exact (Kd.R_reads' HO311.out).2.1); rintro e w88 ⟨v316, rfl, ho0, hb⟩; refine ⟨_, rfl, ?_⟩; have n0_ := Aside0.mk (Kd.R_elder' (au11) (Kd.R_base ho0) hb); have n1_ := Aside0.mk (Kd.R_elder' (au12) (Kd.R_base ho0) hb); have n2_ := Aside0.mk (Kd.R_below (au33) hb); have n3_ := Aside0.mk (Kd.R_lower (Kd.R_new' (Kd.R_new' ho0 (Kd.R_lt (au11))) (Kd.R_lt (au12))) (below_size (au44))); have n4_ := Aside0.mk (blk_below (g := gb255) (o := .cells #[.slice A0_0 l0_0.length c0_0, .slice A0_1 l0_1.length c0_1, .int .u8 a0_2, .bool a0_3, .int .i64 a0_4, .int .i64 a0_5, .int .i64 a0_6, .slice A0_7 l0_7.length c0_7] 25 (0, 0)) (by (with_reducible repeat (first | refine blk_drewN ?_ _ | refine blk_drew ?_ | refine blk_alloc ?_ _)); refine blk_far ?_ NB255_314.out _; (with_reducible repeat (first | refine blk_drewN ?_ _ | refine blk_drew ?_ | refine blk_alloc ?_ _)); refine blk_far ?_ NB255_314.out _; (with_reducible repeat (first | refine blk_drewN ?_ _ | refine blk_drew ?_ | refine blk_alloc ?_ _)); refine blk_far ?_ NB255_314.out _; (with_reducible repeat (first | refine blk_drewN ?_ _ | refine blk_drew ?_ | refine blk_alloc ?_ _)); refine blk_far ?_ NB255_314.out _; (with_reducible repeat (first | refine blk_drewN ?_ _ | refine blk_drew ?_ | refine blk_alloc ?_ _)); refine blk_far ?_ NB255_314.out _; (with_reducible repeat (first | refine blk_drewN ?_ _ | refine blk_drew ?_ | refine blk_alloc ?_ _)); refine blk_far ?_ NB255_314.out _; (with_reducible repeat (first | refine blk_drewN ?_ _ | refine blk_drew ?_ | refine blk_alloc ?_ _)); refine blk_far ?_ NB255_314.out _; (with_reducible repeat (first | refine blk_drewN ?_ _ | refine blk_drew ?_ | refine blk_alloc ?_ _)); refine blk_far ?_ NB255_314.out _; (with_reducible repeat (first | refine blk_drewN ?_ _ | refine blk_drew ?_ | refine blk_alloc ?_ _)); exact BK255.out) hb); have n5_ := Aside0.mk (blk_below (g := gb314) (o := .cells #[.slice Ao83 t298.length co83, .slice Ao86 t301.length co86, .int .u8 t304, .bool t305, .int .i64 t306, .int .i64 t307, .int .i64 t308, .slice Ao87 t309.length co87] 25 (0, 0)) (by (with_reducible repeat (first | refine blk_drewN ?_ _ | refine blk_drew ?_ | refine blk_alloc ?_ _)); refine blk_put (cs := #[.slice Ao83 t298.length co83, .slice Ao86 t301.length co86, .int .u8 t304, .bool t305, .int .i64 t306, .int .i64 t307, .int .i64 t308, .slice none 0 0]) ?_ 7 _ rfl; (with_reducible repeat (first | refine blk_drewN ?_ _ | refine blk_drew ?_ | refine blk_alloc ?_ _)); refine blk_put (cs := #[.slice Ao83 t298.length co83, .slice Ao86 t301.length co86, .int .u8 t304, .bool t305, .int .i64 t306, .int .i64 t307, .int .i64 0, .slice none 0 0]) ?_ 6 _ rfl; (with_reducible repeat (first | refine blk_drewN ?_ _ | refine blk_drew ?_ | refine blk_alloc ?_ _)); refine blk_put (cs := #[.slice Ao83 t298.length co83, .slice Ao86 t301.length co86, .int .u8 t304, .bool t305, .int .i64 t306, .int .i64 0, .int .i64 0, .slice none 0 0]) ?_ 5 _ rfl; (with_reducible repeat (first | refine blk_drewN ?_ _ | refine blk_drew ?_ | refine blk_alloc ?_ _)); refine blk_put (cs := #[.slice Ao83 t298.length co83, .slice Ao86 t301.length co86, .int .u8 t304, .bool t305, .int .i64 0, .int .i64 0, .int .i64 0, .slice none 0 0]) ?_ 4 _ rfl; (with_reducible repeat (first | refine blk_drewN ?_ _ | refine blk_drew ?_ | refine blk_alloc ?_ _)); refine blk_put (cs := #[.slice Ao83 t298.length co83, .slice Ao86 t301.length co86, .int .u8 t304, .bool false, .int .i64 0, .int .i64 0, .int .i64 0, .slice none 0 0]) ?_ 3 _ rfl; (with_reducible repeat (first | refine blk_drewN ?_ _ | refine blk_drew ?_ | refine blk_alloc ?_ _)); refine blk_put (cs := #[.slice Ao83 t298.length co83, .slice Ao86 t301.length co86, .int .u8 0, .bool false, .int .i64 0, .int .i64 0, .int .i64 0, .slice none 0 0]) ?_ 2 _ rfl; (with_reducible repeat (first | refine blk_drewN ?_ _ | refine blk_drew ?_ | refine blk_alloc ?_ _)); refine blk_put (cs := #[.slice Ao83 t298.length co83, .slice none 0 0, .int .u8 0, .bool false, .int .i64 0, .int .i64 0, .int .i64 0, .slice none 0 0]) ?_ 1 _ rfl; (with_reducible repeat (first | refine blk_drewN ?_ _ | refine blk_drew ?_ | refine blk_alloc ?_ _)); refine blk_put (cs := #[.slice none 0 0, .slice none 0 0, .int .u8 0, .bool false, .int .i64 0, .int .i64 0, .int .i64 0, .slice none 0 0]) ?_ 0 _ rfl; (with_reducible repeat (first | refine blk_drewN ?_ _ | refine blk_drew ?_ | refine blk_alloc ?_ _)); exact BK314.out) hb); have n6_ := Aside0.mk (below_step (au44) hb); clear HO300; clear HO303; clear HO311; clear BK255; clear BK314; clear HB; have HO300 := n0_; have HO303 := n1_; have HO311 := n2_; have HO317 := n3_; have BK255 := n4_; have BK314 := n5_; have HB := n6_; clear n0_ n1_ n2_ n3_ n4_ n5_ n6_; (try clear hb); (try clear hb2); (try clear hk); (try clear hi); (try clear ho0)))
                   (try (rw [drewN_self w88]; generalize hq_ : World.drewN w88 _ = w88; have n0_ : Aside0 (Kd.R (Kd.int .u8) 5 w88 w.heap.size (fun k_ => some k_ ≠ (.slice Ao86 t301.length co86 : Value).ownBlock ∧ some k_ ≠ (v316 : Value).ownBlock) (.slice Ao83 t298.length co83) t298) := ⟨by rw [← hq_]; exact (au68)⟩; have n1_ : Aside0 (Kd.R (Kd.int .u8) 5 w88 w.heap.size (fun k_ => some k_ ≠ (.slice Ao83 t298.length co83 : Value).ownBlock ∧ some k_ ≠ (v316 : Value).ownBlock) (.slice Ao86 t301.length co86) t301) := ⟨by rw [← hq_]; exact (au69)⟩; have n2_ : Aside0 (Kd.R k114 114 w88 w.heap.size (fun _ => True) (.slice Ao87 t309.length co87) t309) := ⟨by rw [← hq_]; exact (au70)⟩; have n3_ : Aside0 (Kd.R (Kd.int .u8) 5 w88 w.heap.size (fun k_ => some k_ ≠ (.slice Ao83 t298.length co83 : Value).ownBlock ∧ some k_ ≠ (.slice Ao86 t301.length co86 : Value).ownBlock) v316 t315) := ⟨by rw [← hq_]; exact (by (with_reducible repeat (first | apply Kd.R_alloc | apply Kd.R_drewN | apply Kd.R_drew)); first | exact Kd.R_mono HO317.out (fun _ hk => ⟨hk.1.2, hk.2⟩) | exact Kd.R_mono (Kd.R_mono HO317.out (fun _ hk => ⟨hk.1.2, hk.2⟩)) (fun _ h_ => h_.2))⟩; have n4_ : Aside0 (w88.heap[gb255]? = some (.cells #[.slice A0_0 l0_0.length c0_0, .slice A0_1 l0_1.length c0_1, .int .u8 a0_2, .bool a0_3, .int .i64 a0_4, .int .i64 a0_5, .int .i64 a0_6, .slice A0_7 l0_7.length c0_7] 25 (0, 0))) := ⟨by rw [← hq_]; exact (au9)⟩; have n5_ : Aside0 (w88.heap[gb314]? = some (.cells #[.slice Ao83 t298.length co83, .slice Ao86 t301.length co86, .int .u8 t304, .bool t305, .int .i64 t306, .int .i64 t307, .int .i64 t308, .slice Ao87 t309.length co87] 25 (0, 0))) := ⟨by rw [← hq_]; exact (by (with_reducible repeat (first | refine blk_drewN ?_ _ | refine blk_drew ?_ | refine blk_alloc ?_ _)); exact BK314.out)⟩; have n6_ : Aside0 (Below w.heap.size w w88) := ⟨by rw [← hq_]; exact (au44)⟩; clear HO300 HO303 HO311 HO317 BK255 BK314 HB hq_; have HO300 := n0_; have HO303 := n1_; have HO311 := n2_; have HO317 := n3_; have BK255 := n4_; have BK314 := n5_; have HB := n6_; clear n0_ n1_ n2_ n3_ n4_ n5_ n6_))
                   (try obtain ⟨hcu89_0, hcu89_1, hcu89_2, hcu89_3, hcu89_4, hcu89_5, hcu89_6, hcu89_7, hfu89_0, hfu89_1, hfu89_2, hfu89_3, hfu89_4, hfu89_5, hfu89_6, hfu89_7⟩ := blk_all8 BK255.out)
                   (try obtain ⟨hcu90_0, hcu90_1, hcu90_2, hcu90_3, hcu90_4, hcu90_5, hcu90_6, hcu90_7, hfu90_0, hfu90_1, hfu90_2, hfu90_3, hfu90_4, hfu90_5, hfu90_6, hfu90_7⟩ := blk_all8 BK314.out)
                   have n0_ := Aside0.mk (Kd.R_drew HO300.out)
                   have n1_ := Aside0.mk (Kd.R_drew HO303.out)
                   have n2_ := Aside0.mk (Kd.R_drew HO311.out)
                   have n3_ := Aside0.mk (Kd.R_drew HO317.out)
                   have n4_ := Aside0.mk (blk_drew BK255.out)
                   have n5_ := Aside0.mk (blk_drew BK314.out)
                   have n6_ := Aside0.mk (below_drew1 HB.out)
                   clear HO300
                   clear HO303
                   clear HO311
                   clear HO317
                   clear BK255
                   clear BK314
                   clear HB
                   have HO300 := n0_
                   have HO303 := n1_
                   have HO311 := n2_
                   have HO317 := n3_
                   have BK255 := n4_
                   have BK314 := n5_
                   have HB := n6_
                   clear n0_ n1_ n2_ n3_ n4_ n5_ n6_
                   obtain ⟨i094, hi094, _, hsz94, _⟩ := info_parts info5
                   obtain ⟨A94, hcut94, hA94, hC94⟩ := print_mid_of (P := Try.prog) (Value.int .u8) 0 22 5 .i64 .i64 Try.underlying22 hi094 hsz94 A2 c2 l2 a3 t312 (of_decide_eq_true (au20)) (by first | omega | exact of_decide_eq_true (au20)) (of_decide_eq_true (au20)) HC2.out
                   have HR320 := Aside0.mk (Kd.C_of_reads (h1 := fun _ => rfl) (hA94 _ (Kd.reads_of_C HR2.out)))
                   have HC320 := Aside0.mk hC94
                   clear hA94 hC94 hi094 hsz94
                   refine start_ (n := 41) (S := fun w' => w'.cell? ⟨gb314, 0, none⟩ = some (.slice Ao83 t298.length co83) ∧ w'.cell? ⟨gb314, 1, none⟩ = some (.slice Ao86 t301.length co86) ∧ w'.cell? ⟨gb314, 2, none⟩ = some (.int .u8 t304) ∧ w'.cell? ⟨gb314, 3, none⟩ = some (.bool t305) ∧ w'.cell? ⟨gb314, 4, none⟩ = some (.int .i64 t306) ∧ w'.cell? ⟨gb314, 5, none⟩ = some (.int .i64 t307) ∧ w'.cell? ⟨gb314, 6, none⟩ = some (.int .i64 t308) ∧ w'.cell? ⟨gb314, 7, none⟩ = some (.slice Ao87 t309.length co87) ∧ (convert 22 9 v316).run Try.prog w' = .ok (.string (strOfNums t315)) w' ∧ ∀ n_ : Nat, n_ = ((l2.take (t312 : Int).toNat).drop (a3 : Int).toNat).length → (convert 22 9 (.slice A94 n_ (c2 - a3.toNat))).run Try.prog w' = .ok (.string (strOfNums ((l2.take (t312 : Int).toNat).drop (a3 : Int).toNat))) w') (ds := []) #[false, false, false, false, false, false, false, false, false, false, false, false, false, false, false, false, false, false, false, false, false, false, false, false, false, false, false, false, false, false, false, false, false, false, false, false, false, false, false, false, false] (by kernel_rfl) rfl rfl ⟨(blk_cell BK314.out 0).trans rfl, (blk_cell BK314.out 1).trans rfl, (blk_cell BK314.out 2).trans rfl, (blk_cell BK314.out 3).trans rfl, (blk_cell BK314.out 4).trans rfl, (blk_cell BK314.out 5).trans rfl, (blk_cell BK314.out 6).trans rfl, (blk_cell BK314.out 7).trans rfl, (own_string (P := Try.prog) Try.underlying22 Try.underlying5 Try.underlying9 (Kd.own_of_R HO317.out)), (fun n_ hn_ => by subst hn_; exact Kd.C_string (P := Try.prog) (A := A94) (c := (c2 - a3.toNat)) Try.underlying22 Try.underlying5 Try.underlying9 (Kd.C_below HR320.out ⟨HB.out.os, HB.out.tape, HB.out.output, HB.out.size, HB.out.block⟩))⟩ (fun hHeld => ?_); refine with_tabW capstanlaw07_MethodBack.tab16 capstanlaw07_MethodBack.bits16 (fun HT_ HW_ => ?_)
                   generalize w88.drew = w91 at HO300 HO303 HO311 HO317 BK255 BK314 HB HR320 hHeld ⊢
                   refine pure_ (i := 0) (N := some 119) (v := ?_) (a' := ?_) #[true, false, false, false, false, false, false, false, false, false, false, false, false, false, false, false, false, false, false, false, false, false, false, false, false, false, false, false, false, false, false, false, false, false, false, false, false, false, false, false, false] rfl rfl (any_of HT_.out (by kernel_rfl)) (fun _ _ _ h => h) (Or.inl ⟨by rfl, ?_⟩) ?_ ?_
                   rotate_left
                   ·
                    intro w'
                    go_simp
                    with_reducible rfl
                   rotate_left
                   ·
                    simp only [Act.put, List.setIfInBounds_toArray, List.set_cons_zero, List.set_cons_succ, i64_w, i32_w]
                    rfl
                   refine pure_ (i := 1) (N := some 120) (v := ?_) (a' := ?_) #[true, true, false, false, false, false, false, false, false, false, false, false, false, false, false, false, false, false, false, false, false, false, false, false, false, false, false, false, false, false, false, false, false, false, false, false, false, false, false, false, false] rfl rfl (any_of HT_.out (by kernel_rfl)) (fun _ _ _ h => h) (Or.inl ⟨by rfl, ?_⟩) ?_ ?_
                   rotate_left
                   ·
                    intro w'
                    go_simp
                    with_reducible rfl
                   rotate_left
                   ·
                    simp only [Act.put, List.setIfInBounds_toArray, List.set_cons_zero, List.set_cons_succ, i64_w, i32_w]
                    rfl
                   refine pure_ (i := 2) (N := some 121) (v := ?_) (a' := ?_) #[true, true, true, false, false, false, false, false, false, false, false, false, false, false, false, false, false, false, false, false, false, false, false, false, false, false, false, false, false, false, false, false, false, false, false, false, false, false, false, false, false] rfl rfl (any_of HT_.out (by kernel_rfl)) (fun _ _ _ h => h) (Or.inl ⟨by rfl, ?_⟩) ?_ ?_
                   rotate_left
                   ·
                    intro w'
                    go_simp
                    with_reducible rfl
                   rotate_left
                   ·
                    simp only [Act.put, List.setIfInBounds_toArray, List.set_cons_zero, List.set_cons_succ, i64_w, i32_w]
                    rfl
                   refine take_ (i := 3) (N := some 122) (v := ?_) (a' := ?_) #[true, true, true, true, false, false, false, false, false, false, false, false, false, false, false, false, false, false, false, false, false, false, false, false, false, false, false, false, false, false, false, false, false, false, false, false, false, false, false, false, false] rfl rfl (take_ofW HT_.out HW_.out (by kernel_rfl)) (fun _ _ _ h => h) (Or.inl ⟨by rfl, ?_⟩) hHeld ?_ ?_
                   rotate_left
                   ·
                    rintro w' ⟨s0, s1, s2, s3, s4, s5, s6, s7, s8, s9⟩
                    go_simp
                    with_reducible rfl
                   rotate_left
                   ·
                    simp only [Act.put, List.setIfInBounds_toArray, List.set_cons_zero, List.set_cons_succ, i64_w, i32_w]
                    rfl
                   refine one_ (i := 4) (N := some 123) #[true, true, true, true, true, false, false, false, false, false, false, false, false, false, false, false, false, false, false, false, false, false, false, false, false, false, false, false, false, false, false, false, false, false, false, false, false, false, false, false, false] rfl rfl (one_of HT_.out (by kernel_rfl)) (by decide) (fun K hK => ?_)
                   refine goes_ Try.func14 (by kernel_rfl) rfl #[.agg #[.slice Ao83 t298.length co83, .slice Ao86 t301.length co86, .int .u8 t304, .bool t305, .int .i64 t306, .int .i64 t307, .int .i64 t308, .slice Ao87 t309.length co87]] (by rfl) rfl rfl (au3) ?_
                   with_reducible refine (method_May.calls kj33 _ _ t298 _ _ t301 t304 t305 t306 t307 t308 _ _ t309 true _ ?side1 ?side2 ?side3 ?side4 ?side5 ?side6 A72.out).mono ?_
                   (case side1 => repeat (first | exact (Kd.R_reads' HO300.out).2.2 | (with_reducible refine Kd.C_alloc ?_ _) | (with_reducible refine Kd.C_drewN ?_ _) | (with_reducible refine Kd.C_drew ?_)))
                   (case side2 => exact (Kd.R_reads' HO300.out).2.1)
                   (case side3 => repeat (first | exact (Kd.R_reads' HO303.out).2.2 | (with_reducible refine Kd.C_alloc ?_ _) | (with_reducible refine Kd.C_drewN ?_ _) | (with_reducible refine Kd.C_drew ?_)))
                   (case side4 => exact (Kd.R_reads' HO303.out).2.1)
                   (case side5 => repeat (first | exact (Kd.R_reads' HO311.out).2.2 | (with_reducible refine Kd.C_alloc ?_ _) | (with_reducible refine Kd.C_drewN ?_ _) | (with_reducible refine Kd.C_drew ?_)))
                   (case side6 => exact (Kd.R_reads' HO311.out).2.1)
                   rintro e w92 ⟨rfl, hb⟩
                   refine ⟨_, rfl, ?_⟩
                   have n0_ := Aside0.mk (Kd.R_below (au68) hb)
                   have n1_ := Aside0.mk (Kd.R_below (au69) hb)
                   have n2_ := Aside0.mk (Kd.R_below (au70) hb)
                   have n3_ := Aside0.mk (Kd.R_below (by (with_reducible repeat (first | apply Kd.R_alloc | apply Kd.R_drewN | apply Kd.R_drew)); first | exact HO317.out | exact Kd.R_mono (HO317.out) (fun _ h_ => h_.2)) hb)
                   have n4_ := Aside0.mk (blk_below (g := gb255) (o := .cells #[.slice A0_0 l0_0.length c0_0, .slice A0_1 l0_1.length c0_1, .int .u8 a0_2, .bool a0_3, .int .i64 a0_4, .int .i64 a0_5, .int .i64 a0_6, .slice A0_7 l0_7.length c0_7] 25 (0, 0)) (au9) hb)
                   have n5_ := Aside0.mk (blk_below (g := gb314) (o := .cells #[.slice Ao83 t298.length co83, .slice Ao86 t301.length co86, .int .u8 t304, .bool t305, .int .i64 t306, .int .i64 t307, .int .i64 t308, .slice Ao87 t309.length co87] 25 (0, 0)) (by (with_reducible repeat (first | refine blk_drewN ?_ _ | refine blk_drew ?_ | refine blk_alloc ?_ _)); exact BK314.out) hb)
                   have n6_ := Aside0.mk (below_step (au44) hb)
                   clear HO300
                   clear HO303
                   clear HO311
                   clear HO317
                   clear BK255
                   clear BK314
                   clear HB
                   have HO300 := n0_
                   have HO303 := n1_
                   have HO311 := n2_
                   have HO317 := n3_
                   have BK255 := n4_
                   have BK314 := n5_
                   have HB := n6_
                   clear n0_ n1_ n2_ n3_ n4_ n5_ n6_
                   (try clear hb)
                   (try clear hb2)
                   (try clear hk)
                   (try clear hi)
                   obtain ⟨Ao93, co93, eo93⟩ := Kd.R_slice HO317.out
                   (first | subst eo93 | (injection eo93 with f1_ f2_ f3_; have f4_ := f1_.symm; have f5_ := f3_.symm; clear f1_ f2_ f3_; subst f4_; subst f5_))
                   refine hK.out _ _ ⟨(blk_cell BK314.out 0).trans rfl, (blk_cell BK314.out 1).trans rfl, (blk_cell BK314.out 2).trans rfl, (blk_cell BK314.out 3).trans rfl, (blk_cell BK314.out 4).trans rfl, (blk_cell BK314.out 5).trans rfl, (blk_cell BK314.out 6).trans rfl, (blk_cell BK314.out 7).trans rfl, (own_string (P := Try.prog) Try.underlying22 Try.underlying5 Try.underlying9 (Kd.own_of_R HO317.out)), (fun n_ hn_ => by subst hn_; exact Kd.C_string (P := Try.prog) (A := A94) (c := (c2 - a3.toNat)) Try.underlying22 Try.underlying5 Try.underlying9 (Kd.C_below HR320.out ⟨HB.out.os, HB.out.tape, HB.out.output, HB.out.size, HB.out.block⟩))⟩ (fun hHeld => ?_)
                   clear hK K
                   refine norm_ (a' := ?_) ?_ ?_
                   rotate_left
                   ·
                    show Act.put _ (some 123) _ = _
                    simp only [Act.put, List.setIfInBounds_toArray, List.set_cons_zero, List.set_cons_succ, i64_w, i32_w]
                    rfl
                   refine pure_ (i := 5) (N := some 124) (v := ?_) (a' := ?_) #[true, true, true, true, true, true, false, false, false, false, false, false, false, false, false, false, false, false, false, false, false, false, false, false, false, false, false, false, false, false, false, false, false, false, false, false, false, false, false, false, false] rfl rfl (any_of HT_.out (by kernel_rfl)) (fun _ _ _ h => h) (Or.inl ⟨by rfl, ?_⟩) ?_ ?_
                   rotate_left
                   ·
                    intro w'
                    go_simp
                    with_reducible rfl
                   rotate_left
                   ·
                    simp only [Act.put, List.setIfInBounds_toArray, List.set_cons_zero, List.set_cons_succ, i64_w, i32_w]
                    rfl
                   refine pure_ (i := 6) (N := some 125) (v := ?_) (a' := ?_) #[true, true, true, true, true, true, true, false, false, false, false, false, false, false, false, false, false, false, false, false, false, false, false, false, false, false, false, false, false, false, false, false, false, false, false, false, false, false, false, false, false] rfl rfl (any_of HT_.out (by kernel_rfl)) (fun _ _ _ h => h) (Or.inl ⟨by rfl, ?_⟩) ?_ ?_
                   rotate_left
                   ·
                    intro w'
                    go_simp
                    with_reducible rfl
                   rotate_left
                   ·
                    simp only [Act.put, List.setIfInBounds_toArray, List.set_cons_zero, List.set_cons_succ, i64_w, i32_w]
                    rfl
                   refine pure_ (i := 7) (N := some 126) (v := ?_) (a' := ?_) #[true, true, true, true, true, true, true, true, false, false, false, false, false, false, false, false, false, false, false, false, false, false, false, false, false, false, false, false, false, false, false, false, false, false, false, false, false, false, false, false, false] rfl rfl (any_of HT_.out (by kernel_rfl)) (fun _ _ _ h => h) (Or.inl ⟨by rfl, ?_⟩) ?_ ?_
                   rotate_left
                   ·
                    intro w'
                    go_simp
                    with_reducible rfl
                   rotate_left
                   ·
                    simp only [Act.put, List.setIfInBounds_toArray, List.set_cons_zero, List.set_cons_succ, i64_w, i32_w]
                    rfl
                   refine pure_ (i := 8) (N := some 127) (v := ?_) (a' := ?_) #[true, true, true, true, true, true, true, true, true, false, false, false, false, false, false, false, false, false, false, false, false, false, false, false, false, false, false, false, false, false, false, false, false, false, false, false, false, false, false, false, false] rfl rfl (any_of HT_.out (by kernel_rfl)) (fun _ _ _ h => h) (Or.inl ⟨by rfl, ?_⟩) ?_ ?_
                   rotate_left
                   ·
                    intro w'
                    go_simp
                    with_reducible rfl
                   rotate_left
                   ·
                    simp only [Act.put, List.setIfInBounds_toArray, List.set_cons_zero, List.set_cons_succ, i64_w, i32_w]
                    rfl
                   refine pure_ (i := 9) (N := some 128) (v := ?_) (a' := ?_) #[true, true, true, true, true, true, true, true, true, true, false, false, false, false, false, false, false, false, false, false, false, false, false, false, false, false, false, false, false, false, false, false, false, false, false, false, false, false, false, false, false] rfl rfl (any_of HT_.out (by kernel_rfl)) (fun _ _ _ h => h) (Or.inl ⟨by rfl, ?_⟩) ?_ ?_
                   rotate_left
                   ·
                    intro w'
                    go_simp
                    with_reducible rfl
                   rotate_left
                   ·
                    simp only [Act.put, List.setIfInBounds_toArray, List.set_cons_zero, List.set_cons_succ, i64_w, i32_w]
                    rfl
                   refine pure_ (i := 10) (N := some 129) (v := ?_) (a' := ?_) #[true, true, true, true, true, true, true, true, true, true, true, false, false, false, false, false, false, false, false, false, false, false, false, false, false, false, false, false, false, false, false, false, false, false, false, false, false, false, false, false, false] rfl rfl (any_of HT_.out (by kernel_rfl)) (fun _ _ _ h => h) (Or.inl ⟨by rfl, ?_⟩) ?_ ?_
                   rotate_left
                   ·
                    intro w'
                    go_simp
                    with_reducible rfl
                   rotate_left
                   ·
                    simp only [Act.put, List.setIfInBounds_toArray, List.set_cons_zero, List.set_cons_succ, i64_w, i32_w]
                    rfl
                   refine pure_ (i := 11) (N := some 130) (v := ?_) (a' := ?_) #[true, true, true, true, true, true, true, true, true, true, true, true, false, false, false, false, false, false, false, false, false, false, false, false, false, false, false, false, false, false, false, false, false, false, false, false, false, false, false, false, false] rfl rfl (any_of HT_.out (by kernel_rfl)) (fun _ _ _ h => h) (Or.inl ⟨by rfl, ?_⟩) ?_ ?_
                   rotate_left
                   ·
                    intro w'
                    go_simp
                    with_reducible rfl
                   rotate_left
                   ·
                    simp only [Act.put, List.setIfInBounds_toArray, List.set_cons_zero, List.set_cons_succ, i64_w, i32_w]
                    rfl
                   refine pure_ (i := 12) (N := some 131) (v := ?_) (a' := ?_) #[true, true, true, true, true, true, true, true, true, true, true, true, true, false, false, false, false, false, false, false, false, false, false, false, false, false, false, false, false, false, false, false, false, false, false, false, false, false, false, false, false] rfl rfl (any_of HT_.out (by kernel_rfl)) (fun _ _ _ h => h) (Or.inl ⟨by rfl, ?_⟩) ?_ ?_
                   rotate_left
                   ·
                    intro w'
                    go_simp
                    with_reducible rfl
                   rotate_left
                   ·
                    simp only [Act.put, List.setIfInBounds_toArray, List.set_cons_zero, List.set_cons_succ, i64_w, i32_w]
                    rfl
                   refine pure_ (i := 13) (N := some 132) (v := ?_) (a' := ?_) #[true, true, true, true, true, true, true, true, true, true, true, true, true, true, false, false, false, false, false, false, false, false, false, false, false, false, false, false, false, false, false, false, false, false, false, false, false, false, false, false, false] rfl rfl (any_of HT_.out (by kernel_rfl)) (fun _ _ _ h => h) (Or.inl ⟨by rfl, ?_⟩) ?_ ?_
                   rotate_left
                   ·
                    intro w'
                    go_simp
                    with_reducible rfl
                   rotate_left
                   ·
                    simp only [Act.put, List.setIfInBounds_toArray, List.set_cons_zero, List.set_cons_succ, i64_w, i32_w]
                    rfl
                   refine pure_ (i := 14) (N := some 133) (v := ?_) (a' := ?_) #[true, true, true, true, true, true, true, true, true, true, true, true, true, true, true, false, false, false, false, false, false, false, false, false, false, false, false, false, false, false, false, false, false, false, false, false, false, false, false, false, false] rfl rfl (any_of HT_.out (by kernel_rfl)) (fun _ _ _ h => h) (Or.inl ⟨by rfl, ?_⟩) ?_ ?_
                   rotate_left
                   ·
                    intro w'
                    go_simp
                    with_reducible rfl
                   rotate_left
                   ·
                    simp only [Act.put, List.setIfInBounds_toArray, List.set_cons_zero, List.set_cons_succ, i64_w, i32_w]
                    rfl
                   refine pure_ (i := 15) (N := some 134) (v := ?_) (a' := ?_) #[true, true, true, true, true, true, true, true, true, true, true, true, true, true, true, true, false, false, false, false, false, false, false, false, false, false, false, false, false, false, false, false, false, false, false, false, false, false, false, false, false] rfl rfl (any_of HT_.out (by kernel_rfl)) (fun _ _ _ h => h) (Or.inl ⟨by rfl, ?_⟩) ?_ ?_
                   rotate_left
                   ·
                    intro w'
                    go_simp
                    with_reducible rfl
                   rotate_left
                   ·
                    simp only [Act.put, List.setIfInBounds_toArray, List.set_cons_zero, List.set_cons_succ, i64_w, i32_w]
                    rfl
                   refine pure_ (i := 16) (N := some 135) (v := ?_) (a' := ?_) #[true, true, true, true, true, true, true, true, true, true, true, true, true, true, true, true, true, false, false, false, false, false, false, false, false, false, false, false, false, false, false, false, false, false, false, false, false, false, false, false, false] rfl rfl (any_of HT_.out (by kernel_rfl)) (fun _ _ _ h => h) (Or.inl ⟨by rfl, ?_⟩) ?_ ?_
                   rotate_left
                   ·
                    intro w'
                    go_simp
                    with_reducible rfl
                   rotate_left
                   ·
                    simp only [Act.put, List.setIfInBounds_toArray, List.set_cons_zero, List.set_cons_succ, i64_w, i32_w]
                    rfl
                   refine pure_ (i := 17) (N := some 136) (v := ?_) (a' := ?_) #[true, true, true, true, true, true, true, true, true, true, true, true, true, true, true, true, true, true, false, false, false, false, false, false, false, false, false, false, false, false, false, false, false, false, false, false, false, false, false, false, false] rfl rfl (any_of HT_.out (by kernel_rfl)) (fun _ _ _ h => h) (Or.inl ⟨by rfl, ?_⟩) ?_ ?_
                   rotate_left
                   ·
                    intro w'
                    go_simp
                    with_reducible rfl
                   rotate_left
                   ·
                    simp only [Act.put, List.setIfInBounds_toArray, List.set_cons_zero, List.set_cons_succ, i64_w, i32_w]
                    rfl
                   refine pure_ (i := 18) (N := some 137) (v := ?_) (a' := ?_) #[true, true, true, true, true, true, true, true, true, true, true, true, true, true, true, true, true, true, true, false, false, false, false, false, false, false, false, false, false, false, false, false, false, false, false, false, false, false, false, false, false] rfl rfl (any_of HT_.out (by kernel_rfl)) (fun _ _ _ h => h) (Or.inl ⟨by rfl, ?_⟩) ?_ ?_
                   rotate_left
                   ·
                    intro w'
                    go_simp
                    with_reducible rfl
                   rotate_left
                   ·
                    simp only [Act.put, List.setIfInBounds_toArray, List.set_cons_zero, List.set_cons_succ, i64_w, i32_w]
                    rfl
                   refine pure_ (i := 19) (N := some 138) (v := ?_) (a' := ?_) #[true, true, true, true, true, true, true, true, true, true, true, true, true, true, true, true, true, true, true, true, false, false, false, false, false, false, false, false, false, false, false, false, false, false, false, false, false, false, false, false, false] rfl rfl (any_of HT_.out (by kernel_rfl)) (fun _ _ _ h => h) (Or.inl ⟨by rfl, ?_⟩) ?_ ?_
                   rotate_left
                   ·
                    intro w'
                    go_simp
                    with_reducible rfl
                   rotate_left
                   ·
                    simp only [Act.put, List.setIfInBounds_toArray, List.set_cons_zero, List.set_cons_succ, i64_w, i32_w]
                    rfl
                   refine pure_ (i := 20) (N := some 139) (v := ?_) (a' := ?_) #[true, true, true, true, true, true, true, true, true, true, true, true, true, true, true, true, true, true, true, true, true, false, false, false, false, false, false, false, false, false, false, false, false, false, false, false, false, false, false, false, false] rfl rfl (any_of HT_.out (by kernel_rfl)) (fun _ _ _ h => h) (Or.inl ⟨by rfl, ?_⟩) ?_ ?_
                   rotate_left
                   ·
                    intro w'
                    go_simp
                    with_reducible rfl
                   rotate_left
                   ·
                    simp only [Act.put, List.setIfInBounds_toArray, List.set_cons_zero, List.set_cons_succ, i64_w, i32_w]
                    rfl
                   refine pure_ (i := 21) (N := some 140) (v := ?_) (a' := ?_) #[true, true, true, true, true, true, true, true, true, true, true, true, true, true, true, true, true, true, true, true, true, true, false, false, false, false, false, false, false, false, false, false, false, false, false, false, false, false, false, false, false] rfl rfl (any_of HT_.out (by kernel_rfl)) (fun _ _ _ h => h) (Or.inl ⟨by rfl, ?_⟩) ?_ ?_
                   rotate_left
                   ·
                    intro w'
                    go_simp
                    with_reducible rfl
                   rotate_left
                   ·
                    simp only [Act.put, List.setIfInBounds_toArray, List.set_cons_zero, List.set_cons_succ, i64_w, i32_w]
                    rfl
                   refine pure_ (i := 22) (N := some 141) (v := ?_) (a' := ?_) #[true, true, true, true, true, true, true, true, true, true, true, true, true, true, true, true, true, true, true, true, true, true, true, false, false, false, false, false, false, false, false, false, false, false, false, false, false, false, false, false, false] rfl rfl (any_of HT_.out (by kernel_rfl)) (fun _ _ _ h => h) (Or.inl ⟨by rfl, ?_⟩) ?_ ?_
                   rotate_left
                   ·
                    intro w'
                    go_simp
                    with_reducible rfl
                   rotate_left
                   ·
                    simp only [Act.put, List.setIfInBounds_toArray, List.set_cons_zero, List.set_cons_succ, i64_w, i32_w]
                    rfl
                   refine pure_ (i := 23) (N := some 142) (v := ?_) (a' := ?_) #[true, true, true, true, true, true, true, true, true, true, true, true, true, true, true, true, true, true, true, true, true, true, true, true, false, false, false, false, false, false, false, false, false, false, false, false, false, false, false, false, false] rfl rfl (any_of HT_.out (by kernel_rfl)) (fun _ _ _ h => h) (Or.inl ⟨by rfl, ?_⟩) ?_ ?_
                   rotate_left
                   ·
                    intro w'
                    go_simp
                    with_reducible rfl
                   rotate_left
                   ·
                    simp only [Act.put, List.setIfInBounds_toArray, List.set_cons_zero, List.set_cons_succ, i64_w, i32_w]
                    rfl
                   refine pure_ (i := 24) (N := some 143) (v := ?_) (a' := ?_) #[true, true, true, true, true, true, true, true, true, true, true, true, true, true, true, true, true, true, true, true, true, true, true, true, true, false, false, false, false, false, false, false, false, false, false, false, false, false, false, false, false] rfl rfl (any_of HT_.out (by kernel_rfl)) (fun _ _ _ h => h) (Or.inl ⟨by rfl, ?_⟩) ?_ ?_
                   rotate_left
                   ·
                    intro w'
                    go_simp
                    with_reducible rfl
                   rotate_left
                   ·
                    simp only [Act.put, List.setIfInBounds_toArray, List.set_cons_zero, List.set_cons_succ, i64_w, i32_w]
                    rfl
                   refine pure_ (i := 25) (N := some 144) (v := ?_) (a' := ?_) #[true, true, true, true, true, true, true, true, true, true, true, true, true, true, true, true, true, true, true, true, true, true, true, true, true, true, false, false, false, false, false, false, false, false, false, false, false, false, false, false, false] rfl rfl (any_of HT_.out (by kernel_rfl)) (fun _ _ _ h => h) (Or.inl ⟨by rfl, ?_⟩) ?_ ?_
                   rotate_left
                   ·
                    intro w'
                    go_simp
                    with_reducible rfl
                   rotate_left
                   ·
                    simp only [Act.put, List.setIfInBounds_toArray, List.set_cons_zero, List.set_cons_succ, i64_w, i32_w]
                    rfl
                   refine pure_ (i := 26) (N := some 145) (v := ?_) (a' := ?_) #[true, true, true, true, true, true, true, true, true, true, true, true, true, true, true, true, true, true, true, true, true, true, true, true, true, true, true, false, false, false, false, false, false, false, false, false, false, false, false, false, false] rfl rfl (any_of HT_.out (by kernel_rfl)) (fun _ _ _ h => h) (Or.inl ⟨by rfl, ?_⟩) ?_ ?_
                   rotate_left
                   ·
                    intro w'
                    go_simp
                    with_reducible rfl
                   rotate_left
                   ·
                    simp only [Act.put, List.setIfInBounds_toArray, List.set_cons_zero, List.set_cons_succ, i64_w, i32_w]
                    rfl
                   refine pure_ (i := 27) (N := some 146) (v := ?_) (a' := ?_) #[true, true, true, true, true, true, true, true, true, true, true, true, true, true, true, true, true, true, true, true, true, true, true, true, true, true, true, true, false, false, false, false, false, false, false, false, false, false, false, false, false] rfl rfl (any_of HT_.out (by kernel_rfl)) (fun _ _ _ h => h) (Or.inl ⟨by rfl, ?_⟩) ?_ ?_
                   rotate_left
                   ·
                    intro w'
                    go_simp
                    with_reducible rfl
                   rotate_left
                   ·
                    simp only [Act.put, List.setIfInBounds_toArray, List.set_cons_zero, List.set_cons_succ, i64_w, i32_w]
                    rfl
                   refine pure_ (i := 28) (N := some 147) (v := ?_) (a' := ?_) #[true, true, true, true, true, true, true, true, true, true, true, true, true, true, true, true, true, true, true, true, true, true, true, true, true, true, true, true, true, false, false, false, false, false, false, false, false, false, false, false, false] rfl rfl (any_of HT_.out (by kernel_rfl)) (fun _ _ _ h => h) (Or.inl ⟨by rfl, ?_⟩) ?_ ?_
                   rotate_left
                   ·
                    intro w'
                    go_simp
                    with_reducible rfl
                   rotate_left
                   ·
                    simp only [Act.put, List.setIfInBounds_toArray, List.set_cons_zero, List.set_cons_succ, i64_w, i32_w]
                    rfl
                   refine pure_ (i := 29) (N := some 148) (v := ?_) (a' := ?_) #[true, true, true, true, true, true, true, true, true, true, true, true, true, true, true, true, true, true, true, true, true, true, true, true, true, true, true, true, true, true, false, false, false, false, false, false, false, false, false, false, false] rfl rfl (any_of HT_.out (by kernel_rfl)) (fun _ _ _ h => h) (Or.inl ⟨by rfl, ?_⟩) ?_ ?_
                   rotate_left
                   ·
                    intro w'
                    go_simp
                    with_reducible rfl
                   rotate_left
                   ·
                    simp only [Act.put, List.setIfInBounds_toArray, List.set_cons_zero, List.set_cons_succ, i64_w, i32_w]
                    rfl
                   refine pure_ (i := 30) (N := some 149) (v := ?_) (a' := ?_) #[true, true, true, true, true, true, true, true, true, true, true, true, true, true, true, true, true, true, true, true, true, true, true, true, true, true, true, true, true, true, true, false, false, false, false, false, false, false, false, false, false] rfl rfl (any_of HT_.out (by kernel_rfl)) (fun _ _ _ h => h) (Or.inl ⟨by rfl, ?_⟩) ?_ ?_
                   rotate_left
                   ·
                    intro w'
                    go_simp
                    with_reducible rfl
                   rotate_left
                   ·
                    simp only [Act.put, List.setIfInBounds_toArray, List.set_cons_zero, List.set_cons_succ, i64_w, i32_w]
                    rfl
                   refine pure_ (i := 31) (N := some 150) (v := ?_) (a' := ?_) #[true, true, true, true, true, true, true, true, true, true, true, true, true, true, true, true, true, true, true, true, true, true, true, true, true, true, true, true, true, true, true, true, false, false, false, false, false, false, false, false, false] rfl rfl (any_of HT_.out (by kernel_rfl)) (fun _ _ _ h => h) (Or.inl ⟨by rfl, ?_⟩) ?_ ?_
                   rotate_left
                   ·
                    intro w'
                    go_simp
                    with_reducible rfl
                   rotate_left
                   ·
                    simp only [Act.put, List.setIfInBounds_toArray, List.set_cons_zero, List.set_cons_succ, i64_w, i32_w]
                    rfl
                   refine pure_ (i := 33) (N := some 152) (v := ?_) (a' := ?_) #[true, true, true, true, true, true, true, true, true, true, true, true, true, true, true, true, true, true, true, true, true, true, true, true, true, true, true, true, true, true, true, true, false, true, false, false, false, false, false, false, false] rfl rfl (any_of HT_.out (by kernel_rfl)) (fun _ _ _ h => h) (Or.inl ⟨by rfl, ?_⟩) ?_ ?_
                   rotate_left
                   ·
                    intro w'
                    go_simp
                    with_reducible rfl
                   rotate_left
                   ·
                    simp only [Act.put, List.setIfInBounds_toArray, List.set_cons_zero, List.set_cons_succ, i64_w, i32_w]
                    rfl
                   refine pure_ (i := 34) (N := some 153) (v := ?_) (a' := ?_) #[true, true, true, true, true, true, true, true, true, true, true, true, true, true, true, true, true, true, true, true, true, true, true, true, true, true, true, true, true, true, true, true, false, true, true, false, false, false, false, false, false] rfl rfl (any_of HT_.out (by kernel_rfl)) (fun _ _ _ h => h) (Or.inl ⟨by rfl, ?_⟩) ?_ ?_
                   rotate_left
                   ·
                    intro w'
                    go_simp
                    with_reducible rfl
                   rotate_left
                   ·
                    simp only [Act.put, List.setIfInBounds_toArray, List.set_cons_zero, List.set_cons_succ, i64_w, i32_w]
                    rfl
                   refine pure_ (i := 35) (N := some 154) (v := ?_) (a' := ?_) #[true, true, true, true, true, true, true, true, true, true, true, true, true, true, true, true, true, true, true, true, true, true, true, true, true, true, true, true, true, true, true, true, false, true, true, true, false, false, false, false, false] rfl rfl (any_of HT_.out (by kernel_rfl)) (fun _ _ _ h => h) (Or.inl ⟨by rfl, ?_⟩) ?_ ?_
                   rotate_left
                   ·
                    intro w'
                    go_simp
                    with_reducible rfl
                   rotate_left
                   ·
                    simp only [Act.put, List.setIfInBounds_toArray, List.set_cons_zero, List.set_cons_succ, i64_w, i32_w]
                    rfl
                   refine pure_ (i := 36) (N := some 155) (v := ?_) (a' := ?_) #[true, true, true, true, true, true, true, true, true, true, true, true, true, true, true, true, true, true, true, true, true, true, true, true, true, true, true, true, true, true, true, true, false, true, true, true, true, false, false, false, false] rfl rfl (any_of HT_.out (by kernel_rfl)) (fun _ _ _ h => h) (Or.inl ⟨by rfl, ?_⟩) ?_ ?_
                   rotate_left
                   ·
                    intro w'
                    go_simp
                    with_reducible rfl
                   rotate_left
                   ·
                    simp only [Act.put, List.setIfInBounds_toArray, List.set_cons_zero, List.set_cons_succ, i64_w, i32_w]
                    rfl
                   refine take_ (i := 32) (N := some 151) (v := ?_) (a' := ?_) #[true, true, true, true, true, true, true, true, true, true, true, true, true, true, true, true, true, true, true, true, true, true, true, true, true, true, true, true, true, true, true, true, true, true, true, true, true, false, false, false, false] rfl rfl (take_ofW HT_.out HW_.out (by kernel_rfl)) (fun _ _ _ h => h) (Or.inl ⟨by rfl, ?_⟩) hHeld ?_ ?_
                   rotate_left
                   ·
                    rintro w' ⟨s0, s1, s2, s3, s4, s5, s6, s7, s8, s9⟩
                    go_simp
                    first | (with_reducible rfl) | (rw [s8] <;> first | (with_reducible rfl) | rfl | (simp only [List.length_drop, List.length_take]; first | rfl | (simp only [decide_eq_true_eq, decide_eq_false_iff_not] at *; omega)))
                   rotate_left
                   ·
                    simp only [Act.put, List.setIfInBounds_toArray, List.set_cons_zero, List.set_cons_succ, i64_w, i32_w]
                    rfl
                   refine take_ (i := 37) (N := some 156) (v := ?_) (a' := ?_) #[true, true, true, true, true, true, true, true, true, true, true, true, true, true, true, true, true, true, true, true, true, true, true, true, true, true, true, true, true, true, true, true, true, true, true, true, true, true, false, false, false] rfl rfl (take_ofW HT_.out HW_.out (by kernel_rfl)) (fun _ _ _ h => h) (Or.inl ⟨by rfl, ?_⟩) hHeld ?_ ?_
                   rotate_left
                   ·
                    rintro w' ⟨s0, s1, s2, s3, s4, s5, s6, s7, s8, s9⟩
                    go_simp
                    first | (with_reducible rfl) | (rw [s9] <;> first | (with_reducible rfl) | rfl | (simp only [List.length_drop, List.length_take]; first | rfl | (simp only [decide_eq_true_eq, decide_eq_false_iff_not] at *; omega)))
                   rotate_left
                   ·
                    simp only [Act.put, List.setIfInBounds_toArray, List.set_cons_zero, List.set_cons_succ, i64_w, i32_w]
                    rfl
                   refine pure_ (i := 38) (N := some 157) (v := ?_) (a' := ?_) #[true, true, true, true, true, true, true, true, true, true, true, true, true, true, true, true, true, true, true, true, true, true, true, true, true, true, true, true, true, true, true, true, true, true, true, true, true, true, true, false, false] rfl rfl (any_of HT_.out (by kernel_rfl)) (fun _ _ _ h => h) (Or.inl ⟨by rfl, ?_⟩) ?_ ?_
                   rotate_left
                   ·
                    intro w'
                    go_simp
                    with_reducible rfl
                   rotate_left
                   ·
                    simp only [Act.put, List.setIfInBounds_toArray, List.set_cons_zero, List.set_cons_succ, i64_w, i32_w]
                    rfl
                   refine pure_ (i := 39) (N := some 158) (v := ?_) (a' := ?_) #[true, true, true, true, true, true, true, true, true, true, true, true, true, true, true, true, true, true, true, true, true, true, true, true, true, true, true, true, true, true, true, true, true, true, true, true, true, true, true, true, false] rfl rfl (any_of HT_.out (by kernel_rfl)) (fun _ _ _ h => h) (Or.inl ⟨by rfl, ?_⟩) ?_ ?_
                   rotate_left
                   ·
                    intro w'
                    go_simp
                    with_reducible rfl
                   rotate_left
                   ·
                    simp only [Act.put, List.setIfInBounds_toArray, List.set_cons_zero, List.set_cons_succ, i64_w, i32_w]
                    rfl
                   refine pure_ (i := 40) (N := some 8) (v := ?_) (a' := ?_) #[true, true, true, true, true, true, true, true, true, true, true, true, true, true, true, true, true, true, true, true, true, true, true, true, true, true, true, true, true, true, true, true, true, true, true, true, true, true, true, true, true] rfl rfl (any_of HT_.out (by kernel_rfl)) (fun _ _ _ h => h) (Or.inl ⟨by rfl, ?_⟩) ?_ ?_
                   rotate_left
                   ·
                    intro w'
                    go_simp
                    with_reducible rfl
                   rotate_left
                   ·
                    simp only [Act.put, List.setIfInBounds_toArray, List.set_cons_zero, List.set_cons_succ, i64_w, i32_w]
                    rfl
                   refine done_ (done_of HT_.out (by kernel_rfl)) ?_
                   try go_wp2
                   go_ret
                   exact ⟨au10, au44⟩
                  ·
                   rw [if_neg c79] at H
                   exact absurd H (by simp)
                 ·
                  rw [if_neg c78] at H
                  exact absurd H (by simp)
                ·
                 rw [if_neg c77] at H
                 exact absurd H (by simp)
               ·
                rw [if_neg c76] at H
                exact absurd H (by simp)
              ·
               rw [if_neg c75] at H
               exact absurd H (by simp)
             ·
              rw [if_neg c74] at H
              exact absurd H (by simp)
            ·
             replace c73 := Bool.eq_false_iff.mpr c73
             subst c73
             have H1 : (none) = some r := by rw [if_neg (show ¬ (false = true) by decide)] at H; exact H
             clear H
             have H := H1
             clear H1
             exact absurd H (by simp)
           ·
            rw [if_neg c71] at H
            exact absurd H (by simp)
          ·
           rw [if_neg c69] at H
           have c69b0 : (t313 == 0) = false := beq_eq_false_iff_ne.mpr c69
           have c69b1 : (t313 != 0) = true := bne_iff_ne.mpr c69
           obtain rfl := Option.some.inj H
           go_wp2_with (first | ((with_reducible refine gate_callee (f := 8) rfl ?_); refine goesL_ (some 106) rfl rfl Try.func8 (by kernel_rfl) rfl #[.slice A2 l2.length c2, .int .i64 a3] rfl (au3) ?_; (with_reducible refine (method_Read.calls kj33 _ _ l2 a3 t298 t301 t304 t305 t306 t307 t308 t309 t312 t313 _ ?side1 ?side2 A68.out).mono ?_); (case side1 => repeat (first | exact (Kd.C_below HR2.out HB.out) | (with_reducible refine Kd.C_alloc ?_ _) | (with_reducible refine Kd.C_drewN ?_ _) | (with_reducible refine Kd.C_drew ?_))); (case side2 => exact HC2.out); rintro e w96 ⟨v299, v302, v310, rfl, ho0, ho1, ho2, hb⟩; refine ⟨_, rfl, ?_⟩; have n0_ := Aside0.mk (Kd.R_lower ho0 (below_size (au2))); have n1_ := Aside0.mk (Kd.R_lower ho1 (below_size (au2))); have n2_ := Aside0.mk (Kd.R_lower ho2 (below_size (au2))); have n3_ := Aside0.mk (blk_below (g := gb255) (o := .cells #[.slice A0_0 l0_0.length c0_0, .slice A0_1 l0_1.length c0_1, .int .u8 a0_2, .bool a0_3, .int .i64 a0_4, .int .i64 a0_5, .int .i64 a0_6, .slice A0_7 l0_7.length c0_7] 25 (0, 0)) (au9) hb); have n4_ := Aside0.mk (below_step (au2) hb); clear BK255; clear HB; have HO300 := n0_; have HO303 := n1_; have HO311 := n2_; have BK255 := n3_; have HB := n4_; clear n0_ n1_ n2_ n3_ n4_; (try clear hb); (try clear hb2); (try clear hk); (try clear hi); (try clear ho0); (try clear ho1); (try clear ho2)) | ((with_reducible refine gate_dst (N := 14) rfl ?_); (try (refine gate_guard (by rfl) ?_; dsimp only)); refine box_event ?hg (N := 14) ?hd (cs := #[.slice none 0 0, .slice none 0 0, .int .u8 0, .bool false, .int .i64 0, .int .i64 0, .int .i64 0, .slice none 0 0]) (t := 25) ?hr ?_; (case hd => rfl); (case hg => rfl); (case hr => first | (go_simp; done) | (go_simp; rfl)); intro gb314 hg w97 hbox hb; have n0_ := Aside0.mk (Kd.R_below (au68) hb); have n1_ := Aside0.mk (Kd.R_below (au69) hb); have n2_ := Aside0.mk (Kd.R_below (au70) hb); have n3_ := Aside0.mk (blk_below (g := gb255) (o := .cells #[.slice A0_0 l0_0.length c0_0, .slice A0_1 l0_1.length c0_1, .int .u8 a0_2, .bool a0_3, .int .i64 a0_4, .int .i64 a0_5, .int .i64 a0_6, .slice A0_7 l0_7.length c0_7] 25 (0, 0)) (au9) hb); have n4_ := Aside0.mk (below_step (au2) hb); have n5_ := Aside0.mk (hbox); have n6_ := Aside0.mk ((by rw [hg]; exact (below_size (au2)) : w.heap.size ≤ gb314)); have n7_ := Aside0.mk ((by rw [hg]; exact (below_size (au2)) : w.heap.size ≤ gb314)); have n8_ := Aside0.mk ((au63 : gb255 ≠ gb314)); have n9_ := Aside0.mk ((au64 : gb314 ≠ gb255)); clear HO300; clear HO303; clear HO311; clear BK255; clear HB; have HO300 := n0_; have HO303 := n1_; have HO311 := n2_; have BK255 := n3_; have HB := n4_; have BK314 := n5_; have GW314 := n6_; have GE314 := n7_; have NB255_314 := n8_; have NB314_255 := n9_; clear n0_ n1_ n2_ n3_ n4_ n5_ n6_ n7_ n8_ n9_; clear hb hbox hg; obtain ⟨Ao98, co98, eo98⟩ := Kd.R_slice HO300.out; subst eo98; have hnb99 := NB314_255.out; have hnc99 := NB255_314.out; obtain ⟨hcz100_0, hcz100_1, hcz100_2, hcz100_3, hcz100_4, hcz100_5, hcz100_6, hcz100_7, hfz100_0, hfz100_1, hfz100_2, hfz100_3, hfz100_4, hfz100_5, hfz100_6, hfz100_7⟩ := blk_all8 BK314.out; obtain ⟨Ao101, co101, eo101⟩ := Kd.R_slice HO303.out; subst eo101; obtain ⟨Ao102, co102, eo102⟩ := Kd.R_slice HO311.out; subst eo102))
           go_ret
           exact ⟨au10, au44⟩
 ·
  replace c6 := Bool.eq_false_iff.mpr c6
  subst c6
  have H1 : (none) = some r := by rw [if_neg (show ¬ (false = true) by decide)] at H; exact H
  clear H
  have H := H1
  clear H1
  exact absurd H (by simp)

/-- THE ONE PURE STATEMENT of capstanlaw07_MethodBack: yours. -/
def capstanlaw07_MethodBack.Pure : Prop := ∀ (l0_0 : List Int) (l0_1 : List Int) (a0_2 : Int) (a0_3 : Bool) (a0_4 : Int) (a0_5 : Int) (a0_6 : Int) (l0_7 : List (S114)) (l1 : List Int) (l2 : List Int) (a3 : Int), ((l0_0.length ≤ maxLen ∧ ∀ y0_ ∈ l0_0, (Lit.int .u8 y0_).wf = true) ∧ (l0_1.length ≤ maxLen ∧ ∀ y0_ ∈ l0_1, (Lit.int .u8 y0_).wf = true) ∧ (Lit.int .u8 a0_2).wf = true ∧ True ∧ (Lit.int .i64 a0_4).wf = true ∧ (Lit.int .i64 a0_5).wf = true ∧ (Lit.int .i64 a0_6).wf = true ∧ (l0_7.length ≤ maxLen ∧ ∀ y0_ ∈ l0_7, (Lit.int .u8 y0_.f0).wf = true ∧ (Lit.int .i64 y0_.f1).wf = true ∧ (Lit.int .i64 y0_.f2).wf = true)) → l1.length ≤ maxLen → l1.length * 1 ≤ 140737488351232 → (∀ x ∈ l1, (Lit.int .u8 x).wf = true) → l2.length ≤ maxLen → l2.length * 1 ≤ 140737488351232 → (∀ x ∈ l2, (Lit.int .u8 x).wf = true) → (Lit.int .i64 a3).wf = true → ∃ k, capstanlaw07_MethodBack.f k l0_0 l0_1 a0_2 a0_3 a0_4 a0_5 a0_6 l0_7 l1 l2 a3 = some true
theorem capstanlaw07_MethodBack.walk (P : capstanlaw07_MethodBack.Pure) (A0_0 : Option Addr) (c0_0 : Nat) (l0_0 : List Int) (A0_1 : Option Addr) (c0_1 : Nat) (l0_1 : List Int) (a0_2 : Int) (a0_3 : Bool) (a0_4 : Int) (a0_5 : Int) (a0_6 : Int) (A0_7 : Option Addr) (c0_7 : Nat) (l0_7 : List (S114)) (a1 : Option Addr) (len1 cap1 : Nat) (z1 : List Int) (a2 : Option Addr) (len2 cap2 : Nat) (z2 : List Int) (a3 : Int) (w : World) (hr0_0 : Kd.C (Kd.int .u8) w A0_0 l0_0.length l0_0) (hc0_0 : l0_0.length ≤ c0_0) (hr0_1 : Kd.C (Kd.int .u8) w A0_1 l0_1.length l0_1) (hc0_1 : l0_1.length ≤ c0_1) (hr0_7 : Kd.C k114 w A0_7 l0_7.length l0_7) (hc0_7 : l0_7.length ≤ c0_7) (g0 : (l0_0.length ≤ maxLen ∧ ∀ y0_ ∈ l0_0, (Lit.int .u8 y0_).wf = true) ∧ (l0_1.length ≤ maxLen ∧ ∀ y0_ ∈ l0_1, (Lit.int .u8 y0_).wf = true) ∧ (Lit.int .u8 a0_2).wf = true ∧ True ∧ (Lit.int .i64 a0_4).wf = true ∧ (Lit.int .i64 a0_5).wf = true ∧ (Lit.int .i64 a0_6).wf = true ∧ (l0_7.length ≤ maxLen ∧ ∀ y0_ ∈ l0_7, (Lit.int .u8 y0_.f0).wf = true ∧ (Lit.int .i64 y0_.f1).wf = true ∧ (Lit.int .i64 y0_.f2).wf = true)) (w1 : (a1 = none ∧ len1 = 0 ∧ cap1 = 0 ∧ z1 = []) ∨ ∃ x, a1 = some x ∧ len1 ≤ cap1 ∧ cap1 ≤ maxLen ∧ z1.length = cap1 ∧ (∀ i, i < z1.length → w.cell? (x.add i) = some (.int .u8 (z1.getD i 0))) ∧ ∀ n ∈ z1, (Lit.int .u8 n).wf = true) (y1 : len1 * 1 ≤ 140737488351232) (w2 : (a2 = none ∧ len2 = 0 ∧ cap2 = 0 ∧ z2 = []) ∨ ∃ x, a2 = some x ∧ len2 ≤ cap2 ∧ cap2 ≤ maxLen ∧ z2.length = cap2 ∧ (∀ i, i < z2.length → w.cell? (x.add i) = some (.int .u8 (z2.getD i 0))) ∧ ∀ n ∈ z2, (Lit.int .u8 n).wf = true) (y2 : len2 * 1 ≤ 140737488351232) (w3 : (Lit.int .i64 a3).wf = true) :
  Calls Try.prog 5 #[.agg #[.slice A0_0 l0_0.length c0_0, .slice A0_1 l0_1.length c0_1, .int .u8 a0_2, .bool a0_3, .int .i64 a0_4, .int .i64 a0_5, .int .i64 a0_6, .slice A0_7 l0_7.length c0_7], .slice a1 len1 cap1, .slice a2 len2 cap2, .int .i64 a3] w fun e w' => e = .returned (.bool true) ∧ Below w.heap.size w w' := by
 obtain ⟨l1, rfl, hr1, hm1, hw1, hc1⟩ := ReadsInt.ofRowC w1
 obtain ⟨l2, rfl, hr2, hm2, hw2, hc2⟩ := ReadsInt.ofRowC w2
 obtain ⟨k, h⟩ := P l0_0 l0_1 a0_2 a0_3 a0_4 a0_5 a0_6 l0_7 l1 l2 a3 g0 hm1 y1 hw1 hm2 y2 hw2 w3
 refine (capstanlaw07_MethodBack.calls k _ _ l0_0 _ _ l0_1 a0_2 a0_3 a0_4 a0_5 a0_6 _ _ l0_7 _ _ l1 _ _ l2 a3 true w hr0_0 hc0_0 hr0_1 hc0_1 hr0_7 hc0_7 (Kd.C_of_reads (d := (0 : Int)) (h1 := fun _ => rfl) hr1) hc1 (Kd.C_of_reads (d := (0 : Int)) (h1 := fun _ => rfl) hr2) hc2 h).mono ?_
 rintro e w' ⟨rfl, hd⟩
 exact ⟨rfl, hd⟩

end Go.Proofs.Ytdbdajifalioiaa.V
