/- Contracts of the functions of this seat (each: the call of the function does what the plain Lean function of the same name tells; the conditions stand in each statement). Written by a program of this session and by hand; checked by Lean. -/
import Derived.Test.YtjnmomhkiknhdaaT0
import Derived.Test.YtjnmomhkiknhdaaT3
import Derived.Test.YtjnmomhkiknhdaaT4
import Derived.Test.YtjnmomhkiknhdaaT5
import Derived.Test.YtjnmomhkiknhdaaT7
import Derived.Test.YtjnmomhkiknhdaaT8
import Derived.Test.YtjnmomhkiknhdaaT9
import Derived.Test.YtjnmomhkiknhdaaT11
import Derived.Test.YtjnmomhkiknhdaaT13
import Derived.Test.YtjnmomhkiknhdaaT15
import Derived.Test.YtjnmomhkiknhdaaT16
namespace Go.Proofs.Ytjnmomhkiknhdaa.T
open Go.RowKit Go.Proofs.YtjnmomhkiknhdaaW.PrintWords Go.Proofs.YtjnmomhkiknhdaaW.PrintLast Go.Proofs.YtjnmomhkiknhdaaW.PrintMore
attribute [local go_sem] max2_int min2_int max_two min_two max_three min_three max_four min_four   -- for this text's walks alone
set_option linter.unusedVariables false
set_option linter.unusedSimpArgs false

/-! ### capstanlaw07_MethodTells: function 5 -/
mutual
def capstanlaw07_MethodTells.j0 : Nat → List (S35) → Bool → List Int → List Int → Int → Bool → Int → Int → Int → List (S130) → List Int → List Int → Int → Bool → Int → Int → Int → List (S130) → Option (Bool)
 | 0, _, _, _, _, _, _, _, _, _, _, _, _, _, _, _, _, _, _ => none
 | k + 1, x2, x31, x347000, x347001, x347002, x347003, x347004, x347005, x347006, x347007, x348000, x348001, x348002, x348003, x348004, x348005, x348006, x348007 => if x31 = true then (some true) else ((capstanlaw07_twin.f x347000 x347001 x347002 x347003 x347004 x347005 x347006 x347007).bind fun bt350 => ((capstanref07_Bytes.f k x347000 x347001 x347002 x347003 x347004 x347005 x347006 x347007).bind fun bt365 => ((method_May.f k bt350.1 bt350.2.1 bt350.2.2.1 bt350.2.2.2.1 bt350.2.2.2.2.1 bt350.2.2.2.2.2.1 bt350.2.2.2.2.2.2.1 bt350.2.2.2.2.2.2.2).bind fun t369 => ((capstanref07_May.f k x347000 x347001 x347002 x347003 x347004 x347005 x347006 x347007).bind fun t370 => (if (t369 != t370) = true then (none) else ((method_Migrates.f k bt350.1 bt350.2.1 bt350.2.2.1 bt350.2.2.2.1 bt350.2.2.2.2.1 bt350.2.2.2.2.2.1 bt350.2.2.2.2.2.2.1 bt350.2.2.2.2.2.2.2).bind fun t371 => ((capstanref07_Migrates.f k x347000 x347001 x347002 x347003 x347004 x347005 x347006 x347007).bind fun t372 => (if (t371 != t372) = true then (none) else ((method_Fits.f k bt350.1 bt350.2.1 bt350.2.2.1 bt350.2.2.2.1 bt350.2.2.2.2.1 bt350.2.2.2.2.2.1 bt350.2.2.2.2.2.2.1 bt350.2.2.2.2.2.2.2 x2).bind fun t373 => ((capstanref07_Fits.f k x347000 x347001 x347002 x347003 x347004 x347005 x347006 x347007 x2).bind fun t374 => (if (t373 != t374) = true then (none) else ((method_Same.f k bt350.1 bt350.2.1 bt350.2.2.1 bt350.2.2.2.1 bt350.2.2.2.2.1 bt350.2.2.2.2.2.1 bt350.2.2.2.2.2.2.1 bt350.2.2.2.2.2.2.2 x348000 x348001 x348002 x348003 x348004 x348005 x348006 x348007).bind fun t375 => ((capstanref07_Same.f k x347000 x347001 x347002 x347003 x347004 x347005 x347006 x347007 x348000 x348001 x348002 x348003 x348004 x348005 x348006 x348007).bind fun t376 => (capstanlaw07_MethodTells.j1 k bt365.1 bt365.2 (t375 != t376) x347000 x347001 x347002 x347003 x347004 x347005 x347006 x347007 bt350.1 bt350.2.1 bt350.2.2.1 bt350.2.2.2.1 bt350.2.2.2.2.1 bt350.2.2.2.2.2.1 bt350.2.2.2.2.2.2.1 bt350.2.2.2.2.2.2.2))))))))))))))
def capstanlaw07_MethodTells.j1 : Nat → List Int → Int → Bool → List Int → List Int → Int → Bool → Int → Int → Int → List (S130) → List Int → List Int → Int → Bool → Int → Int → Int → List (S130) → Option (Bool)
 | 0, _, _, _, _, _, _, _, _, _, _, _, _, _, _, _, _, _, _, _ => none
 | k + 1, x8, x9, x68, x347000, x347001, x347002, x347003, x347004, x347005, x347006, x347007, x365000, x365001, x365002, x365003, x365004, x365005, x365006, x365007 => if x68 = true then (none) else (capstanlaw07_MethodTells.l0 k x8 x9 0 x347000 x347001 x347002 x347003 x347004 x347005 x347006 x347007 x365000 x365001 x365002 x365003 x365004 x365005 x365006 x365007)
def capstanlaw07_MethodTells.l0 : Nat → List Int → Int → Int → List Int → List Int → Int → Bool → Int → Int → Int → List (S130) → List Int → List Int → Int → Bool → Int → Int → Int → List (S130) → Option (Bool)
 | 0, _, _, _, _, _, _, _, _, _, _, _, _, _, _, _, _, _, _, _ => none
 | k + 1, x8, x9, x10, x347000, x347001, x347002, x347003, x347004, x347005, x347006, x347007, x365000, x365001, x365002, x365003, x365004, x365005, x365006, x365007 => if x10 < 2 then ((method_Bytes.f k x365000 x365001 x365002 x365003 x365004 x365005 x365006 x365007).bind fun bt377 => ((method_Kinds.f k x365000 x365001 x365002 x365003 x365004 x365005 x365006 x365007).bind fun t381 => ((method_Zeros.f k x365000 x365001 x365002 x365003 x365004 x365005 x365006 x365007).bind fun bt384 => ((capstanref07_Zeros.f k x347000 x347001 x347002 x347003 x347004 x347005 x347006 x347007).bind fun bt388 => (if (strOfNums bt377.1).toList = (strOfNums x8).toList then (if bt377.2 = x9 then ((capstanref07_Kinds.f x347000 x347001 x347002 x347003 x347004 x347005 x347006 x347007).bind fun t392 => ((capstanref07_SameKinds.f k t381 t392).bind fun t395 => (if t395 = true then ((capstanref03_Same.f k bt384.1 bt388.1).bind fun t396 => (if t396 = true then (if (bt384.2 != bt388.2) = true then (none) else ((capstanref07_Same.f k x365000 x365001 x365002 x365003 x365004 x365005 x365006 x365007 x347000 x347001 x347002 x347003 x347004 x347005 x347006 x347007).bind fun t397 => (capstanlaw07_MethodTells.j3 k x8 x9 x10 bt377.1 t381 bt384.1 (!t397) x347000 x347001 x347002 x347003 x347004 x347005 x347006 x347007 x365000 x365001 x365002 x365003 x365004 x365005 x365006 x365007))) else (none))) else (none)))) else (none)) else (none)))))) else (some true)
def capstanlaw07_MethodTells.j3 : Nat → List Int → Int → Int → List Int → List Int → List (S35) → Bool → List Int → List Int → Int → Bool → Int → Int → Int → List (S130) → List Int → List Int → Int → Bool → Int → Int → Int → List (S130) → Option (Bool)
 | 0, _, _, _, _, _, _, _, _, _, _, _, _, _, _, _, _, _, _, _, _, _, _, _ => none
 | k + 1, x8, x9, x10, x11, x13, x14, x123, x347000, x347001, x347002, x347003, x347004, x347005, x347006, x347007, x365000, x365001, x365002, x365003, x365004, x365005, x365006, x365007 => if x123 = true then (none) else (capstanlaw07_MethodTells.l1 k x8 x9 x10 x11 x13 x14 0 x347000 x347001 x347002 x347003 x347004 x347005 x347006 x347007 x365000 x365001 x365002 x365003 x365004 x365005 x365006 x365007)
def capstanlaw07_MethodTells.l1 : Nat → List Int → Int → Int → List Int → List Int → List (S35) → Int → List Int → List Int → Int → Bool → Int → Int → Int → List (S130) → List Int → List Int → Int → Bool → Int → Int → Int → List (S130) → Option (Bool)
 | 0, _, _, _, _, _, _, _, _, _, _, _, _, _, _, _, _, _, _, _, _, _, _, _ => none
 | k + 1, x8, x9, x10, x11, x13, x14, x18, x347000, x347001, x347002, x347003, x347004, x347005, x347006, x347007, x365000, x365001, x365002, x365003, x365004, x365005, x365006, x365007 => if x18 < (x11.length : Int) then (if 0 ≤ x18 then (capstanlaw07_MethodTells.l1 k x8 x9 x10 (x11.set (x18 : Int).toNat (((rd x11 x18) + 1) % 256)) x13 x14 (wrap64 (x18 + 1)) x347000 x347001 x347002 x347003 x347004 x347005 x347006 x347007 x365000 x365001 x365002 x365003 x365004 x365005 x365006 x365007) else (none)) else (capstanlaw07_MethodTells.l2 k x8 x9 x10 x13 x14 0 x347000 x347001 x347002 x347003 x347004 x347005 x347006 x347007 x365000 x365001 x365002 x365003 x365004 x365005 x365006 x365007)
def capstanlaw07_MethodTells.l2 : Nat → List Int → Int → Int → List Int → List (S35) → Int → List Int → List Int → Int → Bool → Int → Int → Int → List (S130) → List Int → List Int → Int → Bool → Int → Int → Int → List (S130) → Option (Bool)
 | 0, _, _, _, _, _, _, _, _, _, _, _, _, _, _, _, _, _, _, _, _, _, _ => none
 | k + 1, x8, x9, x10, x13, x14, x19, x347000, x347001, x347002, x347003, x347004, x347005, x347006, x347007, x365000, x365001, x365002, x365003, x365004, x365005, x365006, x365007 => if x19 < (x13.length : Int) then (if 0 ≤ x19 then (capstanlaw07_MethodTells.l2 k x8 x9 x10 (x13.set (x19 : Int).toNat 77) x14 (wrap64 (x19 + 1)) x347000 x347001 x347002 x347003 x347004 x347005 x347006 x347007 x365000 x365001 x365002 x365003 x365004 x365005 x365006 x365007) else (none)) else (capstanlaw07_MethodTells.l3 k x8 x9 x10 x14 0 x347000 x347001 x347002 x347003 x347004 x347005 x347006 x347007 x365000 x365001 x365002 x365003 x365004 x365005 x365006 x365007)
def capstanlaw07_MethodTells.l3 : Nat → List Int → Int → Int → List (S35) → Int → List Int → List Int → Int → Bool → Int → Int → Int → List (S130) → List Int → List Int → Int → Bool → Int → Int → Int → List (S130) → Option (Bool)
 | 0, _, _, _, _, _, _, _, _, _, _, _, _, _, _, _, _, _, _, _, _, _ => none
 | k + 1, x8, x9, x10, x14, x20, x347000, x347001, x347002, x347003, x347004, x347005, x347006, x347007, x365000, x365001, x365002, x365003, x365004, x365005, x365006, x365007 => if x20 < (x14.length : Int) then (if 0 ≤ x20 then (capstanlaw07_MethodTells.l3 k x8 x9 x10 (x14.set (x20 : Int).toNat (⟨77, (rd_T35 x14 x20).f1, (rd_T35 x14 x20).f2⟩ : S35)) (wrap64 (x20 + 1)) x347000 x347001 x347002 x347003 x347004 x347005 x347006 x347007 x365000 x365001 x365002 x365003 x365004 x365005 x365006 x365007) else (none)) else (capstanlaw07_MethodTells.l0 k x8 x9 (wrap64 (x10 + 1)) x347000 x347001 x347002 x347003 x347004 x347005 x347006 x347007 x365000 x365001 x365002 x365003 x365004 x365005 x365006 x365007)
end
def capstanlaw07_MethodTells.f (k : Nat) (l0_0 : List Int) (l0_1 : List Int) (a0_2 : Int) (a0_3 : Bool) (a0_4 : Int) (a0_5 : Int) (a0_6 : Int) (l0_7 : List (S130)) (l1_0 : List Int) (l1_1 : List Int) (a1_2 : Int) (a1_3 : Bool) (a1_4 : Int) (a1_5 : Int) (a1_6 : Int) (l1_7 : List (S130)) (l2 : List (S35)) : Option (Bool) := (capstanlaw07_Great.f l0_0 l0_1 a0_2 a0_3 a0_4 a0_5 a0_6 l0_7).bind fun t348 => (if t348 = true then (capstanlaw07_MethodTells.j0 k l2 true l0_0 l0_1 a0_2 a0_3 a0_4 a0_5 a0_6 l0_7 l1_0 l1_1 a1_2 a1_3 a1_4 a1_5 a1_6 l1_7) else ((capstanlaw07_Great.f l1_0 l1_1 a1_2 a1_3 a1_4 a1_5 a1_6 l1_7).bind fun t349 => (if t349 = true then (capstanlaw07_MethodTells.j0 k l2 true l0_0 l0_1 a0_2 a0_3 a0_4 a0_5 a0_6 l0_7 l1_0 l1_1 a1_2 a1_3 a1_4 a1_5 a1_6 l1_7) else (capstanlaw07_MethodTells.j0 k l2 (decide ((l2.length : Int) > 100)) l0_0 l0_1 a0_2 a0_3 a0_4 a0_5 a0_6 l0_7 l1_0 l1_1 a1_2 a1_3 a1_4 a1_5 a1_6 l1_7))))
theorem capstanlaw07_MethodTells.mono_l : ∀ k, (∀ y0 y1 y2 y3 y4 y5 y6 y7 y8 y9 y10 y11 y12 y13 y14 y15 y16 y17, LeO (capstanlaw07_MethodTells.j0 k y0 y1 y2 y3 y4 y5 y6 y7 y8 y9 y10 y11 y12 y13 y14 y15 y16 y17) (capstanlaw07_MethodTells.j0 (k + 1) y0 y1 y2 y3 y4 y5 y6 y7 y8 y9 y10 y11 y12 y13 y14 y15 y16 y17)) ∧ (∀ y0 y1 y2 y3 y4 y5 y6 y7 y8 y9 y10 y11 y12 y13 y14 y15 y16 y17 y18, LeO (capstanlaw07_MethodTells.j1 k y0 y1 y2 y3 y4 y5 y6 y7 y8 y9 y10 y11 y12 y13 y14 y15 y16 y17 y18) (capstanlaw07_MethodTells.j1 (k + 1) y0 y1 y2 y3 y4 y5 y6 y7 y8 y9 y10 y11 y12 y13 y14 y15 y16 y17 y18)) ∧ (∀ y0 y1 y2 y3 y4 y5 y6 y7 y8 y9 y10 y11 y12 y13 y14 y15 y16 y17 y18, LeO (capstanlaw07_MethodTells.l0 k y0 y1 y2 y3 y4 y5 y6 y7 y8 y9 y10 y11 y12 y13 y14 y15 y16 y17 y18) (capstanlaw07_MethodTells.l0 (k + 1) y0 y1 y2 y3 y4 y5 y6 y7 y8 y9 y10 y11 y12 y13 y14 y15 y16 y17 y18)) ∧ (∀ y0 y1 y2 y3 y4 y5 y6 y7 y8 y9 y10 y11 y12 y13 y14 y15 y16 y17 y18 y19 y20 y21 y22, LeO (capstanlaw07_MethodTells.j3 k y0 y1 y2 y3 y4 y5 y6 y7 y8 y9 y10 y11 y12 y13 y14 y15 y16 y17 y18 y19 y20 y21 y22) (capstanlaw07_MethodTells.j3 (k + 1) y0 y1 y2 y3 y4 y5 y6 y7 y8 y9 y10 y11 y12 y13 y14 y15 y16 y17 y18 y19 y20 y21 y22)) ∧ (∀ y0 y1 y2 y3 y4 y5 y6 y7 y8 y9 y10 y11 y12 y13 y14 y15 y16 y17 y18 y19 y20 y21 y22, LeO (capstanlaw07_MethodTells.l1 k y0 y1 y2 y3 y4 y5 y6 y7 y8 y9 y10 y11 y12 y13 y14 y15 y16 y17 y18 y19 y20 y21 y22) (capstanlaw07_MethodTells.l1 (k + 1) y0 y1 y2 y3 y4 y5 y6 y7 y8 y9 y10 y11 y12 y13 y14 y15 y16 y17 y18 y19 y20 y21 y22)) ∧ (∀ y0 y1 y2 y3 y4 y5 y6 y7 y8 y9 y10 y11 y12 y13 y14 y15 y16 y17 y18 y19 y20 y21, LeO (capstanlaw07_MethodTells.l2 k y0 y1 y2 y3 y4 y5 y6 y7 y8 y9 y10 y11 y12 y13 y14 y15 y16 y17 y18 y19 y20 y21) (capstanlaw07_MethodTells.l2 (k + 1) y0 y1 y2 y3 y4 y5 y6 y7 y8 y9 y10 y11 y12 y13 y14 y15 y16 y17 y18 y19 y20 y21)) ∧ (∀ y0 y1 y2 y3 y4 y5 y6 y7 y8 y9 y10 y11 y12 y13 y14 y15 y16 y17 y18 y19 y20, LeO (capstanlaw07_MethodTells.l3 k y0 y1 y2 y3 y4 y5 y6 y7 y8 y9 y10 y11 y12 y13 y14 y15 y16 y17 y18 y19 y20) (capstanlaw07_MethodTells.l3 (k + 1) y0 y1 y2 y3 y4 y5 y6 y7 y8 y9 y10 y11 y12 y13 y14 y15 y16 y17 y18 y19 y20))
 | 0 => ⟨fun _ _ _ _ _ _ _ _ _ _ _ _ _ _ _ _ _ _ r h => by simp [capstanlaw07_MethodTells.j0] at h, fun _ _ _ _ _ _ _ _ _ _ _ _ _ _ _ _ _ _ _ r h => by simp [capstanlaw07_MethodTells.j1] at h, fun _ _ _ _ _ _ _ _ _ _ _ _ _ _ _ _ _ _ _ r h => by simp [capstanlaw07_MethodTells.l0] at h, fun _ _ _ _ _ _ _ _ _ _ _ _ _ _ _ _ _ _ _ _ _ _ _ r h => by simp [capstanlaw07_MethodTells.j3] at h, fun _ _ _ _ _ _ _ _ _ _ _ _ _ _ _ _ _ _ _ _ _ _ _ r h => by simp [capstanlaw07_MethodTells.l1] at h, fun _ _ _ _ _ _ _ _ _ _ _ _ _ _ _ _ _ _ _ _ _ _ r h => by simp [capstanlaw07_MethodTells.l2] at h, fun _ _ _ _ _ _ _ _ _ _ _ _ _ _ _ _ _ _ _ _ _ r h => by simp [capstanlaw07_MethodTells.l3] at h⟩
 | k + 1 => by
  obtain ⟨ih0, ih1, ih2, ih3, ih4, ih5, ih6⟩ := capstanlaw07_MethodTells.mono_l k
  refine ⟨?_, ?_, ?_, ?_, ?_, ?_, ?_⟩
  ·
   intro y0 y1 y2 y3 y4 y5 y6 y7 y8 y9 y10 y11 y12 y13 y14 y15 y16 y17
   unfold capstanlaw07_MethodTells.j0
   repeat' first
   | (with_reducible exact ih0 _ _ _ _ _ _ _ _ _ _ _ _ _ _ _ _ _ _)
   | (with_reducible exact ih1 _ _ _ _ _ _ _ _ _ _ _ _ _ _ _ _ _ _ _)
   | (with_reducible exact ih2 _ _ _ _ _ _ _ _ _ _ _ _ _ _ _ _ _ _ _)
   | (with_reducible exact ih3 _ _ _ _ _ _ _ _ _ _ _ _ _ _ _ _ _ _ _ _ _ _ _)
   | (with_reducible exact ih4 _ _ _ _ _ _ _ _ _ _ _ _ _ _ _ _ _ _ _ _ _ _ _)
   | (with_reducible exact ih5 _ _ _ _ _ _ _ _ _ _ _ _ _ _ _ _ _ _ _ _ _ _)
   | (with_reducible exact ih6 _ _ _ _ _ _ _ _ _ _ _ _ _ _ _ _ _ _ _ _ _)
   | (with_reducible exact capstanref03_Same.mono _ _ _)
   | (with_reducible exact capstanref07_Bytes.mono _ _ _ _ _ _ _ _ _)
   | (with_reducible exact capstanref07_Fits.mono _ _ _ _ _ _ _ _ _ _)
   | (with_reducible exact capstanref07_May.mono _ _ _ _ _ _ _ _ _)
   | (with_reducible exact capstanref07_Migrates.mono _ _ _ _ _ _ _ _ _)
   | (with_reducible exact capstanref07_Same.mono _ _ _ _ _ _ _ _ _ _ _ _ _ _ _ _ _)
   | (with_reducible exact capstanref07_SameKinds.mono _ _ _)
   | (with_reducible exact capstanref07_Zeros.mono _ _ _ _ _ _ _ _ _)
   | (with_reducible exact method_Bytes.mono _ _ _ _ _ _ _ _ _)
   | (with_reducible exact method_Fits.mono _ _ _ _ _ _ _ _ _ _)
   | (with_reducible exact method_Kinds.mono _ _ _ _ _ _ _ _ _)
   | (with_reducible exact method_May.mono _ _ _ _ _ _ _ _ _)
   | (with_reducible exact method_Migrates.mono _ _ _ _ _ _ _ _ _)
   | (with_reducible exact method_Same.mono _ _ _ _ _ _ _ _ _ _ _ _ _ _ _ _ _)
   | (with_reducible exact method_Zeros.mono _ _ _ _ _ _ _ _ _)
   | (with_reducible exact LeO.refl _)
   | (with_reducible exact LeO.none _)
   | (with_reducible refine LeO.ite ?_ ?_)
   | (with_reducible refine LeO.bind ?_ (fun _ => ?_))
   | exact ih0 _ _ _ _ _ _ _ _ _ _ _ _ _ _ _ _ _ _
   | exact ih1 _ _ _ _ _ _ _ _ _ _ _ _ _ _ _ _ _ _ _
   | exact ih2 _ _ _ _ _ _ _ _ _ _ _ _ _ _ _ _ _ _ _
   | exact ih3 _ _ _ _ _ _ _ _ _ _ _ _ _ _ _ _ _ _ _ _ _ _ _
   | exact ih4 _ _ _ _ _ _ _ _ _ _ _ _ _ _ _ _ _ _ _ _ _ _ _
   | exact ih5 _ _ _ _ _ _ _ _ _ _ _ _ _ _ _ _ _ _ _ _ _ _
   | exact ih6 _ _ _ _ _ _ _ _ _ _ _ _ _ _ _ _ _ _ _ _ _
   | exact capstanref03_Same.mono _ _ _
   | exact capstanref07_Bytes.mono _ _ _ _ _ _ _ _ _
   | exact capstanref07_Fits.mono _ _ _ _ _ _ _ _ _ _
   | exact capstanref07_May.mono _ _ _ _ _ _ _ _ _
   | exact capstanref07_Migrates.mono _ _ _ _ _ _ _ _ _
   | exact capstanref07_Same.mono _ _ _ _ _ _ _ _ _ _ _ _ _ _ _ _ _
   | exact capstanref07_SameKinds.mono _ _ _
   | exact capstanref07_Zeros.mono _ _ _ _ _ _ _ _ _
   | exact method_Bytes.mono _ _ _ _ _ _ _ _ _
   | exact method_Fits.mono _ _ _ _ _ _ _ _ _ _
   | exact method_Kinds.mono _ _ _ _ _ _ _ _ _
   | exact method_May.mono _ _ _ _ _ _ _ _ _
   | exact method_Migrates.mono _ _ _ _ _ _ _ _ _
   | exact method_Same.mono _ _ _ _ _ _ _ _ _ _ _ _ _ _ _ _ _
   | exact method_Zeros.mono _ _ _ _ _ _ _ _ _
   | exact LeO.none _
   | refine LeO.ite ?_ ?_
   | refine LeO.bind ?_ (fun _ => ?_)
  ·
   intro y0 y1 y2 y3 y4 y5 y6 y7 y8 y9 y10 y11 y12 y13 y14 y15 y16 y17 y18
   unfold capstanlaw07_MethodTells.j1
   repeat' first
   | (with_reducible exact ih0 _ _ _ _ _ _ _ _ _ _ _ _ _ _ _ _ _ _)
   | (with_reducible exact ih1 _ _ _ _ _ _ _ _ _ _ _ _ _ _ _ _ _ _ _)
   | (with_reducible exact ih2 _ _ _ _ _ _ _ _ _ _ _ _ _ _ _ _ _ _ _)
   | (with_reducible exact ih3 _ _ _ _ _ _ _ _ _ _ _ _ _ _ _ _ _ _ _ _ _ _ _)
   | (with_reducible exact ih4 _ _ _ _ _ _ _ _ _ _ _ _ _ _ _ _ _ _ _ _ _ _ _)
   | (with_reducible exact ih5 _ _ _ _ _ _ _ _ _ _ _ _ _ _ _ _ _ _ _ _ _ _)
   | (with_reducible exact ih6 _ _ _ _ _ _ _ _ _ _ _ _ _ _ _ _ _ _ _ _ _)
   | (with_reducible exact capstanref03_Same.mono _ _ _)
   | (with_reducible exact capstanref07_Bytes.mono _ _ _ _ _ _ _ _ _)
   | (with_reducible exact capstanref07_Fits.mono _ _ _ _ _ _ _ _ _ _)
   | (with_reducible exact capstanref07_May.mono _ _ _ _ _ _ _ _ _)
   | (with_reducible exact capstanref07_Migrates.mono _ _ _ _ _ _ _ _ _)
   | (with_reducible exact capstanref07_Same.mono _ _ _ _ _ _ _ _ _ _ _ _ _ _ _ _ _)
   | (with_reducible exact capstanref07_SameKinds.mono _ _ _)
   | (with_reducible exact capstanref07_Zeros.mono _ _ _ _ _ _ _ _ _)
   | (with_reducible exact method_Bytes.mono _ _ _ _ _ _ _ _ _)
   | (with_reducible exact method_Fits.mono _ _ _ _ _ _ _ _ _ _)
   | (with_reducible exact method_Kinds.mono _ _ _ _ _ _ _ _ _)
   | (with_reducible exact method_May.mono _ _ _ _ _ _ _ _ _)
   | (with_reducible exact method_Migrates.mono _ _ _ _ _ _ _ _ _)
   | (with_reducible exact method_Same.mono _ _ _ _ _ _ _ _ _ _ _ _ _ _ _ _ _)
   | (with_reducible exact method_Zeros.mono _ _ _ _ _ _ _ _ _)
   | (with_reducible exact LeO.refl _)
   | (with_reducible exact LeO.none _)
   | (with_reducible refine LeO.ite ?_ ?_)
   | (with_reducible refine LeO.bind ?_ (fun _ => ?_))
   | exact ih0 _ _ _ _ _ _ _ _ _ _ _ _ _ _ _ _ _ _
   | exact ih1 _ _ _ _ _ _ _ _ _ _ _ _ _ _ _ _ _ _ _
   | exact ih2 _ _ _ _ _ _ _ _ _ _ _ _ _ _ _ _ _ _ _
   | exact ih3 _ _ _ _ _ _ _ _ _ _ _ _ _ _ _ _ _ _ _ _ _ _ _
   | exact ih4 _ _ _ _ _ _ _ _ _ _ _ _ _ _ _ _ _ _ _ _ _ _ _
   | exact ih5 _ _ _ _ _ _ _ _ _ _ _ _ _ _ _ _ _ _ _ _ _ _
   | exact ih6 _ _ _ _ _ _ _ _ _ _ _ _ _ _ _ _ _ _ _ _ _
   | exact capstanref03_Same.mono _ _ _
   | exact capstanref07_Bytes.mono _ _ _ _ _ _ _ _ _
   | exact capstanref07_Fits.mono _ _ _ _ _ _ _ _ _ _
   | exact capstanref07_May.mono _ _ _ _ _ _ _ _ _
   | exact capstanref07_Migrates.mono _ _ _ _ _ _ _ _ _
   | exact capstanref07_Same.mono _ _ _ _ _ _ _ _ _ _ _ _ _ _ _ _ _
   | exact capstanref07_SameKinds.mono _ _ _
   | exact capstanref07_Zeros.mono _ _ _ _ _ _ _ _ _
   | exact method_Bytes.mono _ _ _ _ _ _ _ _ _
   | exact method_Fits.mono _ _ _ _ _ _ _ _ _ _
   | exact method_Kinds.mono _ _ _ _ _ _ _ _ _
   | exact method_May.mono _ _ _ _ _ _ _ _ _
   | exact method_Migrates.mono _ _ _ _ _ _ _ _ _
   | exact method_Same.mono _ _ _ _ _ _ _ _ _ _ _ _ _ _ _ _ _
   | exact method_Zeros.mono _ _ _ _ _ _ _ _ _
   | exact LeO.none _
   | refine LeO.ite ?_ ?_
   | refine LeO.bind ?_ (fun _ => ?_)
  ·
   intro y0 y1 y2 y3 y4 y5 y6 y7 y8 y9 y10 y11 y12 y13 y14 y15 y16 y17 y18
   unfold capstanlaw07_MethodTells.l0
   repeat' first
   | (with_reducible exact ih0 _ _ _ _ _ _ _ _ _ _ _ _ _ _ _ _ _ _)
   | (with_reducible exact ih1 _ _ _ _ _ _ _ _ _ _ _ _ _ _ _ _ _ _ _)
   | (with_reducible exact ih2 _ _ _ _ _ _ _ _ _ _ _ _ _ _ _ _ _ _ _)
   | (with_reducible exact ih3 _ _ _ _ _ _ _ _ _ _ _ _ _ _ _ _ _ _ _ _ _ _ _)
   | (with_reducible exact ih4 _ _ _ _ _ _ _ _ _ _ _ _ _ _ _ _ _ _ _ _ _ _ _)
   | (with_reducible exact ih5 _ _ _ _ _ _ _ _ _ _ _ _ _ _ _ _ _ _ _ _ _ _)
   | (with_reducible exact ih6 _ _ _ _ _ _ _ _ _ _ _ _ _ _ _ _ _ _ _ _ _)
   | (with_reducible exact capstanref03_Same.mono _ _ _)
   | (with_reducible exact capstanref07_Bytes.mono _ _ _ _ _ _ _ _ _)
   | (with_reducible exact capstanref07_Fits.mono _ _ _ _ _ _ _ _ _ _)
   | (with_reducible exact capstanref07_May.mono _ _ _ _ _ _ _ _ _)
   | (with_reducible exact capstanref07_Migrates.mono _ _ _ _ _ _ _ _ _)
   | (with_reducible exact capstanref07_Same.mono _ _ _ _ _ _ _ _ _ _ _ _ _ _ _ _ _)
   | (with_reducible exact capstanref07_SameKinds.mono _ _ _)
   | (with_reducible exact capstanref07_Zeros.mono _ _ _ _ _ _ _ _ _)
   | (with_reducible exact method_Bytes.mono _ _ _ _ _ _ _ _ _)
   | (with_reducible exact method_Fits.mono _ _ _ _ _ _ _ _ _ _)
   | (with_reducible exact method_Kinds.mono _ _ _ _ _ _ _ _ _)
   | (with_reducible exact method_May.mono _ _ _ _ _ _ _ _ _)
   | (with_reducible exact method_Migrates.mono _ _ _ _ _ _ _ _ _)
   | (with_reducible exact method_Same.mono _ _ _ _ _ _ _ _ _ _ _ _ _ _ _ _ _)
   | (with_reducible exact method_Zeros.mono _ _ _ _ _ _ _ _ _)
   | (with_reducible exact LeO.refl _)
   | (with_reducible exact LeO.none _)
   | (with_reducible refine LeO.ite ?_ ?_)
   | (with_reducible refine LeO.bind ?_ (fun _ => ?_))
   | exact ih0 _ _ _ _ _ _ _ _ _ _ _ _ _ _ _ _ _ _
   | exact ih1 _ _ _ _ _ _ _ _ _ _ _ _ _ _ _ _ _ _ _
   | exact ih2 _ _ _ _ _ _ _ _ _ _ _ _ _ _ _ _ _ _ _
   | exact ih3 _ _ _ _ _ _ _ _ _ _ _ _ _ _ _ _ _ _ _ _ _ _ _
   | exact ih4 _ _ _ _ _ _ _ _ _ _ _ _ _ _ _ _ _ _ _ _ _ _ _
   | exact ih5 _ _ _ _ _ _ _ _ _ _ _ _ _ _ _ _ _ _ _ _ _ _
   | exact ih6 _ _ _ _ _ _ _ _ _ _ _ _ _ _ _ _ _ _ _ _ _
   | exact capstanref03_Same.mono _ _ _
   | exact capstanref07_Bytes.mono _ _ _ _ _ _ _ _ _
   | exact capstanref07_Fits.mono _ _ _ _ _ _ _ _ _ _
   | exact capstanref07_May.mono _ _ _ _ _ _ _ _ _
   | exact capstanref07_Migrates.mono _ _ _ _ _ _ _ _ _
   | exact capstanref07_Same.mono _ _ _ _ _ _ _ _ _ _ _ _ _ _ _ _ _
   | exact capstanref07_SameKinds.mono _ _ _
   | exact capstanref07_Zeros.mono _ _ _ _ _ _ _ _ _
   | exact method_Bytes.mono _ _ _ _ _ _ _ _ _
   | exact method_Fits.mono _ _ _ _ _ _ _ _ _ _
   | exact method_Kinds.mono _ _ _ _ _ _ _ _ _
   | exact method_May.mono _ _ _ _ _ _ _ _ _
   | exact method_Migrates.mono _ _ _ _ _ _ _ _ _
   | exact method_Same.mono _ _ _ _ _ _ _ _ _ _ _ _ _ _ _ _ _
   | exact method_Zeros.mono _ _ _ _ _ _ _ _ _
   | exact LeO.none _
   | refine LeO.ite ?_ ?_
   | refine LeO.bind ?_ (fun _ => ?_)
  ·
   intro y0 y1 y2 y3 y4 y5 y6 y7 y8 y9 y10 y11 y12 y13 y14 y15 y16 y17 y18 y19 y20 y21 y22
   unfold capstanlaw07_MethodTells.j3
   repeat' first
   | (with_reducible exact ih0 _ _ _ _ _ _ _ _ _ _ _ _ _ _ _ _ _ _)
   | (with_reducible exact ih1 _ _ _ _ _ _ _ _ _ _ _ _ _ _ _ _ _ _ _)
   | (with_reducible exact ih2 _ _ _ _ _ _ _ _ _ _ _ _ _ _ _ _ _ _ _)
   | (with_reducible exact ih3 _ _ _ _ _ _ _ _ _ _ _ _ _ _ _ _ _ _ _ _ _ _ _)
   | (with_reducible exact ih4 _ _ _ _ _ _ _ _ _ _ _ _ _ _ _ _ _ _ _ _ _ _ _)
   | (with_reducible exact ih5 _ _ _ _ _ _ _ _ _ _ _ _ _ _ _ _ _ _ _ _ _ _)
   | (with_reducible exact ih6 _ _ _ _ _ _ _ _ _ _ _ _ _ _ _ _ _ _ _ _ _)
   | (with_reducible exact capstanref03_Same.mono _ _ _)
   | (with_reducible exact capstanref07_Bytes.mono _ _ _ _ _ _ _ _ _)
   | (with_reducible exact capstanref07_Fits.mono _ _ _ _ _ _ _ _ _ _)
   | (with_reducible exact capstanref07_May.mono _ _ _ _ _ _ _ _ _)
   | (with_reducible exact capstanref07_Migrates.mono _ _ _ _ _ _ _ _ _)
   | (with_reducible exact capstanref07_Same.mono _ _ _ _ _ _ _ _ _ _ _ _ _ _ _ _ _)
   | (with_reducible exact capstanref07_SameKinds.mono _ _ _)
   | (with_reducible exact capstanref07_Zeros.mono _ _ _ _ _ _ _ _ _)
   | (with_reducible exact method_Bytes.mono _ _ _ _ _ _ _ _ _)
   | (with_reducible exact method_Fits.mono _ _ _ _ _ _ _ _ _ _)
   | (with_reducible exact method_Kinds.mono _ _ _ _ _ _ _ _ _)
   | (with_reducible exact method_May.mono _ _ _ _ _ _ _ _ _)
   | (with_reducible exact method_Migrates.mono _ _ _ _ _ _ _ _ _)
   | (with_reducible exact method_Same.mono _ _ _ _ _ _ _ _ _ _ _ _ _ _ _ _ _)
   | (with_reducible exact method_Zeros.mono _ _ _ _ _ _ _ _ _)
   | (with_reducible exact LeO.refl _)
   | (with_reducible exact LeO.none _)
   | (with_reducible refine LeO.ite ?_ ?_)
   | (with_reducible refine LeO.bind ?_ (fun _ => ?_))
   | exact ih0 _ _ _ _ _ _ _ _ _ _ _ _ _ _ _ _ _ _
   | exact ih1 _ _ _ _ _ _ _ _ _ _ _ _ _ _ _ _ _ _ _
   | exact ih2 _ _ _ _ _ _ _ _ _ _ _ _ _ _ _ _ _ _ _
   | exact ih3 _ _ _ _ _ _ _ _ _ _ _ _ _ _ _ _ _ _ _ _ _ _ _
   | exact ih4 _ _ _ _ _ _ _ _ _ _ _ _ _ _ _ _ _ _ _ _ _ _ _
   | exact ih5 _ _ _ _ _ _ _ _ _ _ _ _ _ _ _ _ _ _ _ _ _ _
   | exact ih6 _ _ _ _ _ _ _ _ _ _ _ _ _ _ _ _ _ _ _ _ _
   | exact capstanref03_Same.mono _ _ _
   | exact capstanref07_Bytes.mono _ _ _ _ _ _ _ _ _
   | exact capstanref07_Fits.mono _ _ _ _ _ _ _ _ _ _
   | exact capstanref07_May.mono _ _ _ _ _ _ _ _ _
   | exact capstanref07_Migrates.mono _ _ _ _ _ _ _ _ _
   | exact capstanref07_Same.mono _ _ _ _ _ _ _ _ _ _ _ _ _ _ _ _ _
   | exact capstanref07_SameKinds.mono _ _ _
   | exact capstanref07_Zeros.mono _ _ _ _ _ _ _ _ _
   | exact method_Bytes.mono _ _ _ _ _ _ _ _ _
   | exact method_Fits.mono _ _ _ _ _ _ _ _ _ _
   | exact method_Kinds.mono _ _ _ _ _ _ _ _ _
   | exact method_May.mono _ _ _ _ _ _ _ _ _
   | exact method_Migrates.mono _ _ _ _ _ _ _ _ _
   | exact method_Same.mono _ _ _ _ _ _ _ _ _ _ _ _ _ _ _ _ _
   | exact method_Zeros.mono _ _ _ _ _ _ _ _ _
   | exact LeO.none _
   | refine LeO.ite ?_ ?_
   | refine LeO.bind ?_ (fun _ => ?_)
  ·
   intro y0 y1 y2 y3 y4 y5 y6 y7 y8 y9 y10 y11 y12 y13 y14 y15 y16 y17 y18 y19 y20 y21 y22
   unfold capstanlaw07_MethodTells.l1
   repeat' first
   | (with_reducible exact ih0 _ _ _ _ _ _ _ _ _ _ _ _ _ _ _ _ _ _)
   | (with_reducible exact ih1 _ _ _ _ _ _ _ _ _ _ _ _ _ _ _ _ _ _ _)
   | (with_reducible exact ih2 _ _ _ _ _ _ _ _ _ _ _ _ _ _ _ _ _ _ _)
   | (with_reducible exact ih3 _ _ _ _ _ _ _ _ _ _ _ _ _ _ _ _ _ _ _ _ _ _ _)
   | (with_reducible exact ih4 _ _ _ _ _ _ _ _ _ _ _ _ _ _ _ _ _ _ _ _ _ _ _)
   | (with_reducible exact ih5 _ _ _ _ _ _ _ _ _ _ _ _ _ _ _ _ _ _ _ _ _ _)
   | (with_reducible exact ih6 _ _ _ _ _ _ _ _ _ _ _ _ _ _ _ _ _ _ _ _ _)
   | (with_reducible exact capstanref03_Same.mono _ _ _)
   | (with_reducible exact capstanref07_Bytes.mono _ _ _ _ _ _ _ _ _)
   | (with_reducible exact capstanref07_Fits.mono _ _ _ _ _ _ _ _ _ _)
   | (with_reducible exact capstanref07_May.mono _ _ _ _ _ _ _ _ _)
   | (with_reducible exact capstanref07_Migrates.mono _ _ _ _ _ _ _ _ _)
   | (with_reducible exact capstanref07_Same.mono _ _ _ _ _ _ _ _ _ _ _ _ _ _ _ _ _)
   | (with_reducible exact capstanref07_SameKinds.mono _ _ _)
   | (with_reducible exact capstanref07_Zeros.mono _ _ _ _ _ _ _ _ _)
   | (with_reducible exact method_Bytes.mono _ _ _ _ _ _ _ _ _)
   | (with_reducible exact method_Fits.mono _ _ _ _ _ _ _ _ _ _)
   | (with_reducible exact method_Kinds.mono _ _ _ _ _ _ _ _ _)
   | (with_reducible exact method_May.mono _ _ _ _ _ _ _ _ _)
   | (with_reducible exact method_Migrates.mono _ _ _ _ _ _ _ _ _)
   | (with_reducible exact method_Same.mono _ _ _ _ _ _ _ _ _ _ _ _ _ _ _ _ _)
   | (with_reducible exact method_Zeros.mono _ _ _ _ _ _ _ _ _)
   | (with_reducible exact LeO.refl _)
   | (with_reducible exact LeO.none _)
   | (with_reducible refine LeO.ite ?_ ?_)
   | (with_reducible refine LeO.bind ?_ (fun _ => ?_))
   | exact ih0 _ _ _ _ _ _ _ _ _ _ _ _ _ _ _ _ _ _
   | exact ih1 _ _ _ _ _ _ _ _ _ _ _ _ _ _ _ _ _ _ _
   | exact ih2 _ _ _ _ _ _ _ _ _ _ _ _ _ _ _ _ _ _ _
   | exact ih3 _ _ _ _ _ _ _ _ _ _ _ _ _ _ _ _ _ _ _ _ _ _ _
   | exact ih4 _ _ _ _ _ _ _ _ _ _ _ _ _ _ _ _ _ _ _ _ _ _ _
   | exact ih5 _ _ _ _ _ _ _ _ _ _ _ _ _ _ _ _ _ _ _ _ _ _
   | exact ih6 _ _ _ _ _ _ _ _ _ _ _ _ _ _ _ _ _ _ _ _ _
   | exact capstanref03_Same.mono _ _ _
   | exact capstanref07_Bytes.mono _ _ _ _ _ _ _ _ _
   | exact capstanref07_Fits.mono _ _ _ _ _ _ _ _ _ _
   | exact capstanref07_May.mono _ _ _ _ _ _ _ _ _
   | exact capstanref07_Migrates.mono _ _ _ _ _ _ _ _ _
   | exact capstanref07_Same.mono _ _ _ _ _ _ _ _ _ _ _ _ _ _ _ _ _
   | exact capstanref07_SameKinds.mono _ _ _
   | exact capstanref07_Zeros.mono _ _ _ _ _ _ _ _ _
   | exact method_Bytes.mono _ _ _ _ _ _ _ _ _
   | exact method_Fits.mono _ _ _ _ _ _ _ _ _ _
   | exact method_Kinds.mono _ _ _ _ _ _ _ _ _
   | exact method_May.mono _ _ _ _ _ _ _ _ _
   | exact method_Migrates.mono _ _ _ _ _ _ _ _ _
   | exact method_Same.mono _ _ _ _ _ _ _ _ _ _ _ _ _ _ _ _ _
   | exact method_Zeros.mono _ _ _ _ _ _ _ _ _
   | exact LeO.none _
   | refine LeO.ite ?_ ?_
   | refine LeO.bind ?_ (fun _ => ?_)
  ·
   intro y0 y1 y2 y3 y4 y5 y6 y7 y8 y9 y10 y11 y12 y13 y14 y15 y16 y17 y18 y19 y20 y21
   unfold capstanlaw07_MethodTells.l2
   repeat' first
   | (with_reducible exact ih0 _ _ _ _ _ _ _ _ _ _ _ _ _ _ _ _ _ _)
   | (with_reducible exact ih1 _ _ _ _ _ _ _ _ _ _ _ _ _ _ _ _ _ _ _)
   | (with_reducible exact ih2 _ _ _ _ _ _ _ _ _ _ _ _ _ _ _ _ _ _ _)
   | (with_reducible exact ih3 _ _ _ _ _ _ _ _ _ _ _ _ _ _ _ _ _ _ _ _ _ _ _)
   | (with_reducible exact ih4 _ _ _ _ _ _ _ _ _ _ _ _ _ _ _ _ _ _ _ _ _ _ _)
   | (with_reducible exact ih5 _ _ _ _ _ _ _ _ _ _ _ _ _ _ _ _ _ _ _ _ _ _)
   | (with_reducible exact ih6 _ _ _ _ _ _ _ _ _ _ _ _ _ _ _ _ _ _ _ _ _)
   | (with_reducible exact capstanref03_Same.mono _ _ _)
   | (with_reducible exact capstanref07_Bytes.mono _ _ _ _ _ _ _ _ _)
   | (with_reducible exact capstanref07_Fits.mono _ _ _ _ _ _ _ _ _ _)
   | (with_reducible exact capstanref07_May.mono _ _ _ _ _ _ _ _ _)
   | (with_reducible exact capstanref07_Migrates.mono _ _ _ _ _ _ _ _ _)
   | (with_reducible exact capstanref07_Same.mono _ _ _ _ _ _ _ _ _ _ _ _ _ _ _ _ _)
   | (with_reducible exact capstanref07_SameKinds.mono _ _ _)
   | (with_reducible exact capstanref07_Zeros.mono _ _ _ _ _ _ _ _ _)
   | (with_reducible exact method_Bytes.mono _ _ _ _ _ _ _ _ _)
   | (with_reducible exact method_Fits.mono _ _ _ _ _ _ _ _ _ _)
   | (with_reducible exact method_Kinds.mono _ _ _ _ _ _ _ _ _)
   | (with_reducible exact method_May.mono _ _ _ _ _ _ _ _ _)
   | (with_reducible exact method_Migrates.mono _ _ _ _ _ _ _ _ _)
   | (with_reducible exact method_Same.mono _ _ _ _ _ _ _ _ _ _ _ _ _ _ _ _ _)
   | (with_reducible exact method_Zeros.mono _ _ _ _ _ _ _ _ _)
   | (with_reducible exact LeO.refl _)
   | (with_reducible exact LeO.none _)
   | (with_reducible refine LeO.ite ?_ ?_)
   | (with_reducible refine LeO.bind ?_ (fun _ => ?_))
   | exact ih0 _ _ _ _ _ _ _ _ _ _ _ _ _ _ _ _ _ _
   | exact ih1 _ _ _ _ _ _ _ _ _ _ _ _ _ _ _ _ _ _ _
   | exact ih2 _ _ _ _ _ _ _ _ _ _ _ _ _ _ _ _ _ _ _
   | exact ih3 _ _ _ _ _ _ _ _ _ _ _ _ _ _ _ _ _ _ _ _ _ _ _
   | exact ih4 _ _ _ _ _ _ _ _ _ _ _ _ _ _ _ _ _ _ _ _ _ _ _
   | exact ih5 _ _ _ _ _ _ _ _ _ _ _ _ _ _ _ _ _ _ _ _ _ _
   | exact ih6 _ _ _ _ _ _ _ _ _ _ _ _ _ _ _ _ _ _ _ _ _
   | exact capstanref03_Same.mono _ _ _
   | exact capstanref07_Bytes.mono _ _ _ _ _ _ _ _ _
   | exact capstanref07_Fits.mono _ _ _ _ _ _ _ _ _ _
   | exact capstanref07_May.mono _ _ _ _ _ _ _ _ _
   | exact capstanref07_Migrates.mono _ _ _ _ _ _ _ _ _
   | exact capstanref07_Same.mono _ _ _ _ _ _ _ _ _ _ _ _ _ _ _ _ _
   | exact capstanref07_SameKinds.mono _ _ _
   | exact capstanref07_Zeros.mono _ _ _ _ _ _ _ _ _
   | exact method_Bytes.mono _ _ _ _ _ _ _ _ _
   | exact method_Fits.mono _ _ _ _ _ _ _ _ _ _
   | exact method_Kinds.mono _ _ _ _ _ _ _ _ _
   | exact method_May.mono _ _ _ _ _ _ _ _ _
   | exact method_Migrates.mono _ _ _ _ _ _ _ _ _
   | exact method_Same.mono _ _ _ _ _ _ _ _ _ _ _ _ _ _ _ _ _
   | exact method_Zeros.mono _ _ _ _ _ _ _ _ _
   | exact LeO.none _
   | refine LeO.ite ?_ ?_
   | refine LeO.bind ?_ (fun _ => ?_)
  ·
   intro y0 y1 y2 y3 y4 y5 y6 y7 y8 y9 y10 y11 y12 y13 y14 y15 y16 y17 y18 y19 y20
   unfold capstanlaw07_MethodTells.l3
   repeat' first
   | (with_reducible exact ih0 _ _ _ _ _ _ _ _ _ _ _ _ _ _ _ _ _ _)
   | (with_reducible exact ih1 _ _ _ _ _ _ _ _ _ _ _ _ _ _ _ _ _ _ _)
   | (with_reducible exact ih2 _ _ _ _ _ _ _ _ _ _ _ _ _ _ _ _ _ _ _)
   | (with_reducible exact ih3 _ _ _ _ _ _ _ _ _ _ _ _ _ _ _ _ _ _ _ _ _ _ _)
   | (with_reducible exact ih4 _ _ _ _ _ _ _ _ _ _ _ _ _ _ _ _ _ _ _ _ _ _ _)
   | (with_reducible exact ih5 _ _ _ _ _ _ _ _ _ _ _ _ _ _ _ _ _ _ _ _ _ _)
   | (with_reducible exact ih6 _ _ _ _ _ _ _ _ _ _ _ _ _ _ _ _ _ _ _ _ _)
   | (with_reducible exact capstanref03_Same.mono _ _ _)
   | (with_reducible exact capstanref07_Bytes.mono _ _ _ _ _ _ _ _ _)
   | (with_reducible exact capstanref07_Fits.mono _ _ _ _ _ _ _ _ _ _)
   | (with_reducible exact capstanref07_May.mono _ _ _ _ _ _ _ _ _)
   | (with_reducible exact capstanref07_Migrates.mono _ _ _ _ _ _ _ _ _)
   | (with_reducible exact capstanref07_Same.mono _ _ _ _ _ _ _ _ _ _ _ _ _ _ _ _ _)
   | (with_reducible exact capstanref07_SameKinds.mono _ _ _)
   | (with_reducible exact capstanref07_Zeros.mono _ _ _ _ _ _ _ _ _)
   | (with_reducible exact method_Bytes.mono _ _ _ _ _ _ _ _ _)
   | (with_reducible exact method_Fits.mono _ _ _ _ _ _ _ _ _ _)
   | (with_reducible exact method_Kinds.mono _ _ _ _ _ _ _ _ _)
   | (with_reducible exact method_May.mono _ _ _ _ _ _ _ _ _)
   | (with_reducible exact method_Migrates.mono _ _ _ _ _ _ _ _ _)
   | (with_reducible exact method_Same.mono _ _ _ _ _ _ _ _ _ _ _ _ _ _ _ _ _)
   | (with_reducible exact method_Zeros.mono _ _ _ _ _ _ _ _ _)
   | (with_reducible exact LeO.refl _)
   | (with_reducible exact LeO.none _)
   | (with_reducible refine LeO.ite ?_ ?_)
   | (with_reducible refine LeO.bind ?_ (fun _ => ?_))
   | exact ih0 _ _ _ _ _ _ _ _ _ _ _ _ _ _ _ _ _ _
   | exact ih1 _ _ _ _ _ _ _ _ _ _ _ _ _ _ _ _ _ _ _
   | exact ih2 _ _ _ _ _ _ _ _ _ _ _ _ _ _ _ _ _ _ _
   | exact ih3 _ _ _ _ _ _ _ _ _ _ _ _ _ _ _ _ _ _ _ _ _ _ _
   | exact ih4 _ _ _ _ _ _ _ _ _ _ _ _ _ _ _ _ _ _ _ _ _ _ _
   | exact ih5 _ _ _ _ _ _ _ _ _ _ _ _ _ _ _ _ _ _ _ _ _ _
   | exact ih6 _ _ _ _ _ _ _ _ _ _ _ _ _ _ _ _ _ _ _ _ _
   | exact capstanref03_Same.mono _ _ _
   | exact capstanref07_Bytes.mono _ _ _ _ _ _ _ _ _
   | exact capstanref07_Fits.mono _ _ _ _ _ _ _ _ _ _
   | exact capstanref07_May.mono _ _ _ _ _ _ _ _ _
   | exact capstanref07_Migrates.mono _ _ _ _ _ _ _ _ _
   | exact capstanref07_Same.mono _ _ _ _ _ _ _ _ _ _ _ _ _ _ _ _ _
   | exact capstanref07_SameKinds.mono _ _ _
   | exact capstanref07_Zeros.mono _ _ _ _ _ _ _ _ _
   | exact method_Bytes.mono _ _ _ _ _ _ _ _ _
   | exact method_Fits.mono _ _ _ _ _ _ _ _ _ _
   | exact method_Kinds.mono _ _ _ _ _ _ _ _ _
   | exact method_May.mono _ _ _ _ _ _ _ _ _
   | exact method_Migrates.mono _ _ _ _ _ _ _ _ _
   | exact method_Same.mono _ _ _ _ _ _ _ _ _ _ _ _ _ _ _ _ _
   | exact method_Zeros.mono _ _ _ _ _ _ _ _ _
   | exact LeO.none _
   | refine LeO.ite ?_ ?_
   | refine LeO.bind ?_ (fun _ => ?_)
theorem capstanlaw07_MethodTells.mono : ∀ a0 a1 a2 a3 a4 a5 a6 a7 a8 a9 a10 a11 a12 a13 a14 a15 a16 k, LeO (capstanlaw07_MethodTells.f k a0 a1 a2 a3 a4 a5 a6 a7 a8 a9 a10 a11 a12 a13 a14 a15 a16) (capstanlaw07_MethodTells.f (k + 1) a0 a1 a2 a3 a4 a5 a6 a7 a8 a9 a10 a11 a12 a13 a14 a15 a16) := by
 intro a0 a1 a2 a3 a4 a5 a6 a7 a8 a9 a10 a11 a12 a13 a14 a15 a16 k
 obtain ⟨ih0, ih1, ih2, ih3, ih4, ih5, ih6⟩ := capstanlaw07_MethodTells.mono_l k
 unfold capstanlaw07_MethodTells.f
 repeat' first
   | (with_reducible exact ih0 _ _ _ _ _ _ _ _ _ _ _ _ _ _ _ _ _ _)
   | (with_reducible exact ih1 _ _ _ _ _ _ _ _ _ _ _ _ _ _ _ _ _ _ _)
   | (with_reducible exact ih2 _ _ _ _ _ _ _ _ _ _ _ _ _ _ _ _ _ _ _)
   | (with_reducible exact ih3 _ _ _ _ _ _ _ _ _ _ _ _ _ _ _ _ _ _ _ _ _ _ _)
   | (with_reducible exact ih4 _ _ _ _ _ _ _ _ _ _ _ _ _ _ _ _ _ _ _ _ _ _ _)
   | (with_reducible exact ih5 _ _ _ _ _ _ _ _ _ _ _ _ _ _ _ _ _ _ _ _ _ _)
   | (with_reducible exact ih6 _ _ _ _ _ _ _ _ _ _ _ _ _ _ _ _ _ _ _ _ _)
   | (with_reducible exact capstanref03_Same.mono _ _ _)
   | (with_reducible exact capstanref07_Bytes.mono _ _ _ _ _ _ _ _ _)
   | (with_reducible exact capstanref07_Fits.mono _ _ _ _ _ _ _ _ _ _)
   | (with_reducible exact capstanref07_May.mono _ _ _ _ _ _ _ _ _)
   | (with_reducible exact capstanref07_Migrates.mono _ _ _ _ _ _ _ _ _)
   | (with_reducible exact capstanref07_Same.mono _ _ _ _ _ _ _ _ _ _ _ _ _ _ _ _ _)
   | (with_reducible exact capstanref07_SameKinds.mono _ _ _)
   | (with_reducible exact capstanref07_Zeros.mono _ _ _ _ _ _ _ _ _)
   | (with_reducible exact method_Bytes.mono _ _ _ _ _ _ _ _ _)
   | (with_reducible exact method_Fits.mono _ _ _ _ _ _ _ _ _ _)
   | (with_reducible exact method_Kinds.mono _ _ _ _ _ _ _ _ _)
   | (with_reducible exact method_May.mono _ _ _ _ _ _ _ _ _)
   | (with_reducible exact method_Migrates.mono _ _ _ _ _ _ _ _ _)
   | (with_reducible exact method_Same.mono _ _ _ _ _ _ _ _ _ _ _ _ _ _ _ _ _)
   | (with_reducible exact method_Zeros.mono _ _ _ _ _ _ _ _ _)
   | (with_reducible exact LeO.refl _)
   | (with_reducible exact LeO.none _)
   | (with_reducible refine LeO.ite ?_ ?_)
   | (with_reducible refine LeO.bind ?_ (fun _ => ?_))
   | exact ih0 _ _ _ _ _ _ _ _ _ _ _ _ _ _ _ _ _ _
   | exact ih1 _ _ _ _ _ _ _ _ _ _ _ _ _ _ _ _ _ _ _
   | exact ih2 _ _ _ _ _ _ _ _ _ _ _ _ _ _ _ _ _ _ _
   | exact ih3 _ _ _ _ _ _ _ _ _ _ _ _ _ _ _ _ _ _ _ _ _ _ _
   | exact ih4 _ _ _ _ _ _ _ _ _ _ _ _ _ _ _ _ _ _ _ _ _ _ _
   | exact ih5 _ _ _ _ _ _ _ _ _ _ _ _ _ _ _ _ _ _ _ _ _ _
   | exact ih6 _ _ _ _ _ _ _ _ _ _ _ _ _ _ _ _ _ _ _ _ _
   | exact capstanref03_Same.mono _ _ _
   | exact capstanref07_Bytes.mono _ _ _ _ _ _ _ _ _
   | exact capstanref07_Fits.mono _ _ _ _ _ _ _ _ _ _
   | exact capstanref07_May.mono _ _ _ _ _ _ _ _ _
   | exact capstanref07_Migrates.mono _ _ _ _ _ _ _ _ _
   | exact capstanref07_Same.mono _ _ _ _ _ _ _ _ _ _ _ _ _ _ _ _ _
   | exact capstanref07_SameKinds.mono _ _ _
   | exact capstanref07_Zeros.mono _ _ _ _ _ _ _ _ _
   | exact method_Bytes.mono _ _ _ _ _ _ _ _ _
   | exact method_Fits.mono _ _ _ _ _ _ _ _ _ _
   | exact method_Kinds.mono _ _ _ _ _ _ _ _ _
   | exact method_May.mono _ _ _ _ _ _ _ _ _
   | exact method_Migrates.mono _ _ _ _ _ _ _ _ _
   | exact method_Same.mono _ _ _ _ _ _ _ _ _ _ _ _ _ _ _ _ _
   | exact method_Zeros.mono _ _ _ _ _ _ _ _ _
   | exact LeO.none _
   | refine LeO.ite ?_ ?_
   | refine LeO.bind ?_ (fun _ => ?_)
def capstanlaw07_MethodTells.T5 : Bool × List (List Nat × List Nat) := (true, [([], []), ([0], [0]), ([], []), ([2, 1], [2]), ([1, 3], [1, 3]), ([4, 3], [4]), ([5], [5]), ([6, 5, 5], [5, 6]), ([5], [5]), ([8, 7, 5], [5, 8]), ([7, 9, 5], [5, 7, 9]), ([5, 10], [5, 10]), ([11, 9], [11]), ([12], [12]), ([12], [12]), ([13, 14, 12, 12], [12, 13, 14]), ([12], [12]), ([12], [12]), ([16, 17, 15, 12], [12, 16, 17]), ([15, 18, 12], [12, 15, 18]), ([12, 19], [12, 19]), ([20, 18], [20]), ([21], [21]), ([21], [21]), ([22, 23, 21, 21], [21, 22, 23]), ([21], [21]), ([21], [21]), ([25, 26, 24, 21], [21, 25, 26]), ([24, 27, 21], [21, 24, 27]), ([21, 28], [21, 28])])
def capstanlaw07_MethodTells.B5 : List Nat := [0, 1, 0, 7, 15, 31, 63, 127, 63, 511, 1023, 2047, 4095, 8191, 8191, 32767, 8191, 8191, 262143, 524287, 1048575, 2097151, 4194303, 4194303, 16777215, 4194303, 4194303, 134217727, 268435455, 536870911]
theorem capstanlaw07_MethodTells.tab5 : rtab .any (opsOf Try.f5 5) = capstanlaw07_MethodTells.T5 := by kernel_rfl
theorem capstanlaw07_MethodTells.bits5 : waitsOk capstanlaw07_MethodTells.T5.2 capstanlaw07_MethodTells.B5 = true := by kernel_rfl

end Go.Proofs.Ytjnmomhkiknhdaa.T
