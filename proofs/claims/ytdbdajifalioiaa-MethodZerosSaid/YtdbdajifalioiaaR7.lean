/- Contracts of the functions of this seat (each: the call of the function does what the plain Lean function of the same name tells; the conditions stand in each statement). Written by a program of this session and by hand; checked by Lean. -/
import Derived.Test.YtdbdajifalioiaaR0
import Derived.Test.YtdbdajifalioiaaR4
import Derived.Test.YtdbdajifalioiaaR6
namespace Go.Proofs.Ytdbdajifalioiaa.R
open Go.RowKit Go.Proofs.YtdbdajifalioiaaW.PrintWords Go.Proofs.YtdbdajifalioiaaW.PrintLast Go.Proofs.YtdbdajifalioiaaW.PrintMore
attribute [local go_sem] max2_int min2_int max_two min_two max_three min_three max_four min_four   -- for this text's walks alone
set_option linter.unusedVariables false
set_option linter.unusedSimpArgs false

/-! ### method_Bytes: function 21 -/
mutual
def method_Bytes.j0 : Nat → List Int → List Int → List Int → Int → Bool → Int → Int → Int → List (S114) → Option (List Int × Int)
 | 0, _, _, _, _, _, _, _, _, _ => none
 | k + 1, x4, x179000, x179001, x179002, x179003, x179004, x179005, x179006, x179007 => method_Bytes.l0 k x4 0 3 x179004 2 x179005 2 x179006
def method_Bytes.l0 : Nat → List Int → Int → Int → Int → Int → Int → Int → Int → Option (List Int × Int)
 | 0, _, _, _, _, _, _, _, _ => none
 | k + 1, x4, x52, x450, x451, x452, x453, x454, x455 => if x52 < 3 then (if 0 ≤ x52 then ((octet_Put.f k (pick3 x52 x450 x452 x454) (pick3 x52 x451 x453 x455)).bind fun bt200 => (if bt200.2 = 0 then (if x4.length + bt200.1.length < 140737488355328 then (method_Bytes.l0 k (x4 ++ bt200.1) (wrap64 (x52 + 1)) x450 x451 x452 x453 x454 x455) else (none)) else (some (([] : List Int), 70)))) else (none)) else (some (x4, 0))
end
def method_Bytes.f (k : Nat) (l0_0 : List Int) (l0_1 : List Int) (a0_2 : Int) (a0_3 : Bool) (a0_4 : Int) (a0_5 : Int) (a0_6 : Int) (l0_7 : List (S114)) : Option (List Int × Int) := (method_May.f k l0_0 l0_1 a0_2 a0_3 a0_4 a0_5 a0_6 l0_7).bind fun t179 => (if t179 = true then ((some (([((l0_0.length : Int)) % 256] : List Int) : List Int)).bind fun y180 => (if y180.length + l0_0.length < 140737488355328 then ((some (y180 ++ l0_0 : List Int)).bind fun y183 => (if y183.length < 140737488355328 then ((some (y183 ++ [((l0_1.length : Int)) % 256] : List Int)).bind fun y186 => (if y186.length + l0_1.length < 140737488355328 then ((some (y186 ++ l0_1 : List Int)).bind fun y189 => ((some (([a0_2, 0] : List Int) : List Int)).bind fun y192 => (if y189.length + y192.length < 140737488355328 then ((some (y189 ++ y192 : List Int)).bind fun y195 => (if a0_3 = true then (if 0 ≤ (wrap64 ((y195.length : Int) - 1)) then (if (wrap64 ((y195.length : Int) - 1)) < (y195.length : Int) then (method_Bytes.j0 k (y195.set ((wrap64 ((y195.length : Int) - 1)) : Int).toNat 1) l0_0 l0_1 a0_2 a0_3 a0_4 a0_5 a0_6 l0_7) else (none)) else (none)) else (method_Bytes.j0 k y195 l0_0 l0_1 a0_2 a0_3 a0_4 a0_5 a0_6 l0_7))) else (none)))) else (none))) else (none))) else (none))) else (some (([] : List Int), 70)))
theorem method_Bytes.mono_l : ∀ k, (∀ y0 y1 y2 y3 y4 y5 y6 y7 y8, LeO (method_Bytes.j0 k y0 y1 y2 y3 y4 y5 y6 y7 y8) (method_Bytes.j0 (k + 1) y0 y1 y2 y3 y4 y5 y6 y7 y8)) ∧ (∀ y0 y1 y2 y3 y4 y5 y6 y7, LeO (method_Bytes.l0 k y0 y1 y2 y3 y4 y5 y6 y7) (method_Bytes.l0 (k + 1) y0 y1 y2 y3 y4 y5 y6 y7))
 | 0 => ⟨fun _ _ _ _ _ _ _ _ _ r h => by simp [method_Bytes.j0] at h, fun _ _ _ _ _ _ _ _ r h => by simp [method_Bytes.l0] at h⟩
 | k + 1 => by
  obtain ⟨ih0, ih1⟩ := method_Bytes.mono_l k
  refine ⟨?_, ?_⟩
  ·
   intro y0 y1 y2 y3 y4 y5 y6 y7 y8
   unfold method_Bytes.j0
   repeat' first
   | (with_reducible exact ih0 _ _ _ _ _ _ _ _ _)
   | (with_reducible exact ih1 _ _ _ _ _ _ _ _)
   | (with_reducible exact method_May.mono _ _ _ _ _ _ _ _ _)
   | (with_reducible exact octet_Put.mono _ _ _)
   | (with_reducible exact LeO.refl _)
   | (with_reducible exact LeO.none _)
   | (with_reducible refine LeO.ite ?_ ?_)
   | (with_reducible refine LeO.bind ?_ (fun _ => ?_))
   | exact ih0 _ _ _ _ _ _ _ _ _
   | exact ih1 _ _ _ _ _ _ _ _
   | exact method_May.mono _ _ _ _ _ _ _ _ _
   | exact octet_Put.mono _ _ _
   | exact LeO.none _
   | refine LeO.ite ?_ ?_
   | refine LeO.bind ?_ (fun _ => ?_)
  ·
   intro y0 y1 y2 y3 y4 y5 y6 y7
   unfold method_Bytes.l0
   repeat' first
   | (with_reducible exact ih0 _ _ _ _ _ _ _ _ _)
   | (with_reducible exact ih1 _ _ _ _ _ _ _ _)
   | (with_reducible exact method_May.mono _ _ _ _ _ _ _ _ _)
   | (with_reducible exact octet_Put.mono _ _ _)
   | (with_reducible exact LeO.refl _)
   | (with_reducible exact LeO.none _)
   | (with_reducible refine LeO.ite ?_ ?_)
   | (with_reducible refine LeO.bind ?_ (fun _ => ?_))
   | exact ih0 _ _ _ _ _ _ _ _ _
   | exact ih1 _ _ _ _ _ _ _ _
   | exact method_May.mono _ _ _ _ _ _ _ _ _
   | exact octet_Put.mono _ _ _
   | exact LeO.none _
   | refine LeO.ite ?_ ?_
   | refine LeO.bind ?_ (fun _ => ?_)
theorem method_Bytes.mono : ∀ a0 a1 a2 a3 a4 a5 a6 a7 k, LeO (method_Bytes.f k a0 a1 a2 a3 a4 a5 a6 a7) (method_Bytes.f (k + 1) a0 a1 a2 a3 a4 a5 a6 a7) := by
 intro a0 a1 a2 a3 a4 a5 a6 a7 k
 obtain ⟨ih0, ih1⟩ := method_Bytes.mono_l k
 unfold method_Bytes.f
 repeat' first
   | (with_reducible exact ih0 _ _ _ _ _ _ _ _ _)
   | (with_reducible exact ih1 _ _ _ _ _ _ _ _)
   | (with_reducible exact method_May.mono _ _ _ _ _ _ _ _ _)
   | (with_reducible exact octet_Put.mono _ _ _)
   | (with_reducible exact LeO.refl _)
   | (with_reducible exact LeO.none _)
   | (with_reducible refine LeO.ite ?_ ?_)
   | (with_reducible refine LeO.bind ?_ (fun _ => ?_))
   | exact ih0 _ _ _ _ _ _ _ _ _
   | exact ih1 _ _ _ _ _ _ _ _
   | exact method_May.mono _ _ _ _ _ _ _ _ _
   | exact octet_Put.mono _ _ _
   | exact LeO.none _
   | refine LeO.ite ?_ ?_
   | refine LeO.bind ?_ (fun _ => ?_)
def method_Bytes.T4 : Bool × List (List Nat × List Nat) := (true, [([], []), ([], []), ([1], [1]), ([2], [2]), ([3], [3]), ([4], [4]), ([0, 5], [0, 5]), ([], []), ([7], [7]), ([6, 8, 6], [6, 8]), ([9, 9, 0, 1, 2, 3, 4, 5, 6, 7, 8, 9], [0, 9])])
def method_Bytes.B4 : List Nat := [0, 0, 2, 6, 14, 30, 63, 0, 128, 511, 1023]
theorem method_Bytes.tab4 : rtab .any (opsOf Try.f21 4) = method_Bytes.T4 := by kernel_rfl
theorem method_Bytes.bits4 : waitsOk method_Bytes.T4.2 method_Bytes.B4 = true := by kernel_rfl
set_option maxHeartbeats 8000000 in
set_option maxRecDepth 100000 in
theorem method_Bytes.calls (k : Nat) (A0_0 : Option Addr) (c0_0 : Nat) (l0_0 : List Int) (A0_1 : Option Addr) (c0_1 : Nat) (l0_1 : List Int) (a0_2 : Int) (a0_3 : Bool) (a0_4 : Int) (a0_5 : Int) (a0_6 : Int) (A0_7 : Option Addr) (c0_7 : Nat) (l0_7 : List (S114)) (r1 : List Int) (r2 : Int) (w : World) (hr0_0 : Kd.C (Kd.int .u8) w A0_0 l0_0.length l0_0) (hc0_0 : l0_0.length ≤ c0_0) (hr0_1 : Kd.C (Kd.int .u8) w A0_1 l0_1.length l0_1) (hc0_1 : l0_1.length ≤ c0_1) (hr0_7 : Kd.C k114 w A0_7 l0_7.length l0_7) (hc0_7 : l0_7.length ≤ c0_7) (h : method_Bytes.f k l0_0 l0_1 a0_2 a0_3 a0_4 a0_5 a0_6 l0_7 = some (r1, r2)) :
  Calls Try.prog 21 #[.agg #[.slice A0_0 l0_0.length c0_0, .slice A0_1 l0_1.length c0_1, .int .u8 a0_2, .bool a0_3, .int .i64 a0_4, .int .i64 a0_5, .int .i64 a0_6, .slice A0_7 l0_7.length c0_7]] w fun e w' => ∃ v0_ : Value, e = .returned (.tuple #[v0_, .int .i64 r2]) ∧ Kd.R (Kd.int .u8) 5 w' w.heap.size (fun _ => True) v0_ r1 ∧ Below w.heap.size w w' := by
 have hu25 := Try.underlying25
 have hu76 := Try.underlying76
 have HR0_0 := Aside0.mk hr0_0
 have HC0_0 := Aside0.mk hc0_0
 clear hr0_0 hc0_0
 have HR0_1 := Aside0.mk hr0_1
 have HC0_1 := Aside0.mk hc0_1
 clear hr0_1 hc0_1
 have HR0_7 := Aside0.mk hr0_7
 have HC0_7 := Aside0.mk hc0_7
 clear hr0_7 hc0_7
 have HB := Aside0.mk (Below.refl w.heap.size w)
 have H : ((method_May.f k l0_0 l0_1 a0_2 a0_3 a0_4 a0_5 a0_6 l0_7).bind fun t179 => (if t179 = true then ((some (([((l0_0.length : Int)) % 256] : List Int) : List Int)).bind fun y180 => (if y180.length + l0_0.length < 140737488355328 then ((some (y180 ++ l0_0 : List Int)).bind fun y183 => (if y183.length < 140737488355328 then ((some (y183 ++ [((l0_1.length : Int)) % 256] : List Int)).bind fun y186 => (if y186.length + l0_1.length < 140737488355328 then ((some (y186 ++ l0_1 : List Int)).bind fun y189 => ((some (([a0_2, 0] : List Int) : List Int)).bind fun y192 => (if y189.length + y192.length < 140737488355328 then ((some (y189 ++ y192 : List Int)).bind fun y195 => (if a0_3 = true then (if 0 ≤ (wrap64 ((y195.length : Int) - 1)) then (if (wrap64 ((y195.length : Int) - 1)) < (y195.length : Int) then (method_Bytes.j0 k (y195.set ((wrap64 ((y195.length : Int) - 1)) : Int).toNat 1) l0_0 l0_1 a0_2 a0_3 a0_4 a0_5 a0_6 l0_7) else (none)) else (none)) else (method_Bytes.j0 k y195 l0_0 l0_1 a0_2 a0_3 a0_4 a0_5 a0_6 l0_7))) else (none)))) else (none))) else (none))) else (none))) else (some (([] : List Int), 70)))) = some (r1, r2) := h
 clear h
 replace H := Option.bind_eq_some_iff.mp H
 obtain ⟨t179, A20, H⟩ := H
 replace H : (if t179 = true then ((some (([((l0_0.length : Int)) % 256] : List Int) : List Int)).bind fun y180 => (if y180.length + l0_0.length < 140737488355328 then ((some (y180 ++ l0_0 : List Int)).bind fun y183 => (if y183.length < 140737488355328 then ((some (y183 ++ [((l0_1.length : Int)) % 256] : List Int)).bind fun y186 => (if y186.length + l0_1.length < 140737488355328 then ((some (y186 ++ l0_1 : List Int)).bind fun y189 => ((some (([a0_2, 0] : List Int) : List Int)).bind fun y192 => (if y189.length + y192.length < 140737488355328 then ((some (y189 ++ y192 : List Int)).bind fun y195 => (if a0_3 = true then (if 0 ≤ (wrap64 ((y195.length : Int) - 1)) then (if (wrap64 ((y195.length : Int) - 1)) < (y195.length : Int) then (method_Bytes.j0 k (y195.set ((wrap64 ((y195.length : Int) - 1)) : Int).toNat 1) l0_0 l0_1 a0_2 a0_3 a0_4 a0_5 a0_6 l0_7) else (none)) else (none)) else (method_Bytes.j0 k y195 l0_0 l0_1 a0_2 a0_3 a0_4 a0_5 a0_6 l0_7))) else (none)))) else (none))) else (none))) else (none))) else (some (([] : List Int), 70))) = some (r1, r2) := H
 have A2 := Aside0.mk A20
 clear A20
 by_cases c3 : t179 = true
 ·
  subst c3
  have H1 : ((some (([((l0_0.length : Int)) % 256] : List Int) : List Int)).bind fun y180 => (if y180.length + l0_0.length < 140737488355328 then ((some (y180 ++ l0_0 : List Int)).bind fun y183 => (if y183.length < 140737488355328 then ((some (y183 ++ [((l0_1.length : Int)) % 256] : List Int)).bind fun y186 => (if y186.length + l0_1.length < 140737488355328 then ((some (y186 ++ l0_1 : List Int)).bind fun y189 => ((some (([a0_2, 0] : List Int) : List Int)).bind fun y192 => (if y189.length + y192.length < 140737488355328 then ((some (y189 ++ y192 : List Int)).bind fun y195 => (if a0_3 = true then (if 0 ≤ (wrap64 ((y195.length : Int) - 1)) then (if (wrap64 ((y195.length : Int) - 1)) < (y195.length : Int) then (method_Bytes.j0 k (y195.set ((wrap64 ((y195.length : Int) - 1)) : Int).toNat 1) l0_0 l0_1 a0_2 a0_3 a0_4 a0_5 a0_6 l0_7) else (none)) else (none)) else (method_Bytes.j0 k y195 l0_0 l0_1 a0_2 a0_3 a0_4 a0_5 a0_6 l0_7))) else (none)))) else (none))) else (none))) else (none))) = some (r1, r2) := by rw [if_pos rfl] at H; exact H
  clear H
  have H := H1
  clear H1
  obtain ⟨y180, hy180⟩ : ∃ y_ : List Int, y_ = (([((l0_0.length : Int)) % 256] : List Int)) := ⟨_, rfl⟩
  replace H : (if y180.length + l0_0.length < 140737488355328 then ((some (y180 ++ l0_0 : List Int)).bind fun y183 => (if y183.length < 140737488355328 then ((some (y183 ++ [((l0_1.length : Int)) % 256] : List Int)).bind fun y186 => (if y186.length + l0_1.length < 140737488355328 then ((some (y186 ++ l0_1 : List Int)).bind fun y189 => ((some (([a0_2, 0] : List Int) : List Int)).bind fun y192 => (if y189.length + y192.length < 140737488355328 then ((some (y189 ++ y192 : List Int)).bind fun y195 => (if a0_3 = true then (if 0 ≤ (wrap64 ((y195.length : Int) - 1)) then (if (wrap64 ((y195.length : Int) - 1)) < (y195.length : Int) then (method_Bytes.j0 k (y195.set ((wrap64 ((y195.length : Int) - 1)) : Int).toNat 1) l0_0 l0_1 a0_2 a0_3 a0_4 a0_5 a0_6 l0_7) else (none)) else (none)) else (method_Bytes.j0 k y195 l0_0 l0_1 a0_2 a0_3 a0_4 a0_5 a0_6 l0_7))) else (none)))) else (none))) else (none))) else (none)) = some (r1, r2) := by first | (rw [hy180]; with_reducible exact H) | (have H2_ := (Option.bind_some _ _).symm.trans H; rw [hy180]; with_reducible exact H2_) | (have H2_ := (Option.bind_some _ _).symm.trans H; with_reducible exact H2_) | with_reducible exact H | (rw [hy180]; exact H) | exact H
  have Ny180 := Aside0.mk hy180
  clear hy180
  by_cases c4 : y180.length + l0_0.length < 140737488355328
  ·
   rw [if_pos c4] at H
   have LMc4 := Aside0.mk c4
   clear c4
   obtain ⟨y183, hy183⟩ : ∃ y_ : List Int, y_ = (y180 ++ l0_0) := ⟨_, rfl⟩
   replace H : (if y183.length < 140737488355328 then ((some (y183 ++ [((l0_1.length : Int)) % 256] : List Int)).bind fun y186 => (if y186.length + l0_1.length < 140737488355328 then ((some (y186 ++ l0_1 : List Int)).bind fun y189 => ((some (([a0_2, 0] : List Int) : List Int)).bind fun y192 => (if y189.length + y192.length < 140737488355328 then ((some (y189 ++ y192 : List Int)).bind fun y195 => (if a0_3 = true then (if 0 ≤ (wrap64 ((y195.length : Int) - 1)) then (if (wrap64 ((y195.length : Int) - 1)) < (y195.length : Int) then (method_Bytes.j0 k (y195.set ((wrap64 ((y195.length : Int) - 1)) : Int).toNat 1) l0_0 l0_1 a0_2 a0_3 a0_4 a0_5 a0_6 l0_7) else (none)) else (none)) else (method_Bytes.j0 k y195 l0_0 l0_1 a0_2 a0_3 a0_4 a0_5 a0_6 l0_7))) else (none)))) else (none))) else (none)) = some (r1, r2) := by first | (rw [hy183]; with_reducible exact H) | (have H2_ := (Option.bind_some _ _).symm.trans H; rw [hy183]; with_reducible exact H2_) | (have H2_ := (Option.bind_some _ _).symm.trans H; with_reducible exact H2_) | with_reducible exact H | (rw [hy183]; exact H) | exact H
   have Ny183 := Aside0.mk hy183
   clear hy183
   by_cases c5 : y183.length < 140737488355328
   ·
    rw [if_pos c5] at H
    have LMc5 := Aside0.mk c5
    clear c5
    obtain ⟨y186, hy186⟩ : ∃ y_ : List Int, y_ = (y183 ++ [((l0_1.length : Int)) % 256]) := ⟨_, rfl⟩
    replace H : (if y186.length + l0_1.length < 140737488355328 then ((some (y186 ++ l0_1 : List Int)).bind fun y189 => ((some (([a0_2, 0] : List Int) : List Int)).bind fun y192 => (if y189.length + y192.length < 140737488355328 then ((some (y189 ++ y192 : List Int)).bind fun y195 => (if a0_3 = true then (if 0 ≤ (wrap64 ((y195.length : Int) - 1)) then (if (wrap64 ((y195.length : Int) - 1)) < (y195.length : Int) then (method_Bytes.j0 k (y195.set ((wrap64 ((y195.length : Int) - 1)) : Int).toNat 1) l0_0 l0_1 a0_2 a0_3 a0_4 a0_5 a0_6 l0_7) else (none)) else (none)) else (method_Bytes.j0 k y195 l0_0 l0_1 a0_2 a0_3 a0_4 a0_5 a0_6 l0_7))) else (none)))) else (none)) = some (r1, r2) := by first | (rw [hy186]; with_reducible exact H) | (have H2_ := (Option.bind_some _ _).symm.trans H; rw [hy186]; with_reducible exact H2_) | (have H2_ := (Option.bind_some _ _).symm.trans H; with_reducible exact H2_) | with_reducible exact H | (rw [hy186]; exact H) | exact H
    have Ny186 := Aside0.mk hy186
    clear hy186
    by_cases c6 : y186.length + l0_1.length < 140737488355328
    ·
     rw [if_pos c6] at H
     have LMc6 := Aside0.mk c6
     clear c6
     obtain ⟨y189, hy189⟩ : ∃ y_ : List Int, y_ = (y186 ++ l0_1) := ⟨_, rfl⟩
     replace H : ((some (([a0_2, 0] : List Int) : List Int)).bind fun y192 => (if y189.length + y192.length < 140737488355328 then ((some (y189 ++ y192 : List Int)).bind fun y195 => (if a0_3 = true then (if 0 ≤ (wrap64 ((y195.length : Int) - 1)) then (if (wrap64 ((y195.length : Int) - 1)) < (y195.length : Int) then (method_Bytes.j0 k (y195.set ((wrap64 ((y195.length : Int) - 1)) : Int).toNat 1) l0_0 l0_1 a0_2 a0_3 a0_4 a0_5 a0_6 l0_7) else (none)) else (none)) else (method_Bytes.j0 k y195 l0_0 l0_1 a0_2 a0_3 a0_4 a0_5 a0_6 l0_7))) else (none))) = some (r1, r2) := by first | (rw [hy189]; with_reducible exact H) | (have H2_ := (Option.bind_some _ _).symm.trans H; rw [hy189]; with_reducible exact H2_) | (have H2_ := (Option.bind_some _ _).symm.trans H; with_reducible exact H2_) | with_reducible exact H | (rw [hy189]; exact H) | exact H
     have Ny189 := Aside0.mk hy189
     clear hy189
     obtain ⟨y192, hy192⟩ : ∃ y_ : List Int, y_ = (([a0_2, 0] : List Int)) := ⟨_, rfl⟩
     replace H : (if y189.length + y192.length < 140737488355328 then ((some (y189 ++ y192 : List Int)).bind fun y195 => (if a0_3 = true then (if 0 ≤ (wrap64 ((y195.length : Int) - 1)) then (if (wrap64 ((y195.length : Int) - 1)) < (y195.length : Int) then (method_Bytes.j0 k (y195.set ((wrap64 ((y195.length : Int) - 1)) : Int).toNat 1) l0_0 l0_1 a0_2 a0_3 a0_4 a0_5 a0_6 l0_7) else (none)) else (none)) else (method_Bytes.j0 k y195 l0_0 l0_1 a0_2 a0_3 a0_4 a0_5 a0_6 l0_7))) else (none)) = some (r1, r2) := by first | (rw [hy192]; with_reducible exact H) | (have H2_ := (Option.bind_some _ _).symm.trans H; rw [hy192]; with_reducible exact H2_) | (have H2_ := (Option.bind_some _ _).symm.trans H; with_reducible exact H2_) | with_reducible exact H | (rw [hy192]; exact H) | exact H
     have Ny192 := Aside0.mk hy192
     clear hy192
     by_cases c7 : y189.length + y192.length < 140737488355328
     ·
      rw [if_pos c7] at H
      have LMc7 := Aside0.mk c7
      clear c7
      obtain ⟨y195, hy195⟩ : ∃ y_ : List Int, y_ = (y189 ++ y192) := ⟨_, rfl⟩
      replace H : (if a0_3 = true then (if 0 ≤ (wrap64 ((y195.length : Int) - 1)) then (if (wrap64 ((y195.length : Int) - 1)) < (y195.length : Int) then (method_Bytes.j0 k (y195.set ((wrap64 ((y195.length : Int) - 1)) : Int).toNat 1) l0_0 l0_1 a0_2 a0_3 a0_4 a0_5 a0_6 l0_7) else (none)) else (none)) else (method_Bytes.j0 k y195 l0_0 l0_1 a0_2 a0_3 a0_4 a0_5 a0_6 l0_7)) = some (r1, r2) := by first | (rw [hy195]; with_reducible exact H) | (have H2_ := (Option.bind_some _ _).symm.trans H; rw [hy195]; with_reducible exact H2_) | (have H2_ := (Option.bind_some _ _).symm.trans H; with_reducible exact H2_) | with_reducible exact H | (rw [hy195]; exact H) | exact H
      have Ny195 := Aside0.mk hy195
      clear hy195
      have HC8 := Aside0.mk H
      clear H
      go_enter Try.func21, Try.ntmps21
      try go_wp2_with (first | ((with_reducible refine gate_dst (N := 1) rfl ?_); refine box_event ?hg (N := 1) ?hd (cs := #[.slice A0_0 l0_0.length c0_0, .slice A0_1 l0_1.length c0_1, .int .u8 a0_2, .bool a0_3, .int .i64 a0_4, .int .i64 a0_5, .int .i64 a0_6, .slice A0_7 l0_7.length c0_7]) (t := 25) ?hr ?_; (case hd => rfl); (case hg => rfl); (case hr => first | (go_simp; done) | (go_simp; rfl)); intro gb178 hg w9 hbox hb; have n0_ := Aside0.mk (below_step (au1) hb); have n1_ := Aside0.mk (hbox); have n2_ := Aside0.mk ((au31 : w.heap.size ≤ gb178)); have n3_ := Aside0.mk ((au31 : w.heap.size ≤ gb178)); clear HB; have HB := n0_; have BK178 := n1_; have GW178 := n2_; have GE178 := n3_; clear n0_ n1_ n2_ n3_; clear hb hbox hg; obtain ⟨hcz10_0, hcz10_1, hcz10_2, hcz10_3, hcz10_4, hcz10_5, hcz10_6, hcz10_7, hfz10_0, hfz10_1, hfz10_2, hfz10_3, hfz10_4, hfz10_5, hfz10_6, hfz10_7⟩ := blk_all8 BK178.out) | ((with_reducible refine gate_callee (f := 14) rfl ?_); refine goesL_ (some 10) rfl rfl Try.func14 (by kernel_rfl) rfl #[.agg #[.slice A0_0 l0_0.length c0_0, .slice A0_1 l0_1.length c0_1, .int .u8 a0_2, .bool a0_3, .int .i64 a0_4, .int .i64 a0_5, .int .i64 a0_6, .slice A0_7 l0_7.length c0_7]] rfl (au3) ?_; (with_reducible refine (method_May.calls k _ _ l0_0 _ _ l0_1 a0_2 a0_3 a0_4 a0_5 a0_6 _ _ l0_7 true _ ?side1 ?side2 ?side3 ?side4 ?side5 ?side6 A2.out).mono ?_); (case side1 => exact au6); (case side2 => exact HC0_0.out); (case side3 => exact au11); (case side4 => exact HC0_1.out); (case side5 => exact au8); (case side6 => exact HC0_7.out); rintro e w11 ⟨rfl, hb⟩; refine ⟨_, rfl, ?_⟩; have n0_ := Aside0.mk (blk_below (g := gb178) (o := .cells #[.slice A0_0 l0_0.length c0_0, .slice A0_1 l0_1.length c0_1, .int .u8 a0_2, .bool a0_3, .int .i64 a0_4, .int .i64 a0_5, .int .i64 a0_6, .slice A0_7 l0_7.length c0_7] 25 (0, 0)) (au23) hb); have n1_ := Aside0.mk (below_step (au7) hb); clear BK178; clear HB; have BK178 := n0_; have HB := n1_; clear n0_ n1_; (try clear hb); (try clear hb2); (try clear hk); (try clear hi); obtain ⟨hcz12_0, hcz12_1, hcz12_2, hcz12_3, hcz12_4, hcz12_5, hcz12_6, hcz12_7, hfz12_0, hfz12_1, hfz12_2, hfz12_3, hfz12_4, hfz12_5, hfz12_6, hfz12_7⟩ := blk_all8 BK178.out) | ((with_reducible refine gate_dst (N := 16) rfl ?_); refine Kd.R_lit (Kd.int .u8) _ 5 ?hg (N := 16) ?hd (xs := ([((l0_0.length : Int)) % 256] : List Int)) (inner := [.int .u8 (((l0_0.length : Int)) % 256)]) (ok := fun _ => True) (okp := fun _ => True) ?hr ?hp (fun _ hk => hk) trivial (Below.refl _ _) (Nat.le_refl _) (by simp) ?_; (case hd => rfl); (case hg => rfl); (case hr => first | (go_simp; done) | (go_simp; rfl)); (case hp => exact (Reps.one (show Kd.M (Kd.int .u8) _ _ _ (((l0_0.length : Int)) % 256) [.int .u8 (((l0_0.length : Int)) % 256)] from rfl) (Reps.none _ _))); intro v181 w13 ho14 hb hg_ hnew_; clear hg_ hnew_; (first | rw [← Ny180.out] at ho14 | (simp only [Int.reduceToNat] at ho14; rw [← Ny180.out] at ho14)); have n0_ := Aside0.mk (Kd.R_lower ho14 (below_size (au7))); have n1_ := Aside0.mk (blk_below (g := gb178) (o := .cells #[.slice A0_0 l0_0.length c0_0, .slice A0_1 l0_1.length c0_1, .int .u8 a0_2, .bool a0_3, .int .i64 a0_4, .int .i64 a0_5, .int .i64 a0_6, .slice A0_7 l0_7.length c0_7] 25 (0, 0)) (au23) hb); have n2_ := Aside0.mk (below_step (au7) hb); clear BK178; clear HB; have HO182 := n0_; have BK178 := n1_; have HB := n2_; clear n0_ n1_ n2_; clear hb ho14; obtain ⟨hcz15_0, hcz15_1, hcz15_2, hcz15_3, hcz15_4, hcz15_5, hcz15_6, hcz15_7, hfz15_0, hfz15_1, hfz15_2, hfz15_3, hfz15_4, hfz15_5, hfz15_6, hfz15_7⟩ := blk_all8 BK178.out) | ((with_reducible refine gate_builtin (b := .append) (xs := #[.tmp 16, .tmp 18]) rfl ?_); at_builtin; refine Kd.R_append_rows (Kd.int .u8) (w0 := w) w.heap.size rfl (.tmp 16) (.tmp 18) 22 5 (.int .u8 0) 1 rfl Try.underlying22 info5 rfl (by decide) (by omega) v181 y180 l0_0 _ _ _ (fun _ => True) (fun _ => False) rfl rfl ?aO ?aR (fun _ _ h => h) (fun _ h => h.elim) ?aF ?aB ?aS ?aL ?_; (case aR => repeat (first | exact (Kd.C_below HR0_0.out HB.out) | (with_reducible refine Kd.C_alloc ?_ _) | (with_reducible refine Kd.C_drewN ?_ _) | (with_reducible refine Kd.C_drew ?_))); (case aB => exact (au7)); (case aF => exact (fun _ _ => trivial)); (case aO => exact (by (with_reducible repeat (first | apply Kd.R_alloc | apply Kd.R_drewN | apply Kd.R_drew)); first | exact HO182.out | exact Kd.R_mono (HO182.out) (fun _ h_ => h_.2))); (case aS => exact (below_size (au7))); (case aL => have := LMc4.out; omega); intro v184 w16 ho hb hg hat; rw [← Ny183.out] at ho; have n0_ := Aside0.mk (blk_grown (g := gb178) (o := .cells #[.slice A0_0 l0_0.length c0_0, .slice A0_1 l0_1.length c0_1, .int .u8 a0_2, .bool a0_3, .int .i64 a0_4, .int .i64 a0_5, .int .i64 a0_6, .slice A0_7 l0_7.length c0_7] 25 (0, 0)) (au23) hg (Kd.R_ne HO182.out BK178.out (by decide))); have n1_ := Aside0.mk (hb); have n2_ := Aside0.mk (ho); clear BK178; clear HB; clear HO182; have BK178 := n0_; have HB := n1_; have HO185 := n2_; clear n0_ n1_ n2_; clear ho hb hg hat))
      (try (rw [drewN_self w16]; generalize hq_ : World.drewN w16 _ = w16; have n0_ : Aside0 (Kd.R (Kd.int .u8) 5 w16 w.heap.size (fun _ => True) v184 y183) := ⟨by rw [← hq_]; exact (by (with_reducible repeat (first | apply Kd.R_alloc | apply Kd.R_drewN | apply Kd.R_drew)); first | exact HO185.out | exact Kd.R_mono (HO185.out) (fun _ h_ => h_.2))⟩; have n1_ : Aside0 (w16.heap[gb178]? = some (.cells #[.slice A0_0 l0_0.length c0_0, .slice A0_1 l0_1.length c0_1, .int .u8 a0_2, .bool a0_3, .int .i64 a0_4, .int .i64 a0_5, .int .i64 a0_6, .slice A0_7 l0_7.length c0_7] 25 (0, 0))) := ⟨by rw [← hq_]; exact (au23)⟩; have n2_ : Aside0 (Below w.heap.size w w16) := ⟨by rw [← hq_]; exact (au7)⟩; clear HO185 BK178 HB hq_; have HO185 := n0_; have BK178 := n1_; have HB := n2_; clear n0_ n1_ n2_))
      (try obtain ⟨hcu17_0, hcu17_1, hcu17_2, hcu17_3, hcu17_4, hcu17_5, hcu17_6, hcu17_7, hfu17_0, hfu17_1, hfu17_2, hfu17_3, hfu17_4, hfu17_5, hfu17_6, hfu17_7⟩ := blk_all8 BK178.out)
      have n0_ := Aside0.mk (Kd.R_drew HO185.out)
      have n1_ := Aside0.mk (blk_drew BK178.out)
      have n2_ := Aside0.mk (below_drew1 HB.out)
      clear HO185
      clear BK178
      clear HB
      have HO185 := n0_
      have BK178 := n1_
      have HB := n2_
      clear n0_ n1_ n2_
      refine start_ (n := 11) (S := fun w' => w'.cell? ⟨gb178, 0, none⟩ = some (.slice A0_0 l0_0.length c0_0) ∧ w'.cell? ⟨gb178, 1, none⟩ = some (.slice A0_1 l0_1.length c0_1) ∧ w'.cell? ⟨gb178, 2, none⟩ = some (.int .u8 a0_2) ∧ w'.cell? ⟨gb178, 3, none⟩ = some (.bool a0_3) ∧ w'.cell? ⟨gb178, 4, none⟩ = some (.int .i64 a0_4) ∧ w'.cell? ⟨gb178, 5, none⟩ = some (.int .i64 a0_5) ∧ w'.cell? ⟨gb178, 6, none⟩ = some (.int .i64 a0_6) ∧ w'.cell? ⟨gb178, 7, none⟩ = some (.slice A0_7 l0_7.length c0_7)) (ds := []) #[false, false, false, false, false, false, false, false, false, false, false] (by kernel_rfl) rfl rfl ⟨(blk_cell BK178.out 0).trans rfl, (blk_cell BK178.out 1).trans rfl, (blk_cell BK178.out 2).trans rfl, (blk_cell BK178.out 3).trans rfl, (blk_cell BK178.out 4).trans rfl, (blk_cell BK178.out 5).trans rfl, (blk_cell BK178.out 6).trans rfl, (blk_cell BK178.out 7).trans rfl⟩ (fun hHeld => ?_); refine with_tabW method_Bytes.tab4 method_Bytes.bits4 (fun HT_ HW_ => ?_)
      generalize w16.drew = w18 at HO185 BK178 HB hHeld ⊢
      refine pure_ (i := 0) (N := some 20) (v := ?_) (a' := ?_) #[true, false, false, false, false, false, false, false, false, false, false] rfl rfl (any_of HT_.out (by kernel_rfl)) (fun _ _ _ h => h) (Or.inl ⟨by rfl, ?_⟩) ?_ ?_
      rotate_left
      ·
       intro w'
       go_simp
       with_reducible rfl
      rotate_left
      ·
       simp only [Act.put, List.setIfInBounds_toArray, List.set_cons_zero, List.set_cons_succ, i64_w, i32_w]
       rfl
      refine pure_ (i := 1) (N := some 21) (v := ?_) (a' := ?_) #[true, true, false, false, false, false, false, false, false, false, false] rfl rfl (any_of HT_.out (by kernel_rfl)) (fun _ _ _ h => h) (Or.inl ⟨by rfl, ?_⟩) ?_ ?_
      rotate_left
      ·
       intro w'
       go_simp
       with_reducible rfl
      rotate_left
      ·
       simp only [Act.put, List.setIfInBounds_toArray, List.set_cons_zero, List.set_cons_succ, i64_w, i32_w]
       rfl
      refine pure_ (i := 7) (N := some 27) (v := ?_) (a' := ?_) #[true, true, false, false, false, false, false, true, false, false, false] rfl rfl (any_of HT_.out (by kernel_rfl)) (fun _ _ _ h => h) (Or.inl ⟨by rfl, ?_⟩) ?_ ?_
      rotate_left
      ·
       intro w'
       go_simp
       with_reducible rfl
      rotate_left
      ·
       simp only [Act.put, List.setIfInBounds_toArray, List.set_cons_zero, List.set_cons_succ, i64_w, i32_w]
       rfl
      refine take_ (i := 2) (N := some 22) (v := ?_) (a' := ?_) #[true, true, true, false, false, false, false, true, false, false, false] rfl rfl (take_ofW HT_.out HW_.out (by kernel_rfl)) (fun _ _ _ h => h) (Or.inl ⟨by rfl, ?_⟩) hHeld ?_ ?_
      rotate_left
      ·
       rintro w' ⟨s0, s1, s2, s3, s4, s5, s6, s7⟩
       go_simp
       with_reducible rfl
      rotate_left
      ·
       simp only [Act.put, List.setIfInBounds_toArray, List.set_cons_zero, List.set_cons_succ, i64_w, i32_w]
       rfl
      refine pure_ (i := 3) (N := some 23) (v := ?_) (a' := ?_) #[true, true, true, true, false, false, false, true, false, false, false] rfl rfl (any_of HT_.out (by kernel_rfl)) (fun _ _ _ h => h) (Or.inl ⟨by rfl, ?_⟩) ?_ ?_
      rotate_left
      ·
       intro w'
       go_simp
       with_reducible rfl
      rotate_left
      ·
       simp only [Act.put, List.setIfInBounds_toArray, List.set_cons_zero, List.set_cons_succ, i64_w, i32_w]
       rfl
      refine pure_ (i := 4) (N := some 24) (v := ?_) (a' := ?_) #[true, true, true, true, true, false, false, true, false, false, false] rfl rfl (any_of HT_.out (by kernel_rfl)) (fun _ _ _ h => h) (Or.inl ⟨by rfl, ?_⟩) ?_ ?_
      rotate_left
      ·
       intro w'
       go_simp
       with_reducible rfl
      rotate_left
      ·
       simp only [Act.put, List.setIfInBounds_toArray, List.set_cons_zero, List.set_cons_succ, i64_w, i32_w]
       rfl
      refine take_ (i := 8) (N := some 28) (v := ?_) (a' := ?_) #[true, true, true, true, true, false, false, true, true, false, false] rfl rfl (take_ofW HT_.out HW_.out (by kernel_rfl)) (fun _ _ _ h => h) (Or.inl ⟨by rfl, ?_⟩) hHeld ?_ ?_
      rotate_left
      ·
       rintro w' ⟨s0, s1, s2, s3, s4, s5, s6, s7⟩
       go_simp
       with_reducible rfl
      rotate_left
      ·
       simp only [Act.put, List.setIfInBounds_toArray, List.set_cons_zero, List.set_cons_succ, i64_w, i32_w]
       rfl
      refine one_ (i := 5) (N := some 25) #[true, true, true, true, true, true, false, true, true, false, false] rfl rfl (one_of HT_.out (by kernel_rfl)) (by decide) (fun K hK => ?_)
      refine value_ (w1 := ?_) (v := ?_) (by rfl) rfl ?_ ?_
      rotate_left 2
      ·
       go_simp
       constructor
       ·
        rfl
       ·
        rfl
      refine hK.out _ _ ⟨(blk_cell (blk_alloc BK178.out _) 0).trans rfl, (blk_cell (blk_alloc BK178.out _) 1).trans rfl, (blk_cell (blk_alloc BK178.out _) 2).trans rfl, (blk_cell (blk_alloc BK178.out _) 3).trans rfl, (blk_cell (blk_alloc BK178.out _) 4).trans rfl, (blk_cell (blk_alloc BK178.out _) 5).trans rfl, (blk_cell (blk_alloc BK178.out _) 6).trans rfl, (blk_cell (blk_alloc BK178.out _) 7).trans rfl⟩ (fun hHeld => ?_)
      clear hK K
      refine norm_ (a' := ?_) ?_ ?_
      rotate_left
      ·
       show Act.put _ (some 25) _ = _
       simp only [Act.put, List.setIfInBounds_toArray, List.set_cons_zero, List.set_cons_succ, i64_w, i32_w]
       rfl
      refine one_ (i := 6) (N := some 26) #[true, true, true, true, true, true, true, true, true, false, false] rfl rfl (one_of HT_.out (by kernel_rfl)) (by decide) (fun K hK => ?_)
      refine Kd.R_append_step (Kd.int .u8) (w0 := w) w.heap.size (by rfl) (.tmp 20) (.tmp 25) 22 5 (.int .u8 0) 1 rfl Try.underlying22 info5 rfl (by decide) (by omega) v184 y183 (((l0_1.length : Int)) % 256) [.int .u8 (((l0_1.length : Int)) % 256)] (fun _ => True) (fun _ => False) rfl rfl ?aP (fun _ hk => hk.elim) ?aF ?aO ?aB ?aS ?aL ?_
      (case aP => exact rfl)
      (case aB => exact (au7))
      (case aF => exact (fun _ _ => trivial))
      (case aO => exact (by (with_reducible repeat (first | apply Kd.R_alloc | apply Kd.R_drewN | apply Kd.R_drew)); first | exact HO185.out | exact Kd.R_mono (HO185.out) (fun _ h_ => h_.2)))
      (case aS => exact (below_size (au7)))
      (case aL => have := LMc5.out; omega)
      intro v187 w19 ho hb hg hat
      rw [← Ny186.out] at ho
      have n0_ := Aside0.mk (blk_grown (g := gb178) (o := .cells #[.slice A0_0 l0_0.length c0_0, .slice A0_1 l0_1.length c0_1, .int .u8 a0_2, .bool a0_3, .int .i64 a0_4, .int .i64 a0_5, .int .i64 a0_6, .slice A0_7 l0_7.length c0_7] 25 (0, 0)) (au23) hg (Kd.R_ne HO185.out BK178.out (by decide)))
      have n1_ := Aside0.mk (hb)
      have n2_ := Aside0.mk (ho)
      clear BK178
      clear HB
      clear HO185
      have BK178 := n0_
      have HB := n1_
      have HO188 := n2_
      clear n0_ n1_ n2_
      clear ho hb hg hat
      refine hK.out _ _ ⟨(blk_cell BK178.out 0).trans rfl, (blk_cell BK178.out 1).trans rfl, (blk_cell BK178.out 2).trans rfl, (blk_cell BK178.out 3).trans rfl, (blk_cell BK178.out 4).trans rfl, (blk_cell BK178.out 5).trans rfl, (blk_cell BK178.out 6).trans rfl, (blk_cell BK178.out 7).trans rfl⟩ (fun hHeld => ?_)
      clear hK K
      refine norm_ (a' := ?_) ?_ ?_
      rotate_left
      ·
       show Act.put _ (some 26) _ = _
       simp only [Act.put, List.setIfInBounds_toArray, List.set_cons_zero, List.set_cons_succ, i64_w, i32_w]
       rfl
      refine one_ (i := 9) (N := some 29) #[true, true, true, true, true, true, true, true, true, true, false] rfl rfl (one_of HT_.out (by kernel_rfl)) (by decide) (fun K hK => ?_)
      refine Kd.R_append_rows_step (Kd.int .u8) (w0 := w) w.heap.size (by rfl) (.tmp 26) (.tmp 28) 22 5 (.int .u8 0) 1 rfl Try.underlying22 info5 rfl (by decide) (by omega) v187 y186 l0_1 _ _ _ (fun _ => True) (fun _ => False) rfl rfl ?aO ?aR (fun _ _ h => h) (fun _ h => h.elim) ?aF ?aB ?aS ?aL ?_
      (case aR => repeat (first | exact (Kd.C_below HR0_1.out HB.out) | (with_reducible refine Kd.C_alloc ?_ _) | (with_reducible refine Kd.C_drewN ?_ _) | (with_reducible refine Kd.C_drew ?_)))
      (case aB => exact (au7))
      (case aF => exact (fun _ _ => trivial))
      (case aO => exact (by (with_reducible repeat (first | apply Kd.R_alloc | apply Kd.R_drewN | apply Kd.R_drew)); first | exact HO188.out | exact Kd.R_mono (HO188.out) (fun _ h_ => h_.2)))
      (case aS => exact (below_size (au7)))
      (case aL => have := LMc6.out; omega)
      intro v190 w20 ho hb hg hat
      rw [← Ny189.out] at ho
      have n0_ := Aside0.mk (blk_grown (g := gb178) (o := .cells #[.slice A0_0 l0_0.length c0_0, .slice A0_1 l0_1.length c0_1, .int .u8 a0_2, .bool a0_3, .int .i64 a0_4, .int .i64 a0_5, .int .i64 a0_6, .slice A0_7 l0_7.length c0_7] 25 (0, 0)) (au23) hg (Kd.R_ne HO188.out BK178.out (by decide)))
      have n1_ := Aside0.mk (hb)
      have n2_ := Aside0.mk (ho)
      clear BK178
      clear HB
      clear HO188
      have BK178 := n0_
      have HB := n1_
      have HO191 := n2_
      clear n0_ n1_ n2_
      clear ho hb hg hat
      refine hK.out _ _ ⟨(blk_cell BK178.out 0).trans rfl, (blk_cell BK178.out 1).trans rfl, (blk_cell BK178.out 2).trans rfl, (blk_cell BK178.out 3).trans rfl, (blk_cell BK178.out 4).trans rfl, (blk_cell BK178.out 5).trans rfl, (blk_cell BK178.out 6).trans rfl, (blk_cell BK178.out 7).trans rfl⟩ (fun hHeld => ?_)
      clear hK K
      refine norm_ (a' := ?_) ?_ ?_
      rotate_left
      ·
       show Act.put _ (some 29) _ = _
       simp only [Act.put, List.setIfInBounds_toArray, List.set_cons_zero, List.set_cons_succ, i64_w, i32_w]
       rfl
      refine pure_ (i := 10) (N := some 4) (v := ?_) (a' := ?_) #[true, true, true, true, true, true, true, true, true, true, true] rfl rfl (any_of HT_.out (by kernel_rfl)) (fun _ _ _ h => h) (Or.inl ⟨by rfl, ?_⟩) ?_ ?_
      rotate_left
      ·
       intro w'
       go_simp
       with_reducible rfl
      rotate_left
      ·
       simp only [Act.put, List.setIfInBounds_toArray, List.set_cons_zero, List.set_cons_succ, i64_w, i32_w]
       rfl
      refine done_ (done_of HT_.out (by kernel_rfl)) ?_
      obtain ⟨hcz21_0, hcz21_1, hcz21_2, hcz21_3, hcz21_4, hcz21_5, hcz21_6, hcz21_7, hfz21_0, hfz21_1, hfz21_2, hfz21_3, hfz21_4, hfz21_5, hfz21_6, hfz21_7⟩ := blk_all8 BK178.out
      go_upto_if 36 with (first | ((with_reducible refine gate_dst (N := 33) rfl ?_); refine Kd.R_lit (Kd.int .u8) _ 5 ?hg (N := 33) ?hd (xs := ([a0_2, 0] : List Int)) (inner := [.int .u8 a0_2, .int .u8 0]) (ok := fun _ => True) (okp := fun _ => True) ?hr ?hp (fun _ hk => hk) trivial (Below.refl _ _) (Nat.le_refl _) (by simp) ?_; (case hd => rfl); (case hg => rfl); (case hr => first | (go_simp; done) | (go_simp; rfl)); (case hp => exact (Reps.one (show Kd.M (Kd.int .u8) _ _ _ a0_2 [.int .u8 a0_2] from rfl) (Reps.one (show Kd.M (Kd.int .u8) _ _ _ 0 [.int .u8 0] from rfl) (Reps.none _ _)))); intro v193 w22 ho23 hb hg_ hnew_; clear hg_ hnew_; (first | rw [← Ny192.out] at ho23 | (simp only [Int.reduceToNat] at ho23; rw [← Ny192.out] at ho23)); have n0_ := Aside0.mk (Kd.R_elder' (by (with_reducible repeat (first | apply Kd.R_alloc | apply Kd.R_drewN | apply Kd.R_drew)); first | exact HO191.out | exact Kd.R_mono (HO191.out) (fun _ h_ => h_.2)) (Kd.R_base ho23) hb); have n1_ := Aside0.mk (Kd.R_lower (Kd.R_new' ho23 (Kd.R_lt (by (with_reducible repeat (first | apply Kd.R_alloc | apply Kd.R_drewN | apply Kd.R_drew)); first | exact HO191.out | exact Kd.R_mono (HO191.out) (fun _ h_ => h_.2)))) (below_size (au7))); have n2_ := Aside0.mk (blk_below (g := gb178) (o := .cells #[.slice A0_0 l0_0.length c0_0, .slice A0_1 l0_1.length c0_1, .int .u8 a0_2, .bool a0_3, .int .i64 a0_4, .int .i64 a0_5, .int .i64 a0_6, .slice A0_7 l0_7.length c0_7] 25 (0, 0)) (au23) hb); have n3_ := Aside0.mk (below_step (au7) hb); clear HO191; clear BK178; clear HB; have HO191 := n0_; have HO194 := n1_; have BK178 := n2_; have HB := n3_; clear n0_ n1_ n2_ n3_; clear hb ho23; obtain ⟨Ao25, co25, eo25⟩ := Kd.R_slice HO194.out; subst eo25) | ((with_reducible refine gate_builtin (b := .append) (xs := #[.tmp 30, .tmp 33]) rfl ?_); at_builtin; refine Kd.R_append_rows (Kd.int .u8) (w0 := w) w.heap.size rfl (.tmp 30) (.tmp 33) 22 5 (.int .u8 0) 1 rfl Try.underlying22 info5 rfl (by decide) (by omega) v190 y189 y192 _ _ _ (fun k_ => some k_ ≠ (.slice Ao25 y192.length co25 : Value).ownBlock) (fun _ => False) rfl rfl ?aO ?aR (fun _ _ h => h) (fun _ h => h.elim) ?aF ?aB ?aS ?aL ?_; (case aR => repeat (first | exact (Kd.R_reads' HO194.out).2.2 | (with_reducible refine Kd.C_alloc ?_ _) | (with_reducible refine Kd.C_drewN ?_ _) | (with_reducible refine Kd.C_drew ?_))); (case aB => exact (au7)); (case aF => exact (fun k_ hk => Kd.fresh' (Kd.R_lt (au79)) k_ hk)); (case aO => exact (by (with_reducible repeat (first | apply Kd.R_alloc | apply Kd.R_drewN | apply Kd.R_drew)); first | exact Kd.R_mono HO191.out (fun _ hk => hk.2) | exact Kd.R_mono (Kd.R_mono HO191.out (fun _ hk => hk.2)) (fun _ h_ => h_.2))); (case aS => exact (below_size (au7))); (case aL => have := LMc7.out; omega); intro v196 w24 ho hb hg hat; rw [← Ny195.out] at ho; have n0_ := Aside0.mk (blk_grown (g := gb178) (o := .cells #[.slice A0_0 l0_0.length c0_0, .slice A0_1 l0_1.length c0_1, .int .u8 a0_2, .bool a0_3, .int .i64 a0_4, .int .i64 a0_5, .int .i64 a0_6, .slice A0_7 l0_7.length c0_7] 25 (0, 0)) (au23) hg (Kd.R_ne HO191.out BK178.out (by decide))); have n1_ := Aside0.mk (Kd.R_after (ok := (fun _ => True)) (au79) hg hat); have n2_ := Aside0.mk (hb); have n3_ := Aside0.mk (ho); clear BK178; clear HO194; clear HB; clear HO191; have BK178 := n0_; have HO194 := n1_; have HB := n2_; have HO197 := n3_; clear n0_ n1_ n2_ n3_; clear ho hb hg hat; obtain ⟨hcz26_0, hcz26_1, hcz26_2, hcz26_3, hcz26_4, hcz26_5, hcz26_6, hcz26_7, hfz26_0, hfz26_1, hfz26_2, hfz26_3, hfz26_4, hfz26_5, hfz26_6, hfz26_7⟩ := blk_all8 BK178.out))
      (try simp only [Act.put, List.setIfInBounds_toArray, List.set_cons_zero, List.set_cons_succ])
      go_cut [] (fun wc => ∃ (kq : Nat) (x4_7 : List Int), Aside0 (method_Bytes.j0 kq x4_7 l0_0 l0_1 a0_2 a0_3 a0_4 a0_5 a0_6 l0_7 = some (r1, r2)) ∧ Aside0 (kq ≤ k) ∧ Aside0 (Kd.R (Kd.int .u8) 5 wc w.heap.size (fun _ => True) v196 x4_7) ∧ Aside0 (wc.heap[gb178]? = some (.cells #[(.slice A0_0 l0_0.length c0_0), (.slice A0_1 l0_1.length c0_1), .int .u8 a0_2, .bool a0_3, .int .i64 a0_4, .int .i64 a0_5, .int .i64 a0_6, (.slice A0_7 l0_7.length c0_7)] 25 (0, 0))) ∧ Aside0 (Below w.heap.size w wc))
      case first =>
       have H := HC8.out
       clear HC8
       by_cases c27 : a0_3 = true
       ·
        subst c27
        have H1 : (if 0 ≤ (wrap64 ((y195.length : Int) - 1)) then (if (wrap64 ((y195.length : Int) - 1)) < (y195.length : Int) then (method_Bytes.j0 k (y195.set ((wrap64 ((y195.length : Int) - 1)) : Int).toNat 1) l0_0 l0_1 a0_2 true a0_4 a0_5 a0_6 l0_7) else (none)) else (none)) = some (r1, r2) := by rw [if_pos rfl] at H; exact H
        clear H
        have H := H1
        clear H1
        obtain ⟨ji28, hji28⟩ : ∃ j_ : Int, (wrap64 ((y195.length : Int) - 1)) = j_ := ⟨_, rfl⟩
        replace H : (if 0 ≤ (ji28) then (if (ji28) < (y195.length : Int) then (method_Bytes.j0 k (y195.set ((ji28) : Int).toNat 1) l0_0 l0_1 a0_2 true a0_4 a0_5 a0_6 l0_7) else (none)) else (none)) = some (r1, r2) := by first | (rw [hji28] at H; exact H) | (simp only [hji28] at H ⊢; exact H)
        have hji28w : (IntKind.i64.wrap ((y195.length : Int) - 1)) = ji28 := (i64_w _).trans hji28
        by_cases c29 : 0 ≤ (ji28)
        ·
         rw [if_pos c29] at H
         have c29b0 : decide (0 ≤ (ji28)) = true := decide_eq_true c29
         clear c29
         (first | rw [c29b0] | (simp only [i64_w, i32_w]; rw [c29b0]) | skip)
         by_cases c30 : (ji28) < (y195.length : Int)
         ·
          rw [if_pos c30] at H
          have c30b0 : decide ((ji28) < (y195.length : Int)) = true := decide_eq_true c30
          clear c30
          obtain ⟨y198, hy198⟩ : ∃ y_ : List Int, y_ = (y195.set ((ji28) : Int).toNat 1) := ⟨_, rfl⟩
          replace H : (method_Bytes.j0 k y198 l0_0 l0_1 a0_2 true a0_4 a0_5 a0_6 l0_7) = some (r1, r2) := by first | (rw [hy198]; with_reducible exact H) | (have H2_ := (Option.bind_some _ _).symm.trans H; rw [hy198]; with_reducible exact H2_) | (have H2_ := (Option.bind_some _ _).symm.trans H; with_reducible exact H2_) | with_reducible exact H | (rw [hy198]; exact H) | exact H
          have Ny198 := Aside0.mk hy198
          clear hy198
          have H' := Aside0.mk H
          clear H
          obtain ⟨Ao32, co32, eo32⟩ := Kd.R_slice HO197.out
          subst eo32
          have p31 : 0 ≤ ((ji28) : Int) := of_decide_eq_true (au15)
          have q31 : ((ji28) : Int) < ((y195.length : Int) : Int) := of_decide_eq_true (au15)
          obtain ⟨go31, co31, eo31, gb31, gl31, cl31, HG31⟩ := Kd.R_form HO197.out (by omega)
          (first | cases eo31 | (injection eo31 with ea_ en_ ec_; (first | subst ea_ | (injection ea_ with ea_; subst ea_)); subst ec_; clear en_))
          have GB31 := Aside0.mk gb31
          have GG31 := Aside0.mk HG31
          clear gb31 gl31 HG31
          obtain ⟨hx31_0, hf31_0⟩ := Kd.R_celln 0 HO197.out ((ji28) : Int) p31 q31
          replace p31 := eq_true p31
          replace q31 := eq_true q31
          have HP33 := Kd.R_putg HO197.out ((ji28) : Int) 1
          go_wp2_with (first | ((with_reducible refine gate_store (t := 5) (p := 41) rfl ?_); refine store_event (t := 5) (p := 41) (v := ?vo_w34) (w1 := (w24.setCell ⟨go31, ((ji28) : Int).toNat, none⟩ (.int .u8 1))) ?hg ?ho ?hn ?hr ?_; (case ho => rfl); (case hg => rfl); (case hn => rfl); (case hr => first | (go_simp; done) | (go_simp; rfl)); intro w34 hw; have hg : w24.grownBy w34 (some go31) := (by rw [hw]; exact HP33.2); have hp_ : Kd.R (Kd.int .u8) 5 w34 w.heap.size (fun k_ => some k_ ≠ (.slice Ao25 y192.length co25 : Value).ownBlock) (.slice (some ⟨go31, 0, none⟩) y195.length co32) y198 := (by rw [hw, Ny198.out]; exact HP33.1); clear HP33; have n0_ := Aside0.mk (blk_grown (g := gb178) (o := .cells #[.slice A0_0 l0_0.length c0_0, .slice A0_1 l0_1.length c0_1, .int .u8 a0_2, .bool true, .int .i64 a0_4, .int .i64 a0_5, .int .i64 a0_6, .slice A0_7 l0_7.length c0_7] 25 (0, 0)) (au23) hg (Kd.R_ne HO197.out BK178.out (by decide))); have n1_ := Aside0.mk (Kd.R_after (v := (.slice (some ⟨go31, 0, none⟩) y195.length co32)) (v1 := (.slice (some ⟨go31, 0, none⟩) y195.length co32)) (ok := (fun _ => True)) (au79) hg (.inl rfl)); have n2_ := Aside0.mk (hp_); have n3_ := Aside0.mk ((by rw [hw]; exact below_set (HB.out) GB31.out : Below w.heap.size w w34)); clear BK178; clear HO194; clear HO197; clear HB; have BK178 := n0_; have HO194 := n1_; have HO197 := n2_; have HB := n3_; clear n0_ n1_ n2_ n3_; clear hg hw hp_))
          go_meet
          case rel => exact ⟨_, (y198), H', ⟨au80⟩, ⟨by (with_reducible repeat (first | apply Kd.R_alloc | apply Kd.R_drewN | apply Kd.R_drew)); first | exact Kd.R_mono HO197.out (fun _ hk => trivial) | exact Kd.R_mono (Kd.R_mono HO197.out (fun _ hk => trivial)) (fun _ h_ => h_.2)⟩, ⟨au23⟩, ⟨au7⟩⟩
         ·
          rw [if_neg c30] at H
          exact absurd H (by simp)
        ·
         rw [if_neg c29] at H
         exact absurd H (by simp)
       ·
        replace c27 := Bool.eq_false_iff.mpr c27
        subst c27
        have H1 : (method_Bytes.j0 k y195 l0_0 l0_1 a0_2 false a0_4 a0_5 a0_6 l0_7) = some (r1, r2) := by rw [if_neg (show ¬ (false = true) by decide)] at H; exact H
        clear H
        have H := H1
        clear H1
        have H' := Aside0.mk H
        clear H
        go_wp2
        go_meet
        case rel => exact ⟨_, (y195), H', ⟨au80⟩, ⟨by (with_reducible repeat (first | apply Kd.R_alloc | apply Kd.R_drewN | apply Kd.R_drew)); first | exact Kd.R_mono HO197.out (fun _ hk => trivial) | exact Kd.R_mono (Kd.R_mono HO197.out (fun _ hk => trivial)) (fun _ h_ => h_.2)⟩, ⟨au23⟩, ⟨au7⟩⟩
      case rest =>
       clear HC8
       try clear c1
       try clear c2
       try clear p2
       try clear c3
       try clear p3
       try clear q3
       try clear hx3
       try clear hf3
       try clear c4
       try clear c5
       try clear c6
       try clear p6
       try clear c7
       try clear c14
       try clear c21
       try clear c27
       try clear c29
       try clear c29b0
       try clear c30
       try clear c30b0
       try clear p31
       try clear q31
       try clear hx31
       try clear hf31
       try clear hcz10_0
       try clear hcz10_1
       try clear hcz10_2
       try clear hcz10_3
       try clear hcz10_4
       try clear hcz10_5
       try clear hcz10_6
       try clear hcz10_7
       try clear hcz12_0
       try clear hcz12_1
       try clear hcz12_2
       try clear hcz12_3
       try clear hcz12_4
       try clear hcz12_5
       try clear hcz12_6
       try clear hcz12_7
       try clear hcz15_0
       try clear hcz15_1
       try clear hcz15_2
       try clear hcz15_3
       try clear hcz15_4
       try clear hcz15_5
       try clear hcz15_6
       try clear hcz15_7
       try clear hcz21_0
       try clear hcz21_1
       try clear hcz21_2
       try clear hcz21_3
       try clear hcz21_4
       try clear hcz21_5
       try clear hcz21_6
       try clear hcz21_7
       try clear hcz26_0
       try clear hcz26_1
       try clear hcz26_2
       try clear hcz26_3
       try clear hcz26_4
       try clear hcz26_5
       try clear hcz26_6
       try clear hcz26_7
       try clear hfz10_0
       try clear hfz10_1
       try clear hfz10_2
       try clear hfz10_3
       try clear hfz10_4
       try clear hfz10_5
       try clear hfz10_6
       try clear hfz10_7
       try clear hfz12_0
       try clear hfz12_1
       try clear hfz12_2
       try clear hfz12_3
       try clear hfz12_4
       try clear hfz12_5
       try clear hfz12_6
       try clear hfz12_7
       try clear hfz15_0
       try clear hfz15_1
       try clear hfz15_2
       try clear hfz15_3
       try clear hfz15_4
       try clear hfz15_5
       try clear hfz15_6
       try clear hfz15_7
       try clear hfz21_0
       try clear hfz21_1
       try clear hfz21_2
       try clear hfz21_3
       try clear hfz21_4
       try clear hfz21_5
       try clear hfz21_6
       try clear hfz21_7
       try clear hfz26_0
       try clear hfz26_1
       try clear hfz26_2
       try clear hfz26_3
       try clear hfz26_4
       try clear hfz26_5
       try clear hfz26_6
       try clear hfz26_7
       try clear hx31_0
       try clear p31
       try clear q31
       obtain ⟨kq, x4_7, HA, HJ7, HO_4, BK178, HB⟩ := hcut
       cases kq with
       | zero => exact absurd HA.out (by simp [method_Bytes.j0])
       | succ kj7 =>
        have H := HA.out
        clear HA
        simp only [method_Bytes.j0] at H
        have H' := Aside0.mk H
        clear H
        obtain ⟨hcz35_0, hcz35_1, hcz35_2, hcz35_3, hcz35_4, hcz35_5, hcz35_6, hcz35_7, hfz35_0, hfz35_1, hfz35_2, hfz35_3, hfz35_4, hfz35_5, hfz35_6, hfz35_7⟩ := blk_all8 BK178.out
        go_wp2
        go_loopg [4, 52] kj7 (fun kq v4 v52 w' => ∃ (x4_2 : List Int) (x52_2 : Int), v52 = .int .i64 x52_2 ∧ Aside0 (method_Bytes.l0 kq x4_2 x52_2 3 a0_4 2 a0_5 2 a0_6 = some (r1, r2)) ∧ Aside0 (kq ≤ kj7) ∧ Aside0 (Kd.R (Kd.int .u8) 5 w' w.heap.size (fun _ => True) v4 x4_2) ∧ Aside0 (w'.heap[gb178]? = some (.cells #[(.slice A0_0 l0_0.length c0_0), (.slice A0_1 l0_1.length c0_1), .int .u8 a0_2, .bool a0_3, .int .i64 a0_4, .int .i64 a0_5, .int .i64 a0_6, (.slice A0_7 l0_7.length c0_7)] 25 (0, 0))) ∧ Aside0 (Below w.heap.size w w'))
        case atStart => exact ⟨(x4_7), (0), (au21), H', ⟨Nat.le_refl _⟩, ⟨au48⟩, ⟨au23⟩, ⟨au7⟩⟩
        case round =>
         clear H'
         try clear c1
         try clear c2
         try clear p2
         try clear c3
         try clear p3
         try clear q3
         try clear hx3
         try clear hf3
         try clear c4
         try clear c5
         try clear c6
         try clear p6
         try clear c7
         try clear c14
         try clear c21
         try clear c27
         try clear c29
         try clear c29b0
         try clear c30
         try clear c30b0
         try clear p31
         try clear q31
         try clear hx31
         try clear hf31
         try clear hcz10_0
         try clear hcz10_1
         try clear hcz10_2
         try clear hcz10_3
         try clear hcz10_4
         try clear hcz10_5
         try clear hcz10_6
         try clear hcz10_7
         try clear hcz12_0
         try clear hcz12_1
         try clear hcz12_2
         try clear hcz12_3
         try clear hcz12_4
         try clear hcz12_5
         try clear hcz12_6
         try clear hcz12_7
         try clear hcz15_0
         try clear hcz15_1
         try clear hcz15_2
         try clear hcz15_3
         try clear hcz15_4
         try clear hcz15_5
         try clear hcz15_6
         try clear hcz15_7
         try clear hcz21_0
         try clear hcz21_1
         try clear hcz21_2
         try clear hcz21_3
         try clear hcz21_4
         try clear hcz21_5
         try clear hcz21_6
         try clear hcz21_7
         try clear hcz26_0
         try clear hcz26_1
         try clear hcz26_2
         try clear hcz26_3
         try clear hcz26_4
         try clear hcz26_5
         try clear hcz26_6
         try clear hcz26_7
         try clear hcz35_0
         try clear hcz35_1
         try clear hcz35_2
         try clear hcz35_3
         try clear hcz35_4
         try clear hcz35_5
         try clear hcz35_6
         try clear hcz35_7
         try clear hfz10_0
         try clear hfz10_1
         try clear hfz10_2
         try clear hfz10_3
         try clear hfz10_4
         try clear hfz10_5
         try clear hfz10_6
         try clear hfz10_7
         try clear hfz12_0
         try clear hfz12_1
         try clear hfz12_2
         try clear hfz12_3
         try clear hfz12_4
         try clear hfz12_5
         try clear hfz12_6
         try clear hfz12_7
         try clear hfz15_0
         try clear hfz15_1
         try clear hfz15_2
         try clear hfz15_3
         try clear hfz15_4
         try clear hfz15_5
         try clear hfz15_6
         try clear hfz15_7
         try clear hfz21_0
         try clear hfz21_1
         try clear hfz21_2
         try clear hfz21_3
         try clear hfz21_4
         try clear hfz21_5
         try clear hfz21_6
         try clear hfz21_7
         try clear hfz26_0
         try clear hfz26_1
         try clear hfz26_2
         try clear hfz26_3
         try clear hfz26_4
         try clear hfz26_5
         try clear hfz26_6
         try clear hfz26_7
         try clear hfz35_0
         try clear hfz35_1
         try clear hfz35_2
         try clear hfz35_3
         try clear hfz35_4
         try clear hfz35_5
         try clear hfz35_6
         try clear hfz35_7
         try clear hx31_0
         try clear p2
         try clear p3
         try clear p31
         try clear p6
         try clear q3
         try clear q31
         obtain ⟨x4_2, x52_2, rfl, HA, HK2, HO_4, BK178, HB⟩ := hrel
         cases gk with
         | zero => exact absurd HA.out (by simp [method_Bytes.l0])
         | succ k2 =>
          have H := HA.out
          clear HA
          simp only [method_Bytes.l0] at H
          by_cases c36 : x52_2 < 3
          ·
           rw [if_pos c36] at H
           have c36b0 : decide (x52_2 < 3) = true := decide_eq_true c36
           clear c36
           by_cases c37 : 0 ≤ x52_2
           ·
            rw [if_pos c37] at H
            have c37b0 : decide (0 ≤ x52_2) = true := decide_eq_true c37
            clear c37
            replace H := Option.bind_eq_some_iff.mp H
            obtain ⟨⟨t200, t201⟩, A390, H⟩ := H
            replace H : (if t201 = 0 then (if x4_2.length + t200.length < 140737488355328 then (method_Bytes.l0 k2 (x4_2 ++ t200) (wrap64 (x52_2 + 1)) 3 a0_4 2 a0_5 2 a0_6) else (none)) else (some (([] : List Int), 70))) = some (r1, r2) := H
            have A39 := Aside0.mk A390
            clear A390
            by_cases c40 : t201 = 0
            ·
             rw [if_pos c40] at H
             have c40b0 : (t201 == 0) = true := beq_iff_eq.mpr c40
             have c40b1 : (t201 != 0) = false := bne_eq_false_iff_eq.mpr c40
             clear c40
             by_cases c41 : x4_2.length + t200.length < 140737488355328
             ·
              rw [if_pos c41] at H
              have LMc41 := Aside0.mk c41
              clear c41
              obtain ⟨y204, hy204⟩ : ∃ y_ : List Int, y_ = (x4_2 ++ t200) := ⟨_, rfl⟩
              replace H : (method_Bytes.l0 k2 y204 (wrap64 (x52_2 + 1)) 3 a0_4 2 a0_5 2 a0_6) = some (r1, r2) := by first | (rw [hy204]; with_reducible exact H) | (have H2_ := (Option.bind_some _ _).symm.trans H; rw [hy204]; with_reducible exact H2_) | (have H2_ := (Option.bind_some _ _).symm.trans H; with_reducible exact H2_) | with_reducible exact H | (rw [hy204]; exact H) | exact H
              have Ny204 := Aside0.mk hy204
              clear hy204
              have H' := Aside0.mk H
              clear H
              have hix38 := idx77 3 a0_4 2 a0_5 2 a0_6 x52_2 (by first | omega | exact of_decide_eq_true (au15) | exact of_eq_true (au15)) (by first | omega | exact of_decide_eq_true (au15) | exact of_eq_true (au15))
              go_wp2_with (first | ((with_reducible refine gate_dst (N := 6) rfl ?_); refine box_event ?hg (N := 6) ?hd (cs := #[.int .i64 0, .int .i64 0]) (t := 76) ?hr ?_; (case hd => rfl); (case hg => rfl); (case hr => first | (go_simp; done) | (go_simp; rfl)); intro gb199 hg w42 hbox hb; have n0_ := Aside0.mk (Kd.R_below (au48) hb); have n1_ := Aside0.mk (blk_below (g := gb178) (o := .cells #[.slice A0_0 l0_0.length c0_0, .slice A0_1 l0_1.length c0_1, .int .u8 a0_2, .bool a0_3, .int .i64 a0_4, .int .i64 a0_5, .int .i64 a0_6, .slice A0_7 l0_7.length c0_7] 25 (0, 0)) (au23) hb); have n2_ := Aside0.mk (below_step (au7) hb); have n3_ := Aside0.mk (hbox); have n4_ := Aside0.mk ((by rw [hg]; exact (below_size (au7)) : w.heap.size ≤ gb199)); have n5_ := Aside0.mk ((by rw [hg]; exact (below_size (au7)) : w.heap.size ≤ gb199)); have n6_ := Aside0.mk ((by rw [hg]; exact Nat.ne_of_lt (blk_lt (g := gb178) (o := .cells #[.slice A0_0 l0_0.length c0_0, .slice A0_1 l0_1.length c0_1, .int .u8 a0_2, .bool a0_3, .int .i64 a0_4, .int .i64 a0_5, .int .i64 a0_6, .slice A0_7 l0_7.length c0_7] 25 (0, 0)) (au23)) : gb178 ≠ gb199)); have n7_ := Aside0.mk ((by rw [hg]; exact Nat.ne_of_gt (blk_lt (g := gb178) (o := .cells #[.slice A0_0 l0_0.length c0_0, .slice A0_1 l0_1.length c0_1, .int .u8 a0_2, .bool a0_3, .int .i64 a0_4, .int .i64 a0_5, .int .i64 a0_6, .slice A0_7 l0_7.length c0_7] 25 (0, 0)) (au23)) : gb199 ≠ gb178)); clear HO_4; clear BK178; clear HB; have HO_4 := n0_; have BK178 := n1_; have HB := n2_; have BK199 := n3_; have GW199 := n4_; have GE199 := n5_; have NB178_199 := n6_; have NB199_178 := n7_; clear n0_ n1_ n2_ n3_ n4_ n5_ n6_ n7_; clear hb hbox hg; have hnb43 := NB199_178.out; have hnc43 := NB178_199.out; obtain ⟨hcz44_0, hcz44_1, hfz44_0, hfz44_1⟩ := blk_all2 BK199.out) | ((with_reducible refine gate_callee (f := 44) rfl ?_); refine goesL_ (some 60) rfl rfl Try.func44 (by kernel_rfl) rfl #[.int .i64 (pick3 x52_2 3 2 2), .int .i64 (pick3 x52_2 a0_4 a0_5 a0_6)] rfl (au3) ?_; (with_reducible refine (octet_Put.calls k2 (pick3 x52_2 3 2 2) (pick3 x52_2 a0_4 a0_5 a0_6) t200 t201 _ A39.out).mono ?_); rintro e w45 ⟨v202, rfl, ho0, hb⟩; refine ⟨_, rfl, ?_⟩; have n0_ := Aside0.mk (Kd.R_elder' (au27) (Kd.R_base ho0) hb); have n1_ := Aside0.mk (Kd.R_lower (Kd.R_new' ho0 (Kd.R_lt (au27))) (below_size (au30))); have n2_ := Aside0.mk (blk_below (g := gb178) (o := .cells #[.slice A0_0 l0_0.length c0_0, .slice A0_1 l0_1.length c0_1, .int .u8 a0_2, .bool a0_3, .int .i64 a0_4, .int .i64 a0_5, .int .i64 a0_6, .slice A0_7 l0_7.length c0_7] 25 (0, 0)) (au75) hb); have n3_ := Aside0.mk (blk_below (g := gb199) (o := .cells #[.int .i64 (pick3 x52_2 3 2 2), .int .i64 (pick3 x52_2 a0_4 a0_5 a0_6)] 76 (0, 0)) (au72) hb); have n4_ := Aside0.mk (below_step (au30) hb); clear HO_4; clear BK178; clear BK199; clear HB; have HO_4 := n0_; have HO203 := n1_; have BK178 := n2_; have BK199 := n3_; have HB := n4_; clear n0_ n1_ n2_ n3_ n4_; (try clear hb); (try clear hb2); (try clear hk); (try clear hi); (try clear ho0); obtain ⟨Ao47, co47, eo47⟩ := Kd.R_slice HO203.out; subst eo47) | ((with_reducible refine gate_builtin (b := .append) (xs := #[.tmp 65, .tmp 66]) rfl ?_); at_builtin; refine Kd.R_append_rows (Kd.int .u8) (w0 := w) w.heap.size rfl (.tmp 65) (.tmp 66) 22 5 (.int .u8 0) 1 rfl Try.underlying22 info5 rfl (by decide) (by omega) u4 x4_2 t200 _ _ _ (fun k_ => some k_ ≠ (.slice Ao47 t200.length co47 : Value).ownBlock) (fun _ => False) rfl rfl ?aO ?aR (fun _ _ h => h) (fun _ h => h.elim) ?aF ?aB ?aS ?aL ?_; (case aR => repeat (first | exact (Kd.R_reads' HO203.out).2.2 | (with_reducible refine Kd.C_alloc ?_ _) | (with_reducible refine Kd.C_drewN ?_ _) | (with_reducible refine Kd.C_drew ?_))); (case aB => exact (au30)); (case aF => exact (fun k_ hk => Kd.fresh' (Kd.R_lt (by (with_reducible repeat (first | apply Kd.R_alloc | apply Kd.R_drewN | apply Kd.R_drew)); first | exact HO203.out | exact Kd.R_mono (HO203.out) (fun _ h_ => h_.2))) k_ hk)); (case aO => exact (by (with_reducible repeat (first | apply Kd.R_alloc | apply Kd.R_drewN | apply Kd.R_drew)); first | exact Kd.R_mono HO_4.out (fun _ hk => hk.2) | exact Kd.R_mono (Kd.R_mono HO_4.out (fun _ hk => hk.2)) (fun _ h_ => h_.2))); (case aS => exact (below_size (au30))); (case aL => have := LMc41.out; omega); intro v205 w46 ho hb hg hat; rw [← Ny204.out] at ho; have n0_ := Aside0.mk (blk_grown (g := gb178) (o := .cells #[.slice A0_0 l0_0.length c0_0, .slice A0_1 l0_1.length c0_1, .int .u8 a0_2, .bool a0_3, .int .i64 a0_4, .int .i64 a0_5, .int .i64 a0_6, .slice A0_7 l0_7.length c0_7] 25 (0, 0)) (au23) hg (Kd.R_ne HO_4.out BK178.out (by decide))); have n1_ := Aside0.mk (blk_grown (g := gb199) (o := .cells #[.int .i64 (pick3 x52_2 3 2 2), .int .i64 (pick3 x52_2 a0_4 a0_5 a0_6)] 76 (0, 0)) (by (with_reducible repeat (first | refine blk_drewN ?_ _ | refine blk_drew ?_ | refine blk_alloc ?_ _)); exact BK199.out) hg (Kd.R_ne HO_4.out BK199.out (by decide))); have n2_ := Aside0.mk (Kd.R_after (ok := (fun _ => True)) (by (with_reducible repeat (first | apply Kd.R_alloc | apply Kd.R_drewN | apply Kd.R_drew)); first | exact HO203.out | exact Kd.R_mono (HO203.out) (fun _ h_ => h_.2)) hg hat); have n3_ := Aside0.mk (hb); have n4_ := Aside0.mk (ho); clear BK178; clear BK199; clear HO203; clear HB; clear HO_4; have BK178 := n0_; have BK199 := n1_; have HO203 := n2_; have HB := n3_; have HO206 := n4_; clear n0_ n1_ n2_ n3_ n4_; clear ho hb hg hat))
              go_roundg k2
              case measure => have := HJ7.out; have := HK2.out; omega
              case rel => exact ⟨(y204), (wrap64 (x52_2 + 1)), (au21), H', ⟨by have := HJ7.out; have := HK2.out; omega⟩, ⟨by (with_reducible repeat (first | apply Kd.R_alloc | apply Kd.R_drewN | apply Kd.R_drew)); first | exact Kd.R_mono HO206.out (fun _ hk => trivial) | exact Kd.R_mono (Kd.R_mono HO206.out (fun _ hk => trivial)) (fun _ h_ => h_.2)⟩, ⟨au23⟩, ⟨au30⟩⟩
             ·
              rw [if_neg c41] at H
              exact absurd H (by simp)
            ·
             rw [if_neg c40] at H
             have c40b0 : (t201 == 0) = false := beq_eq_false_iff_ne.mpr c40
             have c40b1 : (t201 != 0) = true := bne_iff_ne.mpr c40
             simp only [Option.some.injEq, Prod.mk.injEq] at H
             obtain ⟨rfl, rfl⟩ := H
             have hix38 := idx77 3 a0_4 2 a0_5 2 a0_6 x52_2 (by first | omega | exact of_decide_eq_true (au15) | exact of_eq_true (au15)) (by first | omega | exact of_decide_eq_true (au15) | exact of_eq_true (au15))
             go_wp2_with (first | ((with_reducible refine gate_dst (N := 6) rfl ?_); refine box_event ?hg (N := 6) ?hd (cs := #[.int .i64 0, .int .i64 0]) (t := 76) ?hr ?_; (case hd => rfl); (case hg => rfl); (case hr => first | (go_simp; done) | (go_simp; rfl)); intro gb199 hg w48 hbox hb; have n0_ := Aside0.mk (Kd.R_below (au48) hb); have n1_ := Aside0.mk (blk_below (g := gb178) (o := .cells #[.slice A0_0 l0_0.length c0_0, .slice A0_1 l0_1.length c0_1, .int .u8 a0_2, .bool a0_3, .int .i64 a0_4, .int .i64 a0_5, .int .i64 a0_6, .slice A0_7 l0_7.length c0_7] 25 (0, 0)) (au23) hb); have n2_ := Aside0.mk (below_step (au7) hb); have n3_ := Aside0.mk (hbox); have n4_ := Aside0.mk ((by rw [hg]; exact (below_size (au7)) : w.heap.size ≤ gb199)); have n5_ := Aside0.mk ((by rw [hg]; exact (below_size (au7)) : w.heap.size ≤ gb199)); have n6_ := Aside0.mk ((by rw [hg]; exact Nat.ne_of_lt (blk_lt (g := gb178) (o := .cells #[.slice A0_0 l0_0.length c0_0, .slice A0_1 l0_1.length c0_1, .int .u8 a0_2, .bool a0_3, .int .i64 a0_4, .int .i64 a0_5, .int .i64 a0_6, .slice A0_7 l0_7.length c0_7] 25 (0, 0)) (au23)) : gb178 ≠ gb199)); have n7_ := Aside0.mk ((by rw [hg]; exact Nat.ne_of_gt (blk_lt (g := gb178) (o := .cells #[.slice A0_0 l0_0.length c0_0, .slice A0_1 l0_1.length c0_1, .int .u8 a0_2, .bool a0_3, .int .i64 a0_4, .int .i64 a0_5, .int .i64 a0_6, .slice A0_7 l0_7.length c0_7] 25 (0, 0)) (au23)) : gb199 ≠ gb178)); clear HO_4; clear BK178; clear HB; have HO_4 := n0_; have BK178 := n1_; have HB := n2_; have BK199 := n3_; have GW199 := n4_; have GE199 := n5_; have NB178_199 := n6_; have NB199_178 := n7_; clear n0_ n1_ n2_ n3_ n4_ n5_ n6_ n7_; clear hb hbox hg; have hnb49 := NB199_178.out; have hnc49 := NB178_199.out; obtain ⟨hcz50_0, hcz50_1, hfz50_0, hfz50_1⟩ := blk_all2 BK199.out) | ((with_reducible refine gate_callee (f := 44) rfl ?_); refine goesL_ (some 60) rfl rfl Try.func44 (by kernel_rfl) rfl #[.int .i64 (pick3 x52_2 3 2 2), .int .i64 (pick3 x52_2 a0_4 a0_5 a0_6)] rfl (au3) ?_; (with_reducible refine (octet_Put.calls k2 (pick3 x52_2 3 2 2) (pick3 x52_2 a0_4 a0_5 a0_6) t200 t201 _ A39.out).mono ?_); rintro e w51 ⟨v202, rfl, ho0, hb⟩; refine ⟨_, rfl, ?_⟩; have n0_ := Aside0.mk (Kd.R_elder' (au27) (Kd.R_base ho0) hb); have n1_ := Aside0.mk (Kd.R_lower (Kd.R_new' ho0 (Kd.R_lt (au27))) (below_size (au30))); have n2_ := Aside0.mk (blk_below (g := gb178) (o := .cells #[.slice A0_0 l0_0.length c0_0, .slice A0_1 l0_1.length c0_1, .int .u8 a0_2, .bool a0_3, .int .i64 a0_4, .int .i64 a0_5, .int .i64 a0_6, .slice A0_7 l0_7.length c0_7] 25 (0, 0)) (au75) hb); have n3_ := Aside0.mk (blk_below (g := gb199) (o := .cells #[.int .i64 (pick3 x52_2 3 2 2), .int .i64 (pick3 x52_2 a0_4 a0_5 a0_6)] 76 (0, 0)) (au72) hb); have n4_ := Aside0.mk (below_step (au30) hb); clear HO_4; clear BK178; clear BK199; clear HB; have HO_4 := n0_; have HO203 := n1_; have BK178 := n2_; have BK199 := n3_; have HB := n4_; clear n0_ n1_ n2_ n3_ n4_; (try clear hb); (try clear hb2); (try clear hk); (try clear hi); (try clear ho0)))
             go_ret2
             exact ⟨_, au13, au41, au30⟩
           ·
            rw [if_neg c37] at H
            exact absurd H (by simp)
          ·
           rw [if_neg c36] at H
           have c36b0 : decide (x52_2 < 3) = false := decide_eq_false c36
           clear c36
           simp only [Option.some.injEq, Prod.mk.injEq] at H
           obtain ⟨rfl, rfl⟩ := H
           go_wp2
           go_ret2
           exact ⟨_, au13, au48, au7⟩
     ·
      rw [if_neg c7] at H
      exact absurd H (by simp)
    ·
     rw [if_neg c6] at H
     exact absurd H (by simp)
   ·
    rw [if_neg c5] at H
    exact absurd H (by simp)
  ·
   rw [if_neg c4] at H
   exact absurd H (by simp)
 ·
  replace c3 := Bool.eq_false_iff.mpr c3
  subst c3
  have H1 : (some (([] : List Int), 70)) = some (r1, r2) := by rw [if_neg (show ¬ (false = true) by decide)] at H; exact H
  clear H
  have H := H1
  clear H1
  simp only [Option.some.injEq, Prod.mk.injEq] at H
  obtain ⟨rfl, rfl⟩ := H
  go_enter Try.func21, Try.ntmps21
  go_wp2_with (first | ((with_reducible refine gate_dst (N := 1) rfl ?_); refine box_event ?hg (N := 1) ?hd (cs := #[.slice A0_0 l0_0.length c0_0, .slice A0_1 l0_1.length c0_1, .int .u8 a0_2, .bool a0_3, .int .i64 a0_4, .int .i64 a0_5, .int .i64 a0_6, .slice A0_7 l0_7.length c0_7]) (t := 25) ?hr ?_; (case hd => rfl); (case hg => rfl); (case hr => first | (go_simp; done) | (go_simp; rfl)); intro gb178 hg w52 hbox hb; have n0_ := Aside0.mk (below_step (au1) hb); have n1_ := Aside0.mk (hbox); have n2_ := Aside0.mk ((au31 : w.heap.size ≤ gb178)); have n3_ := Aside0.mk ((au31 : w.heap.size ≤ gb178)); clear HB; have HB := n0_; have BK178 := n1_; have GW178 := n2_; have GE178 := n3_; clear n0_ n1_ n2_ n3_; clear hb hbox hg; obtain ⟨hcz53_0, hcz53_1, hcz53_2, hcz53_3, hcz53_4, hcz53_5, hcz53_6, hcz53_7, hfz53_0, hfz53_1, hfz53_2, hfz53_3, hfz53_4, hfz53_5, hfz53_6, hfz53_7⟩ := blk_all8 BK178.out) | ((with_reducible refine gate_callee (f := 14) rfl ?_); refine goesL_ (some 10) rfl rfl Try.func14 (by kernel_rfl) rfl #[.agg #[.slice A0_0 l0_0.length c0_0, .slice A0_1 l0_1.length c0_1, .int .u8 a0_2, .bool a0_3, .int .i64 a0_4, .int .i64 a0_5, .int .i64 a0_6, .slice A0_7 l0_7.length c0_7]] rfl (au3) ?_; (with_reducible refine (method_May.calls k _ _ l0_0 _ _ l0_1 a0_2 a0_3 a0_4 a0_5 a0_6 _ _ l0_7 false _ ?side1 ?side2 ?side3 ?side4 ?side5 ?side6 A2.out).mono ?_); (case side1 => exact au6); (case side2 => exact HC0_0.out); (case side3 => exact au11); (case side4 => exact HC0_1.out); (case side5 => exact au8); (case side6 => exact HC0_7.out); rintro e w54 ⟨rfl, hb⟩; refine ⟨_, rfl, ?_⟩; have n0_ := Aside0.mk (blk_below (g := gb178) (o := .cells #[.slice A0_0 l0_0.length c0_0, .slice A0_1 l0_1.length c0_1, .int .u8 a0_2, .bool a0_3, .int .i64 a0_4, .int .i64 a0_5, .int .i64 a0_6, .slice A0_7 l0_7.length c0_7] 25 (0, 0)) (au23) hb); have n1_ := Aside0.mk (below_step (au7) hb); clear BK178; clear HB; have BK178 := n0_; have HB := n1_; clear n0_ n1_; (try clear hb); (try clear hb2); (try clear hk); (try clear hi)))
  go_ret2
  exact ⟨_, au13, au41, au7⟩

/-! ### octet_cut: function 55 -/
def octet_cut.f (l0 : List Int) (a1 : Int) (a2 : Int) : Option (List Int × Int) :=
  if 0 ≤ a2 then if a2 ≤ 9223372036854775807 then if a1 < 0 then some ([], 2) else if a1 > (l0.length : Int) then some ([], 2) else if (l0.length : Int) - a1 < a2 then some ([], 10) else some ((l0.take (a1 + a2).toNat).drop a1.toNat, 0) else none else none
def octet_cut.Post (A0 : Option Addr) (n0 : Nat) (l0 : List Int) (w : World) (r1 : List Int) (r2 : Int) (e : Ending) (w' : World) : Prop :=
  ∃ A c, e = .returned (.tuple #[.slice A r1.length c, .int .i64 r2]) ∧ (∀ W, Kd.C (Kd.int .u8) W A0 n0 l0 → Kd.C (Kd.int .u8) W A r1.length r1) ∧ r1.length ≤ c ∧ w = w'
set_option maxHeartbeats 1000000 in
/-- A piece of what came in, by its own address: the world stays. -/
theorem octet_cut.calls (A0 : Option Addr) (c0 : Nat) (l0 : List Int) (a1 : Int) (a2 : Int) (r1 : List Int) (r2 : Int) (w : World) (hr0 : Kd.C (Kd.int .u8) w A0 l0.length l0) (hc0 : l0.length ≤ c0)
    (h : octet_cut.f l0 a1 a2 = some (r1, r2)) :
    Calls Try.prog 55 #[.slice A0 l0.length c0, .int .i64 a1, .int .i64 a2] w (octet_cut.Post A0 l0.length l0 w r1 r2) := by
  have hm : (l0.length : Int) ≤ 9223372036854775807 := by have := hr0.2.1; omega
  have HR := Aside0.mk hr0
  have HC := Aside0.mk hc0
  clear hr0 hc0
  by_cases h2 : 0 ≤ a2
  case neg => simp [octet_cut.f, h2] at h
  by_cases h3 : a2 ≤ 9223372036854775807
  case neg => simp [octet_cut.f, h2, h3] at h
  by_cases c1 : a1 < 0
  · simp only [octet_cut.f, if_pos h2, if_pos h3, if_pos c1, Option.some.injEq, Prod.mk.injEq] at h
    obtain ⟨rfl, rfl⟩ := h
    go_enter Try.func55, Try.ntmps55
    go_wp2
    go_ret2
    exact ⟨none, 0, rfl, fun _ _ => Kd.C_nil _ _, Nat.le_refl _, rfl⟩
  by_cases c2 : a1 > (l0.length : Int)
  · simp only [octet_cut.f, if_pos h2, if_pos h3, if_neg c1, if_pos c2, Option.some.injEq, Prod.mk.injEq] at h
    obtain ⟨rfl, rfl⟩ := h
    go_enter Try.func55, Try.ntmps55
    go_wp2
    go_ret2
    exact ⟨none, 0, rfl, fun _ _ => Kd.C_nil _ _, Nat.le_refl _, rfl⟩
  by_cases c3 : (l0.length : Int) - a1 < a2
  · simp only [octet_cut.f, if_pos h2, if_pos h3, if_neg c1, if_neg c2, if_pos c3, Option.some.injEq, Prod.mk.injEq] at h
    obtain ⟨rfl, rfl⟩ := h
    go_enter Try.func55, Try.ntmps55
    go_wp2
    go_ret2
    exact ⟨none, 0, rfl, fun _ _ => Kd.C_nil _ _, Nat.le_refl _, rfl⟩
  · simp only [octet_cut.f, if_pos h2, if_pos h3, if_neg c1, if_neg c2, if_neg c3, Option.some.injEq, Prod.mk.injEq] at h
    obtain ⟨rfl, rfl⟩ := h
    have hC := fun W (h_ : Kd.C (Kd.int .u8) W A0 l0.length l0) => Kd.C_mid (lo := a1.toNat) (hi := (a1 + a2).toNat) (c := c0) h_ (by omega) (by omega) HC.out
    have hl : ((l0.take (a1 + a2).toNat).drop a1.toNat).length = (a1 + a2).toNat - a1.toNat := by rw [List.length_drop, List.length_take, Nat.min_eq_left (by omega)]
    have hk : ((l0.take (a1 + a2).toNat).drop a1.toNat).length ≤ c0 - a1.toNat := by have := HC.out; rw [hl]; omega
    have h5 : 0 ≤ a1 + a2 := by omega
    have h6 : a1 + a2 ≤ 9223372036854775807 := by omega
    have h7 : a1 ≤ a1 + a2 := by omega
    have h8 : a1 + a2 ≤ (c0 : Int) := by have := HC.out; omega
    have hcc := HC.out
    have HL := Aside0.mk hl
    have HCx := Aside0.mk hC
    have HK := Aside0.mk hk
    clear hC hk hl
    go_enter Try.func55, Try.ntmps55
    by_cases hq : c0 = a1.toNat
    · have hA := HCx.out
      simp only [if_pos hq] at hA
      have HA := Aside0.mk hA
      clear hA
      go_wp2
      go_ret2
      exact ⟨A0, 0, by rw [HL.out]; rfl, HA.out, by have := HK.out; omega, rfl⟩
    · have hA := HCx.out
      simp only [if_neg hq] at hA
      have HA := Aside0.mk hA
      clear hA
      go_wp2
      go_ret2
      exact ⟨Option.map (fun x => x.add a1.toNat) A0, c0 - a1.toNat, by rw [HL.out]; rfl, by simpa [Kd.int, Kd.scalar] using HA.out, HK.out, rfl⟩

end Go.Proofs.Ytdbdajifalioiaa.R
