/- Contracts of the functions of this seat (each: the call of the function does what the plain Lean function of the same name tells; the conditions stand in each statement). Written by a program of this session and by hand; checked by Lean. -/
import Derived.Test.YtjnmomhkiknhdaaT0
import Derived.Test.YtjnmomhkiknhdaaT4
namespace Go.Proofs.Ytjnmomhkiknhdaa.T
open Go.RowKit Go.Proofs.YtjnmomhkiknhdaaW.PrintWords Go.Proofs.YtjnmomhkiknhdaaW.PrintLast Go.Proofs.YtjnmomhkiknhdaaW.PrintMore
attribute [local go_sem] max2_int min2_int max_two min_two max_three min_three max_four min_four   -- for this text's walks alone
set_option linter.unusedVariables false
set_option linter.unusedSimpArgs false

/-! ### capstanref07_Bytes: function 24 -/
def capstanref07_Bytes.f (k : Nat) (l0_0 : List Int) (l0_1 : List Int) (a0_2 : Int) (a0_3 : Bool) (a0_4 : Int) (a0_5 : Int) (a0_6 : Int) (l0_7 : List (S130)) : Option (List Int × Int) := (capstanref07_May.f k l0_0 l0_1 a0_2 a0_3 a0_4 a0_5 a0_6 l0_7).bind fun t134 => (if t134 = true then ((some (([((l0_0.length : Int)) % 256] : List Int) : List Int)).bind fun y135 => (if y135.length + l0_0.length < 140737488355328 then ((some (y135 ++ l0_0 : List Int)).bind fun y138 => (if y138.length < 140737488355328 then ((some (y138 ++ [((l0_1.length : Int)) % 256] : List Int)).bind fun y141 => (if y141.length + l0_1.length < 140737488355328 then ((some (y141 ++ l0_1 : List Int)).bind fun y144 => (if y144.length < 140737488355328 then ((some (y144 ++ [a0_2] : List Int)).bind fun y147 => (if a0_3 = true then (if y147.length < 140737488355328 then ((some (y147 ++ [1] : List Int)).bind fun y150 => ((capstanref01_Put.f k 3 a0_4).bind fun bt153 => ((capstanref01_Put.f k 2 a0_5).bind fun bt157 => ((capstanref01_Put.f k 2 a0_6).bind fun bt161 => (if y150.length + bt153.1.length < 140737488355328 then ((some (y150 ++ bt153.1 : List Int)).bind fun y165 => (if y165.length + bt157.1.length < 140737488355328 then ((some (y165 ++ bt157.1 : List Int)).bind fun y168 => (if y168.length + bt161.1.length < 140737488355328 then (some ((y168 ++ bt161.1), 0)) else (none))) else (none))) else (none)))))) else (none)) else (if y147.length < 140737488355328 then ((some (y147 ++ [0] : List Int)).bind fun y174 => ((capstanref01_Put.f k 3 a0_4).bind fun bt177 => ((capstanref01_Put.f k 2 a0_5).bind fun bt181 => ((capstanref01_Put.f k 2 a0_6).bind fun bt185 => (if y174.length + bt177.1.length < 140737488355328 then ((some (y174 ++ bt177.1 : List Int)).bind fun y189 => (if y189.length + bt181.1.length < 140737488355328 then ((some (y189 ++ bt181.1 : List Int)).bind fun y192 => (if y192.length + bt185.1.length < 140737488355328 then (some ((y192 ++ bt185.1), 0)) else (none))) else (none))) else (none)))))) else (none)))) else (none))) else (none))) else (none))) else (none))) else (some (([] : List Int), 70)))
theorem capstanref07_Bytes.mono : ∀ a0 a1 a2 a3 a4 a5 a6 a7 k, LeO (capstanref07_Bytes.f k a0 a1 a2 a3 a4 a5 a6 a7) (capstanref07_Bytes.f (k + 1) a0 a1 a2 a3 a4 a5 a6 a7) := by
 intro a0 a1 a2 a3 a4 a5 a6 a7 k
 unfold capstanref07_Bytes.f
 repeat' first
   | (with_reducible exact capstanref01_Put.mono _ _ _)
   | (with_reducible exact capstanref07_May.mono _ _ _ _ _ _ _ _ _)
   | (with_reducible exact LeO.refl _)
   | (with_reducible exact LeO.none _)
   | (with_reducible refine LeO.ite ?_ ?_)
   | (with_reducible refine LeO.bind ?_ (fun _ => ?_))
   | exact capstanref01_Put.mono _ _ _
   | exact capstanref07_May.mono _ _ _ _ _ _ _ _ _
   | exact LeO.none _
   | refine LeO.ite ?_ ?_
   | refine LeO.bind ?_ (fun _ => ?_)
set_option maxHeartbeats 8000000 in
set_option maxRecDepth 100000 in
theorem capstanref07_Bytes.calls (k : Nat) (A0_0 : Option Addr) (c0_0 : Nat) (l0_0 : List Int) (A0_1 : Option Addr) (c0_1 : Nat) (l0_1 : List Int) (a0_2 : Int) (a0_3 : Bool) (a0_4 : Int) (a0_5 : Int) (a0_6 : Int) (A0_7 : Option Addr) (c0_7 : Nat) (l0_7 : List (S130)) (r1 : List Int) (r2 : Int) (w : World) (hr0_0 : Kd.C (Kd.int .u8) w A0_0 l0_0.length l0_0) (hc0_0 : l0_0.length ≤ c0_0) (hr0_1 : Kd.C (Kd.int .u8) w A0_1 l0_1.length l0_1) (hc0_1 : l0_1.length ≤ c0_1) (hr0_7 : Kd.C k130 w A0_7 l0_7.length l0_7) (hc0_7 : l0_7.length ≤ c0_7) (h : capstanref07_Bytes.f k l0_0 l0_1 a0_2 a0_3 a0_4 a0_5 a0_6 l0_7 = some (r1, r2)) :
  Calls Try.prog 24 #[.agg #[.slice A0_0 l0_0.length c0_0, .slice A0_1 l0_1.length c0_1, .int .u8 a0_2, .bool a0_3, .int .i64 a0_4, .int .i64 a0_5, .int .i64 a0_6, .slice A0_7 l0_7.length c0_7]] w fun e w' => ∃ v0_ : Value, e = .returned (.tuple #[v0_, .int .i64 r2]) ∧ Kd.R (Kd.int .u8) 5 w' w.heap.size (fun _ => True) v0_ r1 ∧ Below w.heap.size w w' := by
 have hu25 := Try.underlying25
 have HR0_0 := Aside0.mk hr0_0
 have HC0_0 := Aside0.mk hc0_0
 clear hr0_0 hc0_0
 have HR0_1 := Aside0.mk hr0_1
 have HC0_1 := Aside0.mk hc0_1
 clear hr0_1 hc0_1
 have HR0_7 := Aside0.mk hr0_7
 have HC0_7 := Aside0.mk hc0_7
 clear hr0_7 hc0_7
 have HB := Aside0.mk (Below.refl w.heap.size w)
 have H : ((capstanref07_May.f k l0_0 l0_1 a0_2 a0_3 a0_4 a0_5 a0_6 l0_7).bind fun t134 => (if t134 = true then ((some (([((l0_0.length : Int)) % 256] : List Int) : List Int)).bind fun y135 => (if y135.length + l0_0.length < 140737488355328 then ((some (y135 ++ l0_0 : List Int)).bind fun y138 => (if y138.length < 140737488355328 then ((some (y138 ++ [((l0_1.length : Int)) % 256] : List Int)).bind fun y141 => (if y141.length + l0_1.length < 140737488355328 then ((some (y141 ++ l0_1 : List Int)).bind fun y144 => (if y144.length < 140737488355328 then ((some (y144 ++ [a0_2] : List Int)).bind fun y147 => (if a0_3 = true then (if y147.length < 140737488355328 then ((some (y147 ++ [1] : List Int)).bind fun y150 => ((capstanref01_Put.f k 3 a0_4).bind fun bt153 => ((capstanref01_Put.f k 2 a0_5).bind fun bt157 => ((capstanref01_Put.f k 2 a0_6).bind fun bt161 => (if y150.length + bt153.1.length < 140737488355328 then ((some (y150 ++ bt153.1 : List Int)).bind fun y165 => (if y165.length + bt157.1.length < 140737488355328 then ((some (y165 ++ bt157.1 : List Int)).bind fun y168 => (if y168.length + bt161.1.length < 140737488355328 then (some ((y168 ++ bt161.1), 0)) else (none))) else (none))) else (none)))))) else (none)) else (if y147.length < 140737488355328 then ((some (y147 ++ [0] : List Int)).bind fun y174 => ((capstanref01_Put.f k 3 a0_4).bind fun bt177 => ((capstanref01_Put.f k 2 a0_5).bind fun bt181 => ((capstanref01_Put.f k 2 a0_6).bind fun bt185 => (if y174.length + bt177.1.length < 140737488355328 then ((some (y174 ++ bt177.1 : List Int)).bind fun y189 => (if y189.length + bt181.1.length < 140737488355328 then ((some (y189 ++ bt181.1 : List Int)).bind fun y192 => (if y192.length + bt185.1.length < 140737488355328 then (some ((y192 ++ bt185.1), 0)) else (none))) else (none))) else (none)))))) else (none)))) else (none))) else (none))) else (none))) else (none))) else (some (([] : List Int), 70)))) = some (r1, r2) := h
 clear h
 replace H := Option.bind_eq_some_iff.mp H
 obtain ⟨t134, A20, H⟩ := H
 replace H : (if t134 = true then ((some (([((l0_0.length : Int)) % 256] : List Int) : List Int)).bind fun y135 => (if y135.length + l0_0.length < 140737488355328 then ((some (y135 ++ l0_0 : List Int)).bind fun y138 => (if y138.length < 140737488355328 then ((some (y138 ++ [((l0_1.length : Int)) % 256] : List Int)).bind fun y141 => (if y141.length + l0_1.length < 140737488355328 then ((some (y141 ++ l0_1 : List Int)).bind fun y144 => (if y144.length < 140737488355328 then ((some (y144 ++ [a0_2] : List Int)).bind fun y147 => (if a0_3 = true then (if y147.length < 140737488355328 then ((some (y147 ++ [1] : List Int)).bind fun y150 => ((capstanref01_Put.f k 3 a0_4).bind fun bt153 => ((capstanref01_Put.f k 2 a0_5).bind fun bt157 => ((capstanref01_Put.f k 2 a0_6).bind fun bt161 => (if y150.length + bt153.1.length < 140737488355328 then ((some (y150 ++ bt153.1 : List Int)).bind fun y165 => (if y165.length + bt157.1.length < 140737488355328 then ((some (y165 ++ bt157.1 : List Int)).bind fun y168 => (if y168.length + bt161.1.length < 140737488355328 then (some ((y168 ++ bt161.1), 0)) else (none))) else (none))) else (none)))))) else (none)) else (if y147.length < 140737488355328 then ((some (y147 ++ [0] : List Int)).bind fun y174 => ((capstanref01_Put.f k 3 a0_4).bind fun bt177 => ((capstanref01_Put.f k 2 a0_5).bind fun bt181 => ((capstanref01_Put.f k 2 a0_6).bind fun bt185 => (if y174.length + bt177.1.length < 140737488355328 then ((some (y174 ++ bt177.1 : List Int)).bind fun y189 => (if y189.length + bt181.1.length < 140737488355328 then ((some (y189 ++ bt181.1 : List Int)).bind fun y192 => (if y192.length + bt185.1.length < 140737488355328 then (some ((y192 ++ bt185.1), 0)) else (none))) else (none))) else (none)))))) else (none)))) else (none))) else (none))) else (none))) else (none))) else (some (([] : List Int), 70))) = some (r1, r2) := H
 have A2 := Aside0.mk A20
 clear A20
 by_cases c3 : t134 = true
 ·
  subst c3
  have H1 : ((some (([((l0_0.length : Int)) % 256] : List Int) : List Int)).bind fun y135 => (if y135.length + l0_0.length < 140737488355328 then ((some (y135 ++ l0_0 : List Int)).bind fun y138 => (if y138.length < 140737488355328 then ((some (y138 ++ [((l0_1.length : Int)) % 256] : List Int)).bind fun y141 => (if y141.length + l0_1.length < 140737488355328 then ((some (y141 ++ l0_1 : List Int)).bind fun y144 => (if y144.length < 140737488355328 then ((some (y144 ++ [a0_2] : List Int)).bind fun y147 => (if a0_3 = true then (if y147.length < 140737488355328 then ((some (y147 ++ [1] : List Int)).bind fun y150 => ((capstanref01_Put.f k 3 a0_4).bind fun bt153 => ((capstanref01_Put.f k 2 a0_5).bind fun bt157 => ((capstanref01_Put.f k 2 a0_6).bind fun bt161 => (if y150.length + bt153.1.length < 140737488355328 then ((some (y150 ++ bt153.1 : List Int)).bind fun y165 => (if y165.length + bt157.1.length < 140737488355328 then ((some (y165 ++ bt157.1 : List Int)).bind fun y168 => (if y168.length + bt161.1.length < 140737488355328 then (some ((y168 ++ bt161.1), 0)) else (none))) else (none))) else (none)))))) else (none)) else (if y147.length < 140737488355328 then ((some (y147 ++ [0] : List Int)).bind fun y174 => ((capstanref01_Put.f k 3 a0_4).bind fun bt177 => ((capstanref01_Put.f k 2 a0_5).bind fun bt181 => ((capstanref01_Put.f k 2 a0_6).bind fun bt185 => (if y174.length + bt177.1.length < 140737488355328 then ((some (y174 ++ bt177.1 : List Int)).bind fun y189 => (if y189.length + bt181.1.length < 140737488355328 then ((some (y189 ++ bt181.1 : List Int)).bind fun y192 => (if y192.length + bt185.1.length < 140737488355328 then (some ((y192 ++ bt185.1), 0)) else (none))) else (none))) else (none)))))) else (none)))) else (none))) else (none))) else (none))) else (none))) = some (r1, r2) := by rw [if_pos rfl] at H; exact H
  clear H
  have H := H1
  clear H1
  obtain ⟨y135, hy135⟩ : ∃ y_ : List Int, y_ = (([((l0_0.length : Int)) % 256] : List Int)) := ⟨_, rfl⟩
  replace H : (if y135.length + l0_0.length < 140737488355328 then ((some (y135 ++ l0_0 : List Int)).bind fun y138 => (if y138.length < 140737488355328 then ((some (y138 ++ [((l0_1.length : Int)) % 256] : List Int)).bind fun y141 => (if y141.length + l0_1.length < 140737488355328 then ((some (y141 ++ l0_1 : List Int)).bind fun y144 => (if y144.length < 140737488355328 then ((some (y144 ++ [a0_2] : List Int)).bind fun y147 => (if a0_3 = true then (if y147.length < 140737488355328 then ((some (y147 ++ [1] : List Int)).bind fun y150 => ((capstanref01_Put.f k 3 a0_4).bind fun bt153 => ((capstanref01_Put.f k 2 a0_5).bind fun bt157 => ((capstanref01_Put.f k 2 a0_6).bind fun bt161 => (if y150.length + bt153.1.length < 140737488355328 then ((some (y150 ++ bt153.1 : List Int)).bind fun y165 => (if y165.length + bt157.1.length < 140737488355328 then ((some (y165 ++ bt157.1 : List Int)).bind fun y168 => (if y168.length + bt161.1.length < 140737488355328 then (some ((y168 ++ bt161.1), 0)) else (none))) else (none))) else (none)))))) else (none)) else (if y147.length < 140737488355328 then ((some (y147 ++ [0] : List Int)).bind fun y174 => ((capstanref01_Put.f k 3 a0_4).bind fun bt177 => ((capstanref01_Put.f k 2 a0_5).bind fun bt181 => ((capstanref01_Put.f k 2 a0_6).bind fun bt185 => (if y174.length + bt177.1.length < 140737488355328 then ((some (y174 ++ bt177.1 : List Int)).bind fun y189 => (if y189.length + bt181.1.length < 140737488355328 then ((some (y189 ++ bt181.1 : List Int)).bind fun y192 => (if y192.length + bt185.1.length < 140737488355328 then (some ((y192 ++ bt185.1), 0)) else (none))) else (none))) else (none)))))) else (none)))) else (none))) else (none))) else (none))) else (none)) = some (r1, r2) := by first | (rw [hy135]; with_reducible exact H) | (have H2_ := (Option.bind_some _ _).symm.trans H; rw [hy135]; with_reducible exact H2_) | (have H2_ := (Option.bind_some _ _).symm.trans H; with_reducible exact H2_) | with_reducible exact H | (rw [hy135]; exact H) | exact H
  have Ny135 := Aside0.mk hy135
  clear hy135
  by_cases c4 : y135.length + l0_0.length < 140737488355328
  ·
   rw [if_pos c4] at H
   have LMc4 := Aside0.mk c4
   clear c4
   obtain ⟨y138, hy138⟩ : ∃ y_ : List Int, y_ = (y135 ++ l0_0) := ⟨_, rfl⟩
   replace H : (if y138.length < 140737488355328 then ((some (y138 ++ [((l0_1.length : Int)) % 256] : List Int)).bind fun y141 => (if y141.length + l0_1.length < 140737488355328 then ((some (y141 ++ l0_1 : List Int)).bind fun y144 => (if y144.length < 140737488355328 then ((some (y144 ++ [a0_2] : List Int)).bind fun y147 => (if a0_3 = true then (if y147.length < 140737488355328 then ((some (y147 ++ [1] : List Int)).bind fun y150 => ((capstanref01_Put.f k 3 a0_4).bind fun bt153 => ((capstanref01_Put.f k 2 a0_5).bind fun bt157 => ((capstanref01_Put.f k 2 a0_6).bind fun bt161 => (if y150.length + bt153.1.length < 140737488355328 then ((some (y150 ++ bt153.1 : List Int)).bind fun y165 => (if y165.length + bt157.1.length < 140737488355328 then ((some (y165 ++ bt157.1 : List Int)).bind fun y168 => (if y168.length + bt161.1.length < 140737488355328 then (some ((y168 ++ bt161.1), 0)) else (none))) else (none))) else (none)))))) else (none)) else (if y147.length < 140737488355328 then ((some (y147 ++ [0] : List Int)).bind fun y174 => ((capstanref01_Put.f k 3 a0_4).bind fun bt177 => ((capstanref01_Put.f k 2 a0_5).bind fun bt181 => ((capstanref01_Put.f k 2 a0_6).bind fun bt185 => (if y174.length + bt177.1.length < 140737488355328 then ((some (y174 ++ bt177.1 : List Int)).bind fun y189 => (if y189.length + bt181.1.length < 140737488355328 then ((some (y189 ++ bt181.1 : List Int)).bind fun y192 => (if y192.length + bt185.1.length < 140737488355328 then (some ((y192 ++ bt185.1), 0)) else (none))) else (none))) else (none)))))) else (none)))) else (none))) else (none))) else (none)) = some (r1, r2) := by first | (rw [hy138]; with_reducible exact H) | (have H2_ := (Option.bind_some _ _).symm.trans H; rw [hy138]; with_reducible exact H2_) | (have H2_ := (Option.bind_some _ _).symm.trans H; with_reducible exact H2_) | with_reducible exact H | (rw [hy138]; exact H) | exact H
   have Ny138 := Aside0.mk hy138
   clear hy138
   by_cases c5 : y138.length < 140737488355328
   ·
    rw [if_pos c5] at H
    have LMc5 := Aside0.mk c5
    clear c5
    obtain ⟨y141, hy141⟩ : ∃ y_ : List Int, y_ = (y138 ++ [((l0_1.length : Int)) % 256]) := ⟨_, rfl⟩
    replace H : (if y141.length + l0_1.length < 140737488355328 then ((some (y141 ++ l0_1 : List Int)).bind fun y144 => (if y144.length < 140737488355328 then ((some (y144 ++ [a0_2] : List Int)).bind fun y147 => (if a0_3 = true then (if y147.length < 140737488355328 then ((some (y147 ++ [1] : List Int)).bind fun y150 => ((capstanref01_Put.f k 3 a0_4).bind fun bt153 => ((capstanref01_Put.f k 2 a0_5).bind fun bt157 => ((capstanref01_Put.f k 2 a0_6).bind fun bt161 => (if y150.length + bt153.1.length < 140737488355328 then ((some (y150 ++ bt153.1 : List Int)).bind fun y165 => (if y165.length + bt157.1.length < 140737488355328 then ((some (y165 ++ bt157.1 : List Int)).bind fun y168 => (if y168.length + bt161.1.length < 140737488355328 then (some ((y168 ++ bt161.1), 0)) else (none))) else (none))) else (none)))))) else (none)) else (if y147.length < 140737488355328 then ((some (y147 ++ [0] : List Int)).bind fun y174 => ((capstanref01_Put.f k 3 a0_4).bind fun bt177 => ((capstanref01_Put.f k 2 a0_5).bind fun bt181 => ((capstanref01_Put.f k 2 a0_6).bind fun bt185 => (if y174.length + bt177.1.length < 140737488355328 then ((some (y174 ++ bt177.1 : List Int)).bind fun y189 => (if y189.length + bt181.1.length < 140737488355328 then ((some (y189 ++ bt181.1 : List Int)).bind fun y192 => (if y192.length + bt185.1.length < 140737488355328 then (some ((y192 ++ bt185.1), 0)) else (none))) else (none))) else (none)))))) else (none)))) else (none))) else (none)) = some (r1, r2) := by first | (rw [hy141]; with_reducible exact H) | (have H2_ := (Option.bind_some _ _).symm.trans H; rw [hy141]; with_reducible exact H2_) | (have H2_ := (Option.bind_some _ _).symm.trans H; with_reducible exact H2_) | with_reducible exact H | (rw [hy141]; exact H) | exact H
    have Ny141 := Aside0.mk hy141
    clear hy141
    by_cases c6 : y141.length + l0_1.length < 140737488355328
    ·
     rw [if_pos c6] at H
     have LMc6 := Aside0.mk c6
     clear c6
     obtain ⟨y144, hy144⟩ : ∃ y_ : List Int, y_ = (y141 ++ l0_1) := ⟨_, rfl⟩
     replace H : (if y144.length < 140737488355328 then ((some (y144 ++ [a0_2] : List Int)).bind fun y147 => (if a0_3 = true then (if y147.length < 140737488355328 then ((some (y147 ++ [1] : List Int)).bind fun y150 => ((capstanref01_Put.f k 3 a0_4).bind fun bt153 => ((capstanref01_Put.f k 2 a0_5).bind fun bt157 => ((capstanref01_Put.f k 2 a0_6).bind fun bt161 => (if y150.length + bt153.1.length < 140737488355328 then ((some (y150 ++ bt153.1 : List Int)).bind fun y165 => (if y165.length + bt157.1.length < 140737488355328 then ((some (y165 ++ bt157.1 : List Int)).bind fun y168 => (if y168.length + bt161.1.length < 140737488355328 then (some ((y168 ++ bt161.1), 0)) else (none))) else (none))) else (none)))))) else (none)) else (if y147.length < 140737488355328 then ((some (y147 ++ [0] : List Int)).bind fun y174 => ((capstanref01_Put.f k 3 a0_4).bind fun bt177 => ((capstanref01_Put.f k 2 a0_5).bind fun bt181 => ((capstanref01_Put.f k 2 a0_6).bind fun bt185 => (if y174.length + bt177.1.length < 140737488355328 then ((some (y174 ++ bt177.1 : List Int)).bind fun y189 => (if y189.length + bt181.1.length < 140737488355328 then ((some (y189 ++ bt181.1 : List Int)).bind fun y192 => (if y192.length + bt185.1.length < 140737488355328 then (some ((y192 ++ bt185.1), 0)) else (none))) else (none))) else (none)))))) else (none)))) else (none)) = some (r1, r2) := by first | (rw [hy144]; with_reducible exact H) | (have H2_ := (Option.bind_some _ _).symm.trans H; rw [hy144]; with_reducible exact H2_) | (have H2_ := (Option.bind_some _ _).symm.trans H; with_reducible exact H2_) | with_reducible exact H | (rw [hy144]; exact H) | exact H
     have Ny144 := Aside0.mk hy144
     clear hy144
     by_cases c7 : y144.length < 140737488355328
     ·
      rw [if_pos c7] at H
      have LMc7 := Aside0.mk c7
      clear c7
      obtain ⟨y147, hy147⟩ : ∃ y_ : List Int, y_ = (y144 ++ [a0_2]) := ⟨_, rfl⟩
      replace H : (if a0_3 = true then (if y147.length < 140737488355328 then ((some (y147 ++ [1] : List Int)).bind fun y150 => ((capstanref01_Put.f k 3 a0_4).bind fun bt153 => ((capstanref01_Put.f k 2 a0_5).bind fun bt157 => ((capstanref01_Put.f k 2 a0_6).bind fun bt161 => (if y150.length + bt153.1.length < 140737488355328 then ((some (y150 ++ bt153.1 : List Int)).bind fun y165 => (if y165.length + bt157.1.length < 140737488355328 then ((some (y165 ++ bt157.1 : List Int)).bind fun y168 => (if y168.length + bt161.1.length < 140737488355328 then (some ((y168 ++ bt161.1), 0)) else (none))) else (none))) else (none)))))) else (none)) else (if y147.length < 140737488355328 then ((some (y147 ++ [0] : List Int)).bind fun y174 => ((capstanref01_Put.f k 3 a0_4).bind fun bt177 => ((capstanref01_Put.f k 2 a0_5).bind fun bt181 => ((capstanref01_Put.f k 2 a0_6).bind fun bt185 => (if y174.length + bt177.1.length < 140737488355328 then ((some (y174 ++ bt177.1 : List Int)).bind fun y189 => (if y189.length + bt181.1.length < 140737488355328 then ((some (y189 ++ bt181.1 : List Int)).bind fun y192 => (if y192.length + bt185.1.length < 140737488355328 then (some ((y192 ++ bt185.1), 0)) else (none))) else (none))) else (none)))))) else (none))) = some (r1, r2) := by first | (rw [hy147]; with_reducible exact H) | (have H2_ := (Option.bind_some _ _).symm.trans H; rw [hy147]; with_reducible exact H2_) | (have H2_ := (Option.bind_some _ _).symm.trans H; with_reducible exact H2_) | with_reducible exact H | (rw [hy147]; exact H) | exact H
      have Ny147 := Aside0.mk hy147
      clear hy147
      by_cases c8 : a0_3 = true
      ·
       subst c8
       have H1 : (if y147.length < 140737488355328 then ((some (y147 ++ [1] : List Int)).bind fun y150 => ((capstanref01_Put.f k 3 a0_4).bind fun bt153 => ((capstanref01_Put.f k 2 a0_5).bind fun bt157 => ((capstanref01_Put.f k 2 a0_6).bind fun bt161 => (if y150.length + bt153.1.length < 140737488355328 then ((some (y150 ++ bt153.1 : List Int)).bind fun y165 => (if y165.length + bt157.1.length < 140737488355328 then ((some (y165 ++ bt157.1 : List Int)).bind fun y168 => (if y168.length + bt161.1.length < 140737488355328 then (some ((y168 ++ bt161.1), 0)) else (none))) else (none))) else (none)))))) else (none)) = some (r1, r2) := by rw [if_pos rfl] at H; exact H
       clear H
       have H := H1
       clear H1
       by_cases c9 : y147.length < 140737488355328
       ·
        rw [if_pos c9] at H
        have LMc9 := Aside0.mk c9
        clear c9
        obtain ⟨y150, hy150⟩ : ∃ y_ : List Int, y_ = (y147 ++ [1]) := ⟨_, rfl⟩
        replace H : ((capstanref01_Put.f k 3 a0_4).bind fun bt153 => ((capstanref01_Put.f k 2 a0_5).bind fun bt157 => ((capstanref01_Put.f k 2 a0_6).bind fun bt161 => (if y150.length + bt153.1.length < 140737488355328 then ((some (y150 ++ bt153.1 : List Int)).bind fun y165 => (if y165.length + bt157.1.length < 140737488355328 then ((some (y165 ++ bt157.1 : List Int)).bind fun y168 => (if y168.length + bt161.1.length < 140737488355328 then (some ((y168 ++ bt161.1), 0)) else (none))) else (none))) else (none))))) = some (r1, r2) := by first | (rw [hy150]; with_reducible exact H) | (have H2_ := (Option.bind_some _ _).symm.trans H; rw [hy150]; with_reducible exact H2_) | (have H2_ := (Option.bind_some _ _).symm.trans H; with_reducible exact H2_) | with_reducible exact H | (rw [hy150]; exact H) | exact H
        have Ny150 := Aside0.mk hy150
        clear hy150
        replace H := Option.bind_eq_some_iff.mp H
        obtain ⟨⟨t153, t154⟩, A100, H⟩ := H
        replace H : ((capstanref01_Put.f k 2 a0_5).bind fun bt157 => ((capstanref01_Put.f k 2 a0_6).bind fun bt161 => (if y150.length + t153.length < 140737488355328 then ((some (y150 ++ t153 : List Int)).bind fun y165 => (if y165.length + bt157.1.length < 140737488355328 then ((some (y165 ++ bt157.1 : List Int)).bind fun y168 => (if y168.length + bt161.1.length < 140737488355328 then (some ((y168 ++ bt161.1), 0)) else (none))) else (none))) else (none)))) = some (r1, r2) := H
        have A10 := Aside0.mk A100
        clear A100
        replace H := Option.bind_eq_some_iff.mp H
        obtain ⟨⟨t157, t158⟩, A110, H⟩ := H
        replace H : ((capstanref01_Put.f k 2 a0_6).bind fun bt161 => (if y150.length + t153.length < 140737488355328 then ((some (y150 ++ t153 : List Int)).bind fun y165 => (if y165.length + t157.length < 140737488355328 then ((some (y165 ++ t157 : List Int)).bind fun y168 => (if y168.length + bt161.1.length < 140737488355328 then (some ((y168 ++ bt161.1), 0)) else (none))) else (none))) else (none))) = some (r1, r2) := H
        have A11 := Aside0.mk A110
        clear A110
        replace H := Option.bind_eq_some_iff.mp H
        obtain ⟨⟨t161, t162⟩, A120, H⟩ := H
        replace H : (if y150.length + t153.length < 140737488355328 then ((some (y150 ++ t153 : List Int)).bind fun y165 => (if y165.length + t157.length < 140737488355328 then ((some (y165 ++ t157 : List Int)).bind fun y168 => (if y168.length + t161.length < 140737488355328 then (some ((y168 ++ t161), 0)) else (none))) else (none))) else (none)) = some (r1, r2) := H
        have A12 := Aside0.mk A120
        clear A120
        by_cases c13 : y150.length + t153.length < 140737488355328
        ·
         rw [if_pos c13] at H
         have LMc13 := Aside0.mk c13
         clear c13
         obtain ⟨y165, hy165⟩ : ∃ y_ : List Int, y_ = (y150 ++ t153) := ⟨_, rfl⟩
         replace H : (if y165.length + t157.length < 140737488355328 then ((some (y165 ++ t157 : List Int)).bind fun y168 => (if y168.length + t161.length < 140737488355328 then (some ((y168 ++ t161), 0)) else (none))) else (none)) = some (r1, r2) := by first | (rw [hy165]; with_reducible exact H) | (have H2_ := (Option.bind_some _ _).symm.trans H; rw [hy165]; with_reducible exact H2_) | (have H2_ := (Option.bind_some _ _).symm.trans H; with_reducible exact H2_) | with_reducible exact H | (rw [hy165]; exact H) | exact H
         have Ny165 := Aside0.mk hy165
         clear hy165
         by_cases c14 : y165.length + t157.length < 140737488355328
         ·
          rw [if_pos c14] at H
          have LMc14 := Aside0.mk c14
          clear c14
          obtain ⟨y168, hy168⟩ : ∃ y_ : List Int, y_ = (y165 ++ t157) := ⟨_, rfl⟩
          replace H : (if y168.length + t161.length < 140737488355328 then (some ((y168 ++ t161), 0)) else (none)) = some (r1, r2) := by first | (rw [hy168]; with_reducible exact H) | (have H2_ := (Option.bind_some _ _).symm.trans H; rw [hy168]; with_reducible exact H2_) | (have H2_ := (Option.bind_some _ _).symm.trans H; with_reducible exact H2_) | with_reducible exact H | (rw [hy168]; exact H) | exact H
          have Ny168 := Aside0.mk hy168
          clear hy168
          by_cases c15 : y168.length + t161.length < 140737488355328
          ·
           rw [if_pos c15] at H
           have LMc15 := Aside0.mk c15
           clear c15
           obtain ⟨y171, hy171⟩ : ∃ y_ : List Int, y_ = (y168 ++ t161) := ⟨_, rfl⟩
           replace H : (some (y171, 0)) = some (r1, r2) := by first | (rw [hy171]; with_reducible exact H) | (have H2_ := (Option.bind_some _ _).symm.trans H; rw [hy171]; with_reducible exact H2_) | (have H2_ := (Option.bind_some _ _).symm.trans H; with_reducible exact H2_) | with_reducible exact H | (rw [hy171]; exact H) | exact H
           have Ny171 := Aside0.mk hy171
           clear hy171
           simp only [Option.some.injEq, Prod.mk.injEq] at H
           obtain ⟨rfl, rfl⟩ := H
           go_enter Try.func24, Try.ntmps24
           go_wp2_with (first | ((with_reducible refine gate_dst (N := 1) rfl ?_); refine box_event ?hg (N := 1) ?hd (cs := #[.slice A0_0 l0_0.length c0_0, .slice A0_1 l0_1.length c0_1, .int .u8 a0_2, .bool true, .int .i64 a0_4, .int .i64 a0_5, .int .i64 a0_6, .slice A0_7 l0_7.length c0_7]) (t := 25) ?hr ?_; (case hd => rfl); (case hg => rfl); (case hr => first | (go_simp; done) | (go_simp; rfl)); intro gb133 hg w16 hbox hb; have n0_ := Aside0.mk (below_step (au1) hb); have n1_ := Aside0.mk (hbox); have n2_ := Aside0.mk ((au24 : w.heap.size ≤ gb133)); have n3_ := Aside0.mk ((au24 : w.heap.size ≤ gb133)); clear HB; have HB := n0_; have BK133 := n1_; have GW133 := n2_; have GE133 := n3_; clear n0_ n1_ n2_ n3_; clear hb hbox hg; obtain ⟨hcz17_0, hcz17_1, hcz17_2, hcz17_3, hcz17_4, hcz17_5, hcz17_6, hcz17_7, hfz17_0, hfz17_1, hfz17_2, hfz17_3, hfz17_4, hfz17_5, hfz17_6, hfz17_7⟩ := blk_all8 BK133.out) | ((with_reducible refine gate_callee (f := 26) rfl ?_); refine goesL_ (some 12) rfl rfl Try.func26 (by kernel_rfl) rfl #[.agg #[.slice A0_0 l0_0.length c0_0, .slice A0_1 l0_1.length c0_1, .int .u8 a0_2, .bool true, .int .i64 a0_4, .int .i64 a0_5, .int .i64 a0_6, .slice A0_7 l0_7.length c0_7]] rfl (au3) ?_; (with_reducible refine (capstanref07_May.calls k _ _ l0_0 _ _ l0_1 a0_2 true a0_4 a0_5 a0_6 _ _ l0_7 true _ ?side1 ?side2 ?side3 ?side4 ?side5 ?side6 A2.out).mono ?_); (case side1 => exact au6); (case side2 => exact HC0_0.out); (case side3 => exact au15); (case side4 => exact HC0_1.out); (case side5 => exact au16); (case side6 => exact HC0_7.out); rintro e w18 ⟨rfl, hb⟩; refine ⟨_, rfl, ?_⟩; have n0_ := Aside0.mk (blk_below (g := gb133) (o := .cells #[.slice A0_0 l0_0.length c0_0, .slice A0_1 l0_1.length c0_1, .int .u8 a0_2, .bool true, .int .i64 a0_4, .int .i64 a0_5, .int .i64 a0_6, .slice A0_7 l0_7.length c0_7] 25 (0, 0)) (au26) hb); have n1_ := Aside0.mk (below_step (au2) hb); clear BK133; clear HB; have BK133 := n0_; have HB := n1_; clear n0_ n1_; (try clear hb); (try clear hb2); (try clear hk); (try clear hi); obtain ⟨hcz19_0, hcz19_1, hcz19_2, hcz19_3, hcz19_4, hcz19_5, hcz19_6, hcz19_7, hfz19_0, hfz19_1, hfz19_2, hfz19_3, hfz19_4, hfz19_5, hfz19_6, hfz19_7⟩ := blk_all8 BK133.out) | ((with_reducible refine gate_dst (N := 18) rfl ?_); refine Kd.R_lit (Kd.int .u8) _ 5 ?hg (N := 18) ?hd (xs := ([((l0_0.length : Int)) % 256] : List Int)) (inner := [.int .u8 (((l0_0.length : Int)) % 256)]) (ok := fun _ => True) (okp := fun _ => True) ?hr ?hp (fun _ hk => hk) trivial (Below.refl _ _) (Nat.le_refl _) (by simp) ?_; (case hd => rfl); (case hg => rfl); (case hr => first | (go_simp; done) | (go_simp; rfl)); (case hp => exact (Reps.one (show Kd.M (Kd.int .u8) _ _ _ (((l0_0.length : Int)) % 256) [.int .u8 (((l0_0.length : Int)) % 256)] from rfl) (Reps.none _ _))); intro v136 w20 ho21 hb hg_ hnew_; clear hg_ hnew_; (first | rw [← Ny135.out] at ho21 | (simp only [Int.reduceToNat] at ho21; rw [← Ny135.out] at ho21)); have n0_ := Aside0.mk (Kd.R_lower ho21 (below_size (au2))); have n1_ := Aside0.mk (blk_below (g := gb133) (o := .cells #[.slice A0_0 l0_0.length c0_0, .slice A0_1 l0_1.length c0_1, .int .u8 a0_2, .bool true, .int .i64 a0_4, .int .i64 a0_5, .int .i64 a0_6, .slice A0_7 l0_7.length c0_7] 25 (0, 0)) (au26) hb); have n2_ := Aside0.mk (below_step (au2) hb); clear BK133; clear HB; have HO137 := n0_; have BK133 := n1_; have HB := n2_; clear n0_ n1_ n2_; clear hb ho21; obtain ⟨hcz22_0, hcz22_1, hcz22_2, hcz22_3, hcz22_4, hcz22_5, hcz22_6, hcz22_7, hfz22_0, hfz22_1, hfz22_2, hfz22_3, hfz22_4, hfz22_5, hfz22_6, hfz22_7⟩ := blk_all8 BK133.out) | ((with_reducible refine gate_builtin (b := .append) (xs := #[.tmp 19, .tmp 21]) rfl ?_); at_builtin; refine Kd.R_append_rows (Kd.int .u8) (w0 := w) w.heap.size rfl (.tmp 19) (.tmp 21) 22 5 (.int .u8 0) 1 rfl Try.underlying22 info5 rfl (by decide) (by omega) v136 y135 l0_0 _ _ _ (fun _ => True) (fun _ => False) rfl rfl ?aO ?aR (fun _ _ h => h) (fun _ h => h.elim) ?aF ?aB ?aS ?aL ?_; (case aR => repeat (first | exact (Kd.C_below HR0_0.out HB.out) | (with_reducible refine Kd.C_alloc ?_ _) | (with_reducible refine Kd.C_drewN ?_ _) | (with_reducible refine Kd.C_drew ?_))); (case aB => exact (au2)); (case aF => exact (fun _ _ => trivial)); (case aO => exact (by (with_reducible repeat (first | apply Kd.R_alloc | apply Kd.R_drewN | apply Kd.R_drew)); exact HO137.out)); (case aS => exact (below_size (au2))); (case aL => have := LMc4.out; omega); intro v139 w23 ho hb hg hat; rw [← Ny138.out] at ho; have n0_ := Aside0.mk (blk_grown (g := gb133) (o := .cells #[.slice A0_0 l0_0.length c0_0, .slice A0_1 l0_1.length c0_1, .int .u8 a0_2, .bool true, .int .i64 a0_4, .int .i64 a0_5, .int .i64 a0_6, .slice A0_7 l0_7.length c0_7] 25 (0, 0)) (au26) hg (Kd.R_ne HO137.out BK133.out (by decide))); have n1_ := Aside0.mk (hb); have n2_ := Aside0.mk (ho); clear BK133; clear HB; clear HO137; have BK133 := n0_; have HB := n1_; have HO140 := n2_; clear n0_ n1_ n2_; clear ho hb hg hat; obtain ⟨hcz24_0, hcz24_1, hcz24_2, hcz24_3, hcz24_4, hcz24_5, hcz24_6, hcz24_7, hfz24_0, hfz24_1, hfz24_2, hfz24_3, hfz24_4, hfz24_5, hfz24_6, hfz24_7⟩ := blk_all8 BK133.out) | ((with_reducible refine gate_builtin (b := .append) (xs := #[.tmp 23, .tmp 28]) rfl ?_); at_builtin; refine Kd.R_append (Kd.int .u8) (w0 := w) w.heap.size rfl (.tmp 23) (.tmp 28) 22 5 (.int .u8 0) 1 rfl Try.underlying22 info5 rfl (by decide) (by omega) v139 y138 (((l0_1.length : Int)) % 256) [.int .u8 (((l0_1.length : Int)) % 256)] (fun _ => True) (fun _ => False) rfl rfl ?aP (fun _ hk => hk.elim) ?aF ?aO ?aB ?aS ?aL ?_; (case aP => exact rfl); (case aB => exact (au2)); (case aF => exact (fun _ _ => trivial)); (case aO => exact (by (with_reducible repeat (first | apply Kd.R_alloc | apply Kd.R_drewN | apply Kd.R_drew)); exact HO140.out)); (case aS => exact (below_size (au2))); (case aL => have := LMc5.out; omega); intro v142 w25 ho hb hg hat; rw [← Ny141.out] at ho; have n0_ := Aside0.mk (blk_grown (g := gb133) (o := .cells #[.slice A0_0 l0_0.length c0_0, .slice A0_1 l0_1.length c0_1, .int .u8 a0_2, .bool true, .int .i64 a0_4, .int .i64 a0_5, .int .i64 a0_6, .slice A0_7 l0_7.length c0_7] 25 (0, 0)) (au26) hg (Kd.R_ne HO140.out BK133.out (by decide))); have n1_ := Aside0.mk (hb); have n2_ := Aside0.mk (ho); clear BK133; clear HB; clear HO140; have BK133 := n0_; have HB := n1_; have HO143 := n2_; clear n0_ n1_ n2_; clear ho hb hg hat; obtain ⟨hcz26_0, hcz26_1, hcz26_2, hcz26_3, hcz26_4, hcz26_5, hcz26_6, hcz26_7, hfz26_0, hfz26_1, hfz26_2, hfz26_3, hfz26_4, hfz26_5, hfz26_6, hfz26_7⟩ := blk_all8 BK133.out) | ((with_reducible refine gate_builtin (b := .append) (xs := #[.tmp 30, .tmp 32]) rfl ?_); at_builtin; refine Kd.R_append_rows (Kd.int .u8) (w0 := w) w.heap.size rfl (.tmp 30) (.tmp 32) 22 5 (.int .u8 0) 1 rfl Try.underlying22 info5 rfl (by decide) (by omega) v142 y141 l0_1 _ _ _ (fun _ => True) (fun _ => False) rfl rfl ?aO ?aR (fun _ _ h => h) (fun _ h => h.elim) ?aF ?aB ?aS ?aL ?_; (case aR => repeat (first | exact (Kd.C_below HR0_1.out HB.out) | (with_reducible refine Kd.C_alloc ?_ _) | (with_reducible refine Kd.C_drewN ?_ _) | (with_reducible refine Kd.C_drew ?_))); (case aB => exact (au2)); (case aF => exact (fun _ _ => trivial)); (case aO => exact (by (with_reducible repeat (first | apply Kd.R_alloc | apply Kd.R_drewN | apply Kd.R_drew)); exact HO143.out)); (case aS => exact (below_size (au2))); (case aL => have := LMc6.out; omega); intro v145 w27 ho hb hg hat; rw [← Ny144.out] at ho; have n0_ := Aside0.mk (blk_grown (g := gb133) (o := .cells #[.slice A0_0 l0_0.length c0_0, .slice A0_1 l0_1.length c0_1, .int .u8 a0_2, .bool true, .int .i64 a0_4, .int .i64 a0_5, .int .i64 a0_6, .slice A0_7 l0_7.length c0_7] 25 (0, 0)) (au26) hg (Kd.R_ne HO143.out BK133.out (by decide))); have n1_ := Aside0.mk (hb); have n2_ := Aside0.mk (ho); clear BK133; clear HB; clear HO143; have BK133 := n0_; have HB := n1_; have HO146 := n2_; clear n0_ n1_ n2_; clear ho hb hg hat; obtain ⟨hcz28_0, hcz28_1, hcz28_2, hcz28_3, hcz28_4, hcz28_5, hcz28_6, hcz28_7, hfz28_0, hfz28_1, hfz28_2, hfz28_3, hfz28_4, hfz28_5, hfz28_6, hfz28_7⟩ := blk_all8 BK133.out) | ((with_reducible refine gate_builtin (b := .append) (xs := #[.tmp 34, .tmp 37]) rfl ?_); at_builtin; refine Kd.R_append (Kd.int .u8) (w0 := w) w.heap.size rfl (.tmp 34) (.tmp 37) 22 5 (.int .u8 0) 1 rfl Try.underlying22 info5 rfl (by decide) (by omega) v145 y144 a0_2 [.int .u8 a0_2] (fun _ => True) (fun _ => False) rfl rfl ?aP (fun _ hk => hk.elim) ?aF ?aO ?aB ?aS ?aL ?_; (case aP => exact rfl); (case aB => exact (au2)); (case aF => exact (fun _ _ => trivial)); (case aO => exact (by (with_reducible repeat (first | apply Kd.R_alloc | apply Kd.R_drewN | apply Kd.R_drew)); exact HO146.out)); (case aS => exact (below_size (au2))); (case aL => have := LMc7.out; omega); intro v148 w29 ho hb hg hat; rw [← Ny147.out] at ho; have n0_ := Aside0.mk (blk_grown (g := gb133) (o := .cells #[.slice A0_0 l0_0.length c0_0, .slice A0_1 l0_1.length c0_1, .int .u8 a0_2, .bool true, .int .i64 a0_4, .int .i64 a0_5, .int .i64 a0_6, .slice A0_7 l0_7.length c0_7] 25 (0, 0)) (au26) hg (Kd.R_ne HO146.out BK133.out (by decide))); have n1_ := Aside0.mk (hb); have n2_ := Aside0.mk (ho); clear BK133; clear HB; clear HO146; have BK133 := n0_; have HB := n1_; have HO149 := n2_; clear n0_ n1_ n2_; clear ho hb hg hat; obtain ⟨hcz30_0, hcz30_1, hcz30_2, hcz30_3, hcz30_4, hcz30_5, hcz30_6, hcz30_7, hfz30_0, hfz30_1, hfz30_2, hfz30_3, hfz30_4, hfz30_5, hfz30_6, hfz30_7⟩ := blk_all8 BK133.out) | ((with_reducible refine gate_builtin (b := .append) (xs := #[.tmp 41, .tmp 42]) rfl ?_); at_builtin; refine Kd.R_append (Kd.int .u8) (w0 := w) w.heap.size rfl (.tmp 41) (.tmp 42) 22 5 (.int .u8 0) 1 rfl Try.underlying22 info5 rfl (by decide) (by omega) v148 y147 1 [.int .u8 1] (fun _ => True) (fun _ => False) rfl rfl ?aP (fun _ hk => hk.elim) ?aF ?aO ?aB ?aS ?aL ?_; (case aP => exact rfl); (case aB => exact (au2)); (case aF => exact (fun _ _ => trivial)); (case aO => exact (by (with_reducible repeat (first | apply Kd.R_alloc | apply Kd.R_drewN | apply Kd.R_drew)); exact HO149.out)); (case aS => exact (below_size (au2))); (case aL => have := LMc9.out; omega); intro v151 w31 ho hb hg hat; rw [← Ny150.out] at ho; have n0_ := Aside0.mk (blk_grown (g := gb133) (o := .cells #[.slice A0_0 l0_0.length c0_0, .slice A0_1 l0_1.length c0_1, .int .u8 a0_2, .bool true, .int .i64 a0_4, .int .i64 a0_5, .int .i64 a0_6, .slice A0_7 l0_7.length c0_7] 25 (0, 0)) (au26) hg (Kd.R_ne HO149.out BK133.out (by decide))); have n1_ := Aside0.mk (hb); have n2_ := Aside0.mk (ho); clear BK133; clear HB; clear HO149; have BK133 := n0_; have HB := n1_; have HO152 := n2_; clear n0_ n1_ n2_; clear ho hb hg hat; obtain ⟨hcz32_0, hcz32_1, hcz32_2, hcz32_3, hcz32_4, hcz32_5, hcz32_6, hcz32_7, hfz32_0, hfz32_1, hfz32_2, hfz32_3, hfz32_4, hfz32_5, hfz32_6, hfz32_7⟩ := blk_all8 BK133.out) | ((with_reducible refine gate_callee (f := 54) rfl ?_); refine goesL_ (some 50) rfl rfl Try.func54 (by kernel_rfl) rfl #[.int .i64 3, .int .i64 a0_4] rfl (au3) ?_; (with_reducible refine (capstanref01_Put.calls k 3 a0_4 t153 t154 _ A10.out).mono ?_); rintro e w33 ⟨v155, rfl, ho0, hb⟩; refine ⟨_, rfl, ?_⟩; have n0_ := Aside0.mk (Kd.R_elder' (au93) (Kd.R_base ho0) hb); have n1_ := Aside0.mk (Kd.R_lower (Kd.R_new' ho0 (Kd.R_lt (au93))) (below_size (au2))); have n2_ := Aside0.mk (blk_below (g := gb133) (o := .cells #[.slice A0_0 l0_0.length c0_0, .slice A0_1 l0_1.length c0_1, .int .u8 a0_2, .bool true, .int .i64 a0_4, .int .i64 a0_5, .int .i64 a0_6, .slice A0_7 l0_7.length c0_7] 25 (0, 0)) (au26) hb); have n3_ := Aside0.mk (below_step (au2) hb); clear HO152; clear BK133; clear HB; have HO152 := n0_; have HO156 := n1_; have BK133 := n2_; have HB := n3_; clear n0_ n1_ n2_ n3_; (try clear hb); (try clear hb2); (try clear hk); (try clear hi); (try clear ho0); obtain ⟨hcz34_0, hcz34_1, hcz34_2, hcz34_3, hcz34_4, hcz34_5, hcz34_6, hcz34_7, hfz34_0, hfz34_1, hfz34_2, hfz34_3, hfz34_4, hfz34_5, hfz34_6, hfz34_7⟩ := blk_all8 BK133.out) | ((with_reducible refine gate_callee (f := 54) rfl ?_); refine goesL_ (some 56) rfl rfl Try.func54 (by kernel_rfl) rfl #[.int .i64 2, .int .i64 a0_5] rfl (au3) ?_; (with_reducible refine (capstanref01_Put.calls k 2 a0_5 t157 t158 _ A11.out).mono ?_); rintro e w35 ⟨v159, rfl, ho0, hb⟩; refine ⟨_, rfl, ?_⟩; have n0_ := Aside0.mk (Kd.R_elder' (au93) (Kd.R_base ho0) hb); have n1_ := Aside0.mk (Kd.R_elder' (au64) (Kd.R_base ho0) hb); have n2_ := Aside0.mk (Kd.R_lower (Kd.R_new' (Kd.R_new' ho0 (Kd.R_lt (au93))) (Kd.R_lt (au64))) (below_size (au2))); have n3_ := Aside0.mk (blk_below (g := gb133) (o := .cells #[.slice A0_0 l0_0.length c0_0, .slice A0_1 l0_1.length c0_1, .int .u8 a0_2, .bool true, .int .i64 a0_4, .int .i64 a0_5, .int .i64 a0_6, .slice A0_7 l0_7.length c0_7] 25 (0, 0)) (au26) hb); have n4_ := Aside0.mk (below_step (au2) hb); clear HO152; clear HO156; clear BK133; clear HB; have HO152 := n0_; have HO156 := n1_; have HO160 := n2_; have BK133 := n3_; have HB := n4_; clear n0_ n1_ n2_ n3_ n4_; (try clear hb); (try clear hb2); (try clear hk); (try clear hi); (try clear ho0); obtain ⟨hcz36_0, hcz36_1, hcz36_2, hcz36_3, hcz36_4, hcz36_5, hcz36_6, hcz36_7, hfz36_0, hfz36_1, hfz36_2, hfz36_3, hfz36_4, hfz36_5, hfz36_6, hfz36_7⟩ := blk_all8 BK133.out) | ((with_reducible refine gate_callee (f := 54) rfl ?_); refine goesL_ (some 62) rfl rfl Try.func54 (by kernel_rfl) rfl #[.int .i64 2, .int .i64 a0_6] rfl (au3) ?_; (with_reducible refine (capstanref01_Put.calls k 2 a0_6 t161 t162 _ A12.out).mono ?_); rintro e w37 ⟨v163, rfl, ho0, hb⟩; refine ⟨_, rfl, ?_⟩; have n0_ := Aside0.mk (Kd.R_elder' (au93) (Kd.R_base ho0) hb); have n1_ := Aside0.mk (Kd.R_elder' (au64) (Kd.R_base ho0) hb); have n2_ := Aside0.mk (Kd.R_elder' (au81) (Kd.R_base ho0) hb); have n3_ := Aside0.mk (Kd.R_lower (Kd.R_new' (Kd.R_new' (Kd.R_new' ho0 (Kd.R_lt (au93))) (Kd.R_lt (au64))) (Kd.R_lt (au81))) (below_size (au2))); have n4_ := Aside0.mk (blk_below (g := gb133) (o := .cells #[.slice A0_0 l0_0.length c0_0, .slice A0_1 l0_1.length c0_1, .int .u8 a0_2, .bool true, .int .i64 a0_4, .int .i64 a0_5, .int .i64 a0_6, .slice A0_7 l0_7.length c0_7] 25 (0, 0)) (au26) hb); have n5_ := Aside0.mk (below_step (au2) hb); clear HO152; clear HO156; clear HO160; clear BK133; clear HB; have HO152 := n0_; have HO156 := n1_; have HO160 := n2_; have HO164 := n3_; have BK133 := n4_; have HB := n5_; clear n0_ n1_ n2_ n3_ n4_ n5_; (try clear hb); (try clear hb2); (try clear hk); (try clear hi); (try clear ho0); obtain ⟨Ao39, co39, eo39⟩ := Kd.R_slice HO156.out; subst eo39) | ((with_reducible refine gate_builtin (b := .append) (xs := #[.tmp 65, .tmp 66]) rfl ?_); at_builtin; refine Kd.R_append_rows (Kd.int .u8) (w0 := w) w.heap.size rfl (.tmp 65) (.tmp 66) 22 5 (.int .u8 0) 1 rfl Try.underlying22 info5 rfl (by decide) (by omega) v151 y150 t153 _ _ _ (fun k_ => some k_ ≠ (.slice Ao39 t153.length co39 : Value).ownBlock ∧ some k_ ≠ (v159 : Value).ownBlock ∧ some k_ ≠ (v163 : Value).ownBlock) (fun _ => False) rfl rfl ?aO ?aR (fun _ _ h => h) (fun _ h => h.elim) ?aF ?aB ?aS ?aL ?_; (case aR => repeat (first | exact (Kd.R_reads' HO156.out).2.2 | (with_reducible refine Kd.C_alloc ?_ _) | (with_reducible refine Kd.C_drewN ?_ _) | (with_reducible refine Kd.C_drew ?_))); (case aB => exact (au2)); (case aF => exact (fun k_ hk => ⟨Kd.fresh' (Kd.R_lt (au64)) k_ hk, Kd.fresh' (Kd.R_lt (au81)) k_ hk, Kd.fresh' (Kd.R_lt (au106)) k_ hk⟩)); (case aO => exact (by (with_reducible repeat (first | apply Kd.R_alloc | apply Kd.R_drewN | apply Kd.R_drew)); exact Kd.R_mono HO152.out (fun _ hk => ⟨hk.1.1.2, ⟨hk.1.2, hk.2⟩⟩))); (case aS => exact (below_size (au2))); (case aL => have := LMc13.out; omega); intro v166 w38 ho hb hg hat; rw [← Ny165.out] at ho; have n0_ := Aside0.mk (blk_grown (g := gb133) (o := .cells #[.slice A0_0 l0_0.length c0_0, .slice A0_1 l0_1.length c0_1, .int .u8 a0_2, .bool true, .int .i64 a0_4, .int .i64 a0_5, .int .i64 a0_6, .slice A0_7 l0_7.length c0_7] 25 (0, 0)) (au26) hg (Kd.R_ne HO152.out BK133.out (by decide))); have n1_ := Aside0.mk (Kd.R_after (ok := (fun k_ => some k_ ≠ (v159 : Value).ownBlock ∧ some k_ ≠ (v163 : Value).ownBlock)) (by (with_reducible repeat (first | apply Kd.R_alloc | apply Kd.R_drewN | apply Kd.R_drew)); exact Kd.R_mono HO156.out (fun _ hk => ⟨⟨hk.1.2, hk.2⟩, hk.1.1.2⟩)) hg hat); have n2_ := Aside0.mk (Kd.R_after (ok := (fun k_ => some k_ ≠ (.slice Ao39 t153.length co39 : Value).ownBlock ∧ some k_ ≠ (v163 : Value).ownBlock)) (by (with_reducible repeat (first | apply Kd.R_alloc | apply Kd.R_drewN | apply Kd.R_drew)); exact Kd.R_mono HO160.out (fun _ hk => ⟨⟨hk.1.2, hk.2⟩, hk.1.1.2⟩)) hg hat); have n3_ := Aside0.mk (Kd.R_after (ok := (fun k_ => some k_ ≠ (.slice Ao39 t153.length co39 : Value).ownBlock ∧ some k_ ≠ (v159 : Value).ownBlock)) (by (with_reducible repeat (first | apply Kd.R_alloc | apply Kd.R_drewN | apply Kd.R_drew)); exact Kd.R_mono HO164.out (fun _ hk => ⟨⟨hk.1.2, hk.2⟩, hk.1.1.2⟩)) hg hat); have n4_ := Aside0.mk (hb); have n5_ := Aside0.mk (ho); clear BK133; clear HO156; clear HO160; clear HO164; clear HB; clear HO152; have BK133 := n0_; have HO156 := n1_; have HO160 := n2_; have HO164 := n3_; have HB := n4_; have HO167 := n5_; clear n0_ n1_ n2_ n3_ n4_ n5_; clear ho hb hg hat; obtain ⟨Ao41, co41, eo41⟩ := Kd.R_slice HO160.out; subst eo41) | ((with_reducible refine gate_builtin (b := .append) (xs := #[.tmp 68, .tmp 69]) rfl ?_); at_builtin; refine Kd.R_append_rows (Kd.int .u8) (w0 := w) w.heap.size rfl (.tmp 68) (.tmp 69) 22 5 (.int .u8 0) 1 rfl Try.underlying22 info5 rfl (by decide) (by omega) v166 y165 t157 _ _ _ (fun k_ => some k_ ≠ (.slice Ao39 t153.length co39 : Value).ownBlock ∧ some k_ ≠ (.slice Ao41 t157.length co41 : Value).ownBlock ∧ some k_ ≠ (v163 : Value).ownBlock) (fun _ => False) rfl rfl ?aO ?aR (fun _ _ h => h) (fun _ h => h.elim) ?aF ?aB ?aS ?aL ?_; (case aR => repeat (first | exact (Kd.R_reads' HO160.out).2.2 | (with_reducible refine Kd.C_alloc ?_ _) | (with_reducible refine Kd.C_drewN ?_ _) | (with_reducible refine Kd.C_drew ?_))); (case aB => exact (au2)); (case aF => exact (fun k_ hk => ⟨Kd.fresh' (Kd.R_lt (au64)) k_ hk, Kd.fresh' (Kd.R_lt (au81)) k_ hk, Kd.fresh' (Kd.R_lt (au106)) k_ hk⟩)); (case aO => exact (by (with_reducible repeat (first | apply Kd.R_alloc | apply Kd.R_drewN | apply Kd.R_drew)); exact HO167.out)); (case aS => exact (below_size (au2))); (case aL => have := LMc14.out; omega); intro v169 w40 ho hb hg hat; rw [← Ny168.out] at ho; have n0_ := Aside0.mk (blk_grown (g := gb133) (o := .cells #[.slice A0_0 l0_0.length c0_0, .slice A0_1 l0_1.length c0_1, .int .u8 a0_2, .bool true, .int .i64 a0_4, .int .i64 a0_5, .int .i64 a0_6, .slice A0_7 l0_7.length c0_7] 25 (0, 0)) (au26) hg (Kd.R_ne HO167.out BK133.out (by decide))); have n1_ := Aside0.mk (Kd.R_after (ok := (fun k_ => some k_ ≠ (.slice Ao41 t157.length co41 : Value).ownBlock ∧ some k_ ≠ (v163 : Value).ownBlock)) (au64) hg hat); have n2_ := Aside0.mk (Kd.R_after (ok := (fun k_ => some k_ ≠ (.slice Ao39 t153.length co39 : Value).ownBlock ∧ some k_ ≠ (v163 : Value).ownBlock)) (au81) hg hat); have n3_ := Aside0.mk (Kd.R_after (ok := (fun k_ => some k_ ≠ (.slice Ao39 t153.length co39 : Value).ownBlock ∧ some k_ ≠ (.slice Ao41 t157.length co41 : Value).ownBlock)) (au106) hg hat); have n4_ := Aside0.mk (hb); have n5_ := Aside0.mk (ho); clear BK133; clear HO156; clear HO160; clear HO164; clear HB; clear HO167; have BK133 := n0_; have HO156 := n1_; have HO160 := n2_; have HO164 := n3_; have HB := n4_; have HO170 := n5_; clear n0_ n1_ n2_ n3_ n4_ n5_; clear ho hb hg hat; obtain ⟨Ao43, co43, eo43⟩ := Kd.R_slice HO164.out; subst eo43) | ((with_reducible refine gate_builtin (b := .append) (xs := #[.tmp 71, .tmp 72]) rfl ?_); at_builtin; refine Kd.R_append_rows (Kd.int .u8) (w0 := w) w.heap.size rfl (.tmp 71) (.tmp 72) 22 5 (.int .u8 0) 1 rfl Try.underlying22 info5 rfl (by decide) (by omega) v169 y168 t161 _ _ _ (fun k_ => some k_ ≠ (.slice Ao39 t153.length co39 : Value).ownBlock ∧ some k_ ≠ (.slice Ao41 t157.length co41 : Value).ownBlock ∧ some k_ ≠ (.slice Ao43 t161.length co43 : Value).ownBlock) (fun _ => False) rfl rfl ?aO ?aR (fun _ _ h => h) (fun _ h => h.elim) ?aF ?aB ?aS ?aL ?_; (case aR => repeat (first | exact (Kd.R_reads' HO164.out).2.2 | (with_reducible refine Kd.C_alloc ?_ _) | (with_reducible refine Kd.C_drewN ?_ _) | (with_reducible refine Kd.C_drew ?_))); (case aB => exact (au2)); (case aF => exact (fun k_ hk => ⟨Kd.fresh' (Kd.R_lt (au64)) k_ hk, Kd.fresh' (Kd.R_lt (au81)) k_ hk, Kd.fresh' (Kd.R_lt (au106)) k_ hk⟩)); (case aO => exact (by (with_reducible repeat (first | apply Kd.R_alloc | apply Kd.R_drewN | apply Kd.R_drew)); exact HO170.out)); (case aS => exact (below_size (au2))); (case aL => have := LMc15.out; omega); intro v172 w42 ho hb hg hat; rw [← Ny171.out] at ho; have n0_ := Aside0.mk (blk_grown (g := gb133) (o := .cells #[.slice A0_0 l0_0.length c0_0, .slice A0_1 l0_1.length c0_1, .int .u8 a0_2, .bool true, .int .i64 a0_4, .int .i64 a0_5, .int .i64 a0_6, .slice A0_7 l0_7.length c0_7] 25 (0, 0)) (au26) hg (Kd.R_ne HO170.out BK133.out (by decide))); have n1_ := Aside0.mk (Kd.R_after (ok := (fun k_ => some k_ ≠ (.slice Ao41 t157.length co41 : Value).ownBlock ∧ some k_ ≠ (.slice Ao43 t161.length co43 : Value).ownBlock)) (au64) hg hat); have n2_ := Aside0.mk (Kd.R_after (ok := (fun k_ => some k_ ≠ (.slice Ao39 t153.length co39 : Value).ownBlock ∧ some k_ ≠ (.slice Ao43 t161.length co43 : Value).ownBlock)) (au81) hg hat); have n3_ := Aside0.mk (Kd.R_after (ok := (fun k_ => some k_ ≠ (.slice Ao39 t153.length co39 : Value).ownBlock ∧ some k_ ≠ (.slice Ao41 t157.length co41 : Value).ownBlock)) (au106) hg hat); have n4_ := Aside0.mk (hb); have n5_ := Aside0.mk (ho); clear BK133; clear HO156; clear HO160; clear HO164; clear HB; clear HO170; have BK133 := n0_; have HO156 := n1_; have HO160 := n2_; have HO164 := n3_; have HB := n4_; have HO173 := n5_; clear n0_ n1_ n2_ n3_ n4_ n5_; clear ho hb hg hat))
           go_ret2
           exact ⟨_, au5, by (with_reducible repeat (first | apply Kd.R_alloc | apply Kd.R_drewN | apply Kd.R_drew)); exact Kd.R_mono HO173.out (fun _ hk => trivial), au2⟩
          ·
           rw [if_neg c15] at H
           exact absurd H (by simp)
         ·
          rw [if_neg c14] at H
          exact absurd H (by simp)
        ·
         rw [if_neg c13] at H
         exact absurd H (by simp)
       ·
        rw [if_neg c9] at H
        exact absurd H (by simp)
      ·
       replace c8 := Bool.eq_false_iff.mpr c8
       subst c8
       have H1 : (if y147.length < 140737488355328 then ((some (y147 ++ [0] : List Int)).bind fun y174 => ((capstanref01_Put.f k 3 a0_4).bind fun bt177 => ((capstanref01_Put.f k 2 a0_5).bind fun bt181 => ((capstanref01_Put.f k 2 a0_6).bind fun bt185 => (if y174.length + bt177.1.length < 140737488355328 then ((some (y174 ++ bt177.1 : List Int)).bind fun y189 => (if y189.length + bt181.1.length < 140737488355328 then ((some (y189 ++ bt181.1 : List Int)).bind fun y192 => (if y192.length + bt185.1.length < 140737488355328 then (some ((y192 ++ bt185.1), 0)) else (none))) else (none))) else (none)))))) else (none)) = some (r1, r2) := by rw [if_neg (show ¬ (false = true) by decide)] at H; exact H
       clear H
       have H := H1
       clear H1
       by_cases c44 : y147.length < 140737488355328
       ·
        rw [if_pos c44] at H
        have LMc44 := Aside0.mk c44
        clear c44
        obtain ⟨y174, hy174⟩ : ∃ y_ : List Int, y_ = (y147 ++ [0]) := ⟨_, rfl⟩
        replace H : ((capstanref01_Put.f k 3 a0_4).bind fun bt177 => ((capstanref01_Put.f k 2 a0_5).bind fun bt181 => ((capstanref01_Put.f k 2 a0_6).bind fun bt185 => (if y174.length + bt177.1.length < 140737488355328 then ((some (y174 ++ bt177.1 : List Int)).bind fun y189 => (if y189.length + bt181.1.length < 140737488355328 then ((some (y189 ++ bt181.1 : List Int)).bind fun y192 => (if y192.length + bt185.1.length < 140737488355328 then (some ((y192 ++ bt185.1), 0)) else (none))) else (none))) else (none))))) = some (r1, r2) := by first | (rw [hy174]; with_reducible exact H) | (have H2_ := (Option.bind_some _ _).symm.trans H; rw [hy174]; with_reducible exact H2_) | (have H2_ := (Option.bind_some _ _).symm.trans H; with_reducible exact H2_) | with_reducible exact H | (rw [hy174]; exact H) | exact H
        have Ny174 := Aside0.mk hy174
        clear hy174
        replace H := Option.bind_eq_some_iff.mp H
        obtain ⟨⟨t177, t178⟩, A450, H⟩ := H
        replace H : ((capstanref01_Put.f k 2 a0_5).bind fun bt181 => ((capstanref01_Put.f k 2 a0_6).bind fun bt185 => (if y174.length + t177.length < 140737488355328 then ((some (y174 ++ t177 : List Int)).bind fun y189 => (if y189.length + bt181.1.length < 140737488355328 then ((some (y189 ++ bt181.1 : List Int)).bind fun y192 => (if y192.length + bt185.1.length < 140737488355328 then (some ((y192 ++ bt185.1), 0)) else (none))) else (none))) else (none)))) = some (r1, r2) := H
        have A45 := Aside0.mk A450
        clear A450
        replace H := Option.bind_eq_some_iff.mp H
        obtain ⟨⟨t181, t182⟩, A460, H⟩ := H
        replace H : ((capstanref01_Put.f k 2 a0_6).bind fun bt185 => (if y174.length + t177.length < 140737488355328 then ((some (y174 ++ t177 : List Int)).bind fun y189 => (if y189.length + t181.length < 140737488355328 then ((some (y189 ++ t181 : List Int)).bind fun y192 => (if y192.length + bt185.1.length < 140737488355328 then (some ((y192 ++ bt185.1), 0)) else (none))) else (none))) else (none))) = some (r1, r2) := H
        have A46 := Aside0.mk A460
        clear A460
        replace H := Option.bind_eq_some_iff.mp H
        obtain ⟨⟨t185, t186⟩, A470, H⟩ := H
        replace H : (if y174.length + t177.length < 140737488355328 then ((some (y174 ++ t177 : List Int)).bind fun y189 => (if y189.length + t181.length < 140737488355328 then ((some (y189 ++ t181 : List Int)).bind fun y192 => (if y192.length + t185.length < 140737488355328 then (some ((y192 ++ t185), 0)) else (none))) else (none))) else (none)) = some (r1, r2) := H
        have A47 := Aside0.mk A470
        clear A470
        by_cases c48 : y174.length + t177.length < 140737488355328
        ·
         rw [if_pos c48] at H
         have LMc48 := Aside0.mk c48
         clear c48
         obtain ⟨y189, hy189⟩ : ∃ y_ : List Int, y_ = (y174 ++ t177) := ⟨_, rfl⟩
         replace H : (if y189.length + t181.length < 140737488355328 then ((some (y189 ++ t181 : List Int)).bind fun y192 => (if y192.length + t185.length < 140737488355328 then (some ((y192 ++ t185), 0)) else (none))) else (none)) = some (r1, r2) := by first | (rw [hy189]; with_reducible exact H) | (have H2_ := (Option.bind_some _ _).symm.trans H; rw [hy189]; with_reducible exact H2_) | (have H2_ := (Option.bind_some _ _).symm.trans H; with_reducible exact H2_) | with_reducible exact H | (rw [hy189]; exact H) | exact H
         have Ny189 := Aside0.mk hy189
         clear hy189
         by_cases c49 : y189.length + t181.length < 140737488355328
         ·
          rw [if_pos c49] at H
          have LMc49 := Aside0.mk c49
          clear c49
          obtain ⟨y192, hy192⟩ : ∃ y_ : List Int, y_ = (y189 ++ t181) := ⟨_, rfl⟩
          replace H : (if y192.length + t185.length < 140737488355328 then (some ((y192 ++ t185), 0)) else (none)) = some (r1, r2) := by first | (rw [hy192]; with_reducible exact H) | (have H2_ := (Option.bind_some _ _).symm.trans H; rw [hy192]; with_reducible exact H2_) | (have H2_ := (Option.bind_some _ _).symm.trans H; with_reducible exact H2_) | with_reducible exact H | (rw [hy192]; exact H) | exact H
          have Ny192 := Aside0.mk hy192
          clear hy192
          by_cases c50 : y192.length + t185.length < 140737488355328
          ·
           rw [if_pos c50] at H
           have LMc50 := Aside0.mk c50
           clear c50
           obtain ⟨y195, hy195⟩ : ∃ y_ : List Int, y_ = (y192 ++ t185) := ⟨_, rfl⟩
           replace H : (some (y195, 0)) = some (r1, r2) := by first | (rw [hy195]; with_reducible exact H) | (have H2_ := (Option.bind_some _ _).symm.trans H; rw [hy195]; with_reducible exact H2_) | (have H2_ := (Option.bind_some _ _).symm.trans H; with_reducible exact H2_) | with_reducible exact H | (rw [hy195]; exact H) | exact H
           have Ny195 := Aside0.mk hy195
           clear hy195
           simp only [Option.some.injEq, Prod.mk.injEq] at H
           obtain ⟨rfl, rfl⟩ := H
           go_enter Try.func24, Try.ntmps24
           go_wp2_with (first | ((with_reducible refine gate_dst (N := 1) rfl ?_); refine box_event ?hg (N := 1) ?hd (cs := #[.slice A0_0 l0_0.length c0_0, .slice A0_1 l0_1.length c0_1, .int .u8 a0_2, .bool false, .int .i64 a0_4, .int .i64 a0_5, .int .i64 a0_6, .slice A0_7 l0_7.length c0_7]) (t := 25) ?hr ?_; (case hd => rfl); (case hg => rfl); (case hr => first | (go_simp; done) | (go_simp; rfl)); intro gb133 hg w51 hbox hb; have n0_ := Aside0.mk (below_step (au1) hb); have n1_ := Aside0.mk (hbox); have n2_ := Aside0.mk ((au24 : w.heap.size ≤ gb133)); have n3_ := Aside0.mk ((au24 : w.heap.size ≤ gb133)); clear HB; have HB := n0_; have BK133 := n1_; have GW133 := n2_; have GE133 := n3_; clear n0_ n1_ n2_ n3_; clear hb hbox hg; obtain ⟨hcz52_0, hcz52_1, hcz52_2, hcz52_3, hcz52_4, hcz52_5, hcz52_6, hcz52_7, hfz52_0, hfz52_1, hfz52_2, hfz52_3, hfz52_4, hfz52_5, hfz52_6, hfz52_7⟩ := blk_all8 BK133.out) | ((with_reducible refine gate_callee (f := 26) rfl ?_); refine goesL_ (some 12) rfl rfl Try.func26 (by kernel_rfl) rfl #[.agg #[.slice A0_0 l0_0.length c0_0, .slice A0_1 l0_1.length c0_1, .int .u8 a0_2, .bool false, .int .i64 a0_4, .int .i64 a0_5, .int .i64 a0_6, .slice A0_7 l0_7.length c0_7]] rfl (au3) ?_; (with_reducible refine (capstanref07_May.calls k _ _ l0_0 _ _ l0_1 a0_2 false a0_4 a0_5 a0_6 _ _ l0_7 true _ ?side1 ?side2 ?side3 ?side4 ?side5 ?side6 A2.out).mono ?_); (case side1 => exact au6); (case side2 => exact HC0_0.out); (case side3 => exact au15); (case side4 => exact HC0_1.out); (case side5 => exact au16); (case side6 => exact HC0_7.out); rintro e w53 ⟨rfl, hb⟩; refine ⟨_, rfl, ?_⟩; have n0_ := Aside0.mk (blk_below (g := gb133) (o := .cells #[.slice A0_0 l0_0.length c0_0, .slice A0_1 l0_1.length c0_1, .int .u8 a0_2, .bool false, .int .i64 a0_4, .int .i64 a0_5, .int .i64 a0_6, .slice A0_7 l0_7.length c0_7] 25 (0, 0)) (au26) hb); have n1_ := Aside0.mk (below_step (au2) hb); clear BK133; clear HB; have BK133 := n0_; have HB := n1_; clear n0_ n1_; (try clear hb); (try clear hb2); (try clear hk); (try clear hi); obtain ⟨hcz54_0, hcz54_1, hcz54_2, hcz54_3, hcz54_4, hcz54_5, hcz54_6, hcz54_7, hfz54_0, hfz54_1, hfz54_2, hfz54_3, hfz54_4, hfz54_5, hfz54_6, hfz54_7⟩ := blk_all8 BK133.out) | ((with_reducible refine gate_dst (N := 18) rfl ?_); refine Kd.R_lit (Kd.int .u8) _ 5 ?hg (N := 18) ?hd (xs := ([((l0_0.length : Int)) % 256] : List Int)) (inner := [.int .u8 (((l0_0.length : Int)) % 256)]) (ok := fun _ => True) (okp := fun _ => True) ?hr ?hp (fun _ hk => hk) trivial (Below.refl _ _) (Nat.le_refl _) (by simp) ?_; (case hd => rfl); (case hg => rfl); (case hr => first | (go_simp; done) | (go_simp; rfl)); (case hp => exact (Reps.one (show Kd.M (Kd.int .u8) _ _ _ (((l0_0.length : Int)) % 256) [.int .u8 (((l0_0.length : Int)) % 256)] from rfl) (Reps.none _ _))); intro v136 w55 ho56 hb hg_ hnew_; clear hg_ hnew_; (first | rw [← Ny135.out] at ho56 | (simp only [Int.reduceToNat] at ho56; rw [← Ny135.out] at ho56)); have n0_ := Aside0.mk (Kd.R_lower ho56 (below_size (au2))); have n1_ := Aside0.mk (blk_below (g := gb133) (o := .cells #[.slice A0_0 l0_0.length c0_0, .slice A0_1 l0_1.length c0_1, .int .u8 a0_2, .bool false, .int .i64 a0_4, .int .i64 a0_5, .int .i64 a0_6, .slice A0_7 l0_7.length c0_7] 25 (0, 0)) (au26) hb); have n2_ := Aside0.mk (below_step (au2) hb); clear BK133; clear HB; have HO137 := n0_; have BK133 := n1_; have HB := n2_; clear n0_ n1_ n2_; clear hb ho56; obtain ⟨hcz57_0, hcz57_1, hcz57_2, hcz57_3, hcz57_4, hcz57_5, hcz57_6, hcz57_7, hfz57_0, hfz57_1, hfz57_2, hfz57_3, hfz57_4, hfz57_5, hfz57_6, hfz57_7⟩ := blk_all8 BK133.out) | ((with_reducible refine gate_builtin (b := .append) (xs := #[.tmp 19, .tmp 21]) rfl ?_); at_builtin; refine Kd.R_append_rows (Kd.int .u8) (w0 := w) w.heap.size rfl (.tmp 19) (.tmp 21) 22 5 (.int .u8 0) 1 rfl Try.underlying22 info5 rfl (by decide) (by omega) v136 y135 l0_0 _ _ _ (fun _ => True) (fun _ => False) rfl rfl ?aO ?aR (fun _ _ h => h) (fun _ h => h.elim) ?aF ?aB ?aS ?aL ?_; (case aR => repeat (first | exact (Kd.C_below HR0_0.out HB.out) | (with_reducible refine Kd.C_alloc ?_ _) | (with_reducible refine Kd.C_drewN ?_ _) | (with_reducible refine Kd.C_drew ?_))); (case aB => exact (au2)); (case aF => exact (fun _ _ => trivial)); (case aO => exact (by (with_reducible repeat (first | apply Kd.R_alloc | apply Kd.R_drewN | apply Kd.R_drew)); exact HO137.out)); (case aS => exact (below_size (au2))); (case aL => have := LMc4.out; omega); intro v139 w58 ho hb hg hat; rw [← Ny138.out] at ho; have n0_ := Aside0.mk (blk_grown (g := gb133) (o := .cells #[.slice A0_0 l0_0.length c0_0, .slice A0_1 l0_1.length c0_1, .int .u8 a0_2, .bool false, .int .i64 a0_4, .int .i64 a0_5, .int .i64 a0_6, .slice A0_7 l0_7.length c0_7] 25 (0, 0)) (au26) hg (Kd.R_ne HO137.out BK133.out (by decide))); have n1_ := Aside0.mk (hb); have n2_ := Aside0.mk (ho); clear BK133; clear HB; clear HO137; have BK133 := n0_; have HB := n1_; have HO140 := n2_; clear n0_ n1_ n2_; clear ho hb hg hat; obtain ⟨hcz59_0, hcz59_1, hcz59_2, hcz59_3, hcz59_4, hcz59_5, hcz59_6, hcz59_7, hfz59_0, hfz59_1, hfz59_2, hfz59_3, hfz59_4, hfz59_5, hfz59_6, hfz59_7⟩ := blk_all8 BK133.out) | ((with_reducible refine gate_builtin (b := .append) (xs := #[.tmp 23, .tmp 28]) rfl ?_); at_builtin; refine Kd.R_append (Kd.int .u8) (w0 := w) w.heap.size rfl (.tmp 23) (.tmp 28) 22 5 (.int .u8 0) 1 rfl Try.underlying22 info5 rfl (by decide) (by omega) v139 y138 (((l0_1.length : Int)) % 256) [.int .u8 (((l0_1.length : Int)) % 256)] (fun _ => True) (fun _ => False) rfl rfl ?aP (fun _ hk => hk.elim) ?aF ?aO ?aB ?aS ?aL ?_; (case aP => exact rfl); (case aB => exact (au2)); (case aF => exact (fun _ _ => trivial)); (case aO => exact (by (with_reducible repeat (first | apply Kd.R_alloc | apply Kd.R_drewN | apply Kd.R_drew)); exact HO140.out)); (case aS => exact (below_size (au2))); (case aL => have := LMc5.out; omega); intro v142 w60 ho hb hg hat; rw [← Ny141.out] at ho; have n0_ := Aside0.mk (blk_grown (g := gb133) (o := .cells #[.slice A0_0 l0_0.length c0_0, .slice A0_1 l0_1.length c0_1, .int .u8 a0_2, .bool false, .int .i64 a0_4, .int .i64 a0_5, .int .i64 a0_6, .slice A0_7 l0_7.length c0_7] 25 (0, 0)) (au26) hg (Kd.R_ne HO140.out BK133.out (by decide))); have n1_ := Aside0.mk (hb); have n2_ := Aside0.mk (ho); clear BK133; clear HB; clear HO140; have BK133 := n0_; have HB := n1_; have HO143 := n2_; clear n0_ n1_ n2_; clear ho hb hg hat; obtain ⟨hcz61_0, hcz61_1, hcz61_2, hcz61_3, hcz61_4, hcz61_5, hcz61_6, hcz61_7, hfz61_0, hfz61_1, hfz61_2, hfz61_3, hfz61_4, hfz61_5, hfz61_6, hfz61_7⟩ := blk_all8 BK133.out) | ((with_reducible refine gate_builtin (b := .append) (xs := #[.tmp 30, .tmp 32]) rfl ?_); at_builtin; refine Kd.R_append_rows (Kd.int .u8) (w0 := w) w.heap.size rfl (.tmp 30) (.tmp 32) 22 5 (.int .u8 0) 1 rfl Try.underlying22 info5 rfl (by decide) (by omega) v142 y141 l0_1 _ _ _ (fun _ => True) (fun _ => False) rfl rfl ?aO ?aR (fun _ _ h => h) (fun _ h => h.elim) ?aF ?aB ?aS ?aL ?_; (case aR => repeat (first | exact (Kd.C_below HR0_1.out HB.out) | (with_reducible refine Kd.C_alloc ?_ _) | (with_reducible refine Kd.C_drewN ?_ _) | (with_reducible refine Kd.C_drew ?_))); (case aB => exact (au2)); (case aF => exact (fun _ _ => trivial)); (case aO => exact (by (with_reducible repeat (first | apply Kd.R_alloc | apply Kd.R_drewN | apply Kd.R_drew)); exact HO143.out)); (case aS => exact (below_size (au2))); (case aL => have := LMc6.out; omega); intro v145 w62 ho hb hg hat; rw [← Ny144.out] at ho; have n0_ := Aside0.mk (blk_grown (g := gb133) (o := .cells #[.slice A0_0 l0_0.length c0_0, .slice A0_1 l0_1.length c0_1, .int .u8 a0_2, .bool false, .int .i64 a0_4, .int .i64 a0_5, .int .i64 a0_6, .slice A0_7 l0_7.length c0_7] 25 (0, 0)) (au26) hg (Kd.R_ne HO143.out BK133.out (by decide))); have n1_ := Aside0.mk (hb); have n2_ := Aside0.mk (ho); clear BK133; clear HB; clear HO143; have BK133 := n0_; have HB := n1_; have HO146 := n2_; clear n0_ n1_ n2_; clear ho hb hg hat; obtain ⟨hcz63_0, hcz63_1, hcz63_2, hcz63_3, hcz63_4, hcz63_5, hcz63_6, hcz63_7, hfz63_0, hfz63_1, hfz63_2, hfz63_3, hfz63_4, hfz63_5, hfz63_6, hfz63_7⟩ := blk_all8 BK133.out) | ((with_reducible refine gate_builtin (b := .append) (xs := #[.tmp 34, .tmp 37]) rfl ?_); at_builtin; refine Kd.R_append (Kd.int .u8) (w0 := w) w.heap.size rfl (.tmp 34) (.tmp 37) 22 5 (.int .u8 0) 1 rfl Try.underlying22 info5 rfl (by decide) (by omega) v145 y144 a0_2 [.int .u8 a0_2] (fun _ => True) (fun _ => False) rfl rfl ?aP (fun _ hk => hk.elim) ?aF ?aO ?aB ?aS ?aL ?_; (case aP => exact rfl); (case aB => exact (au2)); (case aF => exact (fun _ _ => trivial)); (case aO => exact (by (with_reducible repeat (first | apply Kd.R_alloc | apply Kd.R_drewN | apply Kd.R_drew)); exact HO146.out)); (case aS => exact (below_size (au2))); (case aL => have := LMc7.out; omega); intro v148 w64 ho hb hg hat; rw [← Ny147.out] at ho; have n0_ := Aside0.mk (blk_grown (g := gb133) (o := .cells #[.slice A0_0 l0_0.length c0_0, .slice A0_1 l0_1.length c0_1, .int .u8 a0_2, .bool false, .int .i64 a0_4, .int .i64 a0_5, .int .i64 a0_6, .slice A0_7 l0_7.length c0_7] 25 (0, 0)) (au26) hg (Kd.R_ne HO146.out BK133.out (by decide))); have n1_ := Aside0.mk (hb); have n2_ := Aside0.mk (ho); clear BK133; clear HB; clear HO146; have BK133 := n0_; have HB := n1_; have HO149 := n2_; clear n0_ n1_ n2_; clear ho hb hg hat; obtain ⟨hcz65_0, hcz65_1, hcz65_2, hcz65_3, hcz65_4, hcz65_5, hcz65_6, hcz65_7, hfz65_0, hfz65_1, hfz65_2, hfz65_3, hfz65_4, hfz65_5, hfz65_6, hfz65_7⟩ := blk_all8 BK133.out) | ((with_reducible refine gate_builtin (b := .append) (xs := #[.tmp 44, .tmp 45]) rfl ?_); at_builtin; refine Kd.R_append (Kd.int .u8) (w0 := w) w.heap.size rfl (.tmp 44) (.tmp 45) 22 5 (.int .u8 0) 1 rfl Try.underlying22 info5 rfl (by decide) (by omega) v148 y147 0 [.int .u8 0] (fun _ => True) (fun _ => False) rfl rfl ?aP (fun _ hk => hk.elim) ?aF ?aO ?aB ?aS ?aL ?_; (case aP => exact rfl); (case aB => exact (au2)); (case aF => exact (fun _ _ => trivial)); (case aO => exact (by (with_reducible repeat (first | apply Kd.R_alloc | apply Kd.R_drewN | apply Kd.R_drew)); exact HO149.out)); (case aS => exact (below_size (au2))); (case aL => have := LMc44.out; omega); intro v175 w66 ho hb hg hat; rw [← Ny174.out] at ho; have n0_ := Aside0.mk (blk_grown (g := gb133) (o := .cells #[.slice A0_0 l0_0.length c0_0, .slice A0_1 l0_1.length c0_1, .int .u8 a0_2, .bool false, .int .i64 a0_4, .int .i64 a0_5, .int .i64 a0_6, .slice A0_7 l0_7.length c0_7] 25 (0, 0)) (au26) hg (Kd.R_ne HO149.out BK133.out (by decide))); have n1_ := Aside0.mk (hb); have n2_ := Aside0.mk (ho); clear BK133; clear HB; clear HO149; have BK133 := n0_; have HB := n1_; have HO176 := n2_; clear n0_ n1_ n2_; clear ho hb hg hat; obtain ⟨hcz67_0, hcz67_1, hcz67_2, hcz67_3, hcz67_4, hcz67_5, hcz67_6, hcz67_7, hfz67_0, hfz67_1, hfz67_2, hfz67_3, hfz67_4, hfz67_5, hfz67_6, hfz67_7⟩ := blk_all8 BK133.out) | ((with_reducible refine gate_callee (f := 54) rfl ?_); refine goesL_ (some 50) rfl rfl Try.func54 (by kernel_rfl) rfl #[.int .i64 3, .int .i64 a0_4] rfl (au3) ?_; (with_reducible refine (capstanref01_Put.calls k 3 a0_4 t177 t178 _ A45.out).mono ?_); rintro e w68 ⟨v179, rfl, ho0, hb⟩; refine ⟨_, rfl, ?_⟩; have n0_ := Aside0.mk (Kd.R_elder' (au94) (Kd.R_base ho0) hb); have n1_ := Aside0.mk (Kd.R_lower (Kd.R_new' ho0 (Kd.R_lt (au94))) (below_size (au2))); have n2_ := Aside0.mk (blk_below (g := gb133) (o := .cells #[.slice A0_0 l0_0.length c0_0, .slice A0_1 l0_1.length c0_1, .int .u8 a0_2, .bool false, .int .i64 a0_4, .int .i64 a0_5, .int .i64 a0_6, .slice A0_7 l0_7.length c0_7] 25 (0, 0)) (au26) hb); have n3_ := Aside0.mk (below_step (au2) hb); clear HO176; clear BK133; clear HB; have HO176 := n0_; have HO180 := n1_; have BK133 := n2_; have HB := n3_; clear n0_ n1_ n2_ n3_; (try clear hb); (try clear hb2); (try clear hk); (try clear hi); (try clear ho0); obtain ⟨hcz69_0, hcz69_1, hcz69_2, hcz69_3, hcz69_4, hcz69_5, hcz69_6, hcz69_7, hfz69_0, hfz69_1, hfz69_2, hfz69_3, hfz69_4, hfz69_5, hfz69_6, hfz69_7⟩ := blk_all8 BK133.out) | ((with_reducible refine gate_callee (f := 54) rfl ?_); refine goesL_ (some 56) rfl rfl Try.func54 (by kernel_rfl) rfl #[.int .i64 2, .int .i64 a0_5] rfl (au3) ?_; (with_reducible refine (capstanref01_Put.calls k 2 a0_5 t181 t182 _ A46.out).mono ?_); rintro e w70 ⟨v183, rfl, ho0, hb⟩; refine ⟨_, rfl, ?_⟩; have n0_ := Aside0.mk (Kd.R_elder' (au94) (Kd.R_base ho0) hb); have n1_ := Aside0.mk (Kd.R_elder' (au65) (Kd.R_base ho0) hb); have n2_ := Aside0.mk (Kd.R_lower (Kd.R_new' (Kd.R_new' ho0 (Kd.R_lt (au94))) (Kd.R_lt (au65))) (below_size (au2))); have n3_ := Aside0.mk (blk_below (g := gb133) (o := .cells #[.slice A0_0 l0_0.length c0_0, .slice A0_1 l0_1.length c0_1, .int .u8 a0_2, .bool false, .int .i64 a0_4, .int .i64 a0_5, .int .i64 a0_6, .slice A0_7 l0_7.length c0_7] 25 (0, 0)) (au26) hb); have n4_ := Aside0.mk (below_step (au2) hb); clear HO176; clear HO180; clear BK133; clear HB; have HO176 := n0_; have HO180 := n1_; have HO184 := n2_; have BK133 := n3_; have HB := n4_; clear n0_ n1_ n2_ n3_ n4_; (try clear hb); (try clear hb2); (try clear hk); (try clear hi); (try clear ho0); obtain ⟨hcz71_0, hcz71_1, hcz71_2, hcz71_3, hcz71_4, hcz71_5, hcz71_6, hcz71_7, hfz71_0, hfz71_1, hfz71_2, hfz71_3, hfz71_4, hfz71_5, hfz71_6, hfz71_7⟩ := blk_all8 BK133.out) | ((with_reducible refine gate_callee (f := 54) rfl ?_); refine goesL_ (some 62) rfl rfl Try.func54 (by kernel_rfl) rfl #[.int .i64 2, .int .i64 a0_6] rfl (au3) ?_; (with_reducible refine (capstanref01_Put.calls k 2 a0_6 t185 t186 _ A47.out).mono ?_); rintro e w72 ⟨v187, rfl, ho0, hb⟩; refine ⟨_, rfl, ?_⟩; have n0_ := Aside0.mk (Kd.R_elder' (au94) (Kd.R_base ho0) hb); have n1_ := Aside0.mk (Kd.R_elder' (au65) (Kd.R_base ho0) hb); have n2_ := Aside0.mk (Kd.R_elder' (au82) (Kd.R_base ho0) hb); have n3_ := Aside0.mk (Kd.R_lower (Kd.R_new' (Kd.R_new' (Kd.R_new' ho0 (Kd.R_lt (au94))) (Kd.R_lt (au65))) (Kd.R_lt (au82))) (below_size (au2))); have n4_ := Aside0.mk (blk_below (g := gb133) (o := .cells #[.slice A0_0 l0_0.length c0_0, .slice A0_1 l0_1.length c0_1, .int .u8 a0_2, .bool false, .int .i64 a0_4, .int .i64 a0_5, .int .i64 a0_6, .slice A0_7 l0_7.length c0_7] 25 (0, 0)) (au26) hb); have n5_ := Aside0.mk (below_step (au2) hb); clear HO176; clear HO180; clear HO184; clear BK133; clear HB; have HO176 := n0_; have HO180 := n1_; have HO184 := n2_; have HO188 := n3_; have BK133 := n4_; have HB := n5_; clear n0_ n1_ n2_ n3_ n4_ n5_; (try clear hb); (try clear hb2); (try clear hk); (try clear hi); (try clear ho0); obtain ⟨Ao74, co74, eo74⟩ := Kd.R_slice HO180.out; subst eo74) | ((with_reducible refine gate_builtin (b := .append) (xs := #[.tmp 65, .tmp 66]) rfl ?_); at_builtin; refine Kd.R_append_rows (Kd.int .u8) (w0 := w) w.heap.size rfl (.tmp 65) (.tmp 66) 22 5 (.int .u8 0) 1 rfl Try.underlying22 info5 rfl (by decide) (by omega) v175 y174 t177 _ _ _ (fun k_ => some k_ ≠ (.slice Ao74 t177.length co74 : Value).ownBlock ∧ some k_ ≠ (v183 : Value).ownBlock ∧ some k_ ≠ (v187 : Value).ownBlock) (fun _ => False) rfl rfl ?aO ?aR (fun _ _ h => h) (fun _ h => h.elim) ?aF ?aB ?aS ?aL ?_; (case aR => repeat (first | exact (Kd.R_reads' HO180.out).2.2 | (with_reducible refine Kd.C_alloc ?_ _) | (with_reducible refine Kd.C_drewN ?_ _) | (with_reducible refine Kd.C_drew ?_))); (case aB => exact (au2)); (case aF => exact (fun k_ hk => ⟨Kd.fresh' (Kd.R_lt (au65)) k_ hk, Kd.fresh' (Kd.R_lt (au82)) k_ hk, Kd.fresh' (Kd.R_lt (au107)) k_ hk⟩)); (case aO => exact (by (with_reducible repeat (first | apply Kd.R_alloc | apply Kd.R_drewN | apply Kd.R_drew)); exact Kd.R_mono HO176.out (fun _ hk => ⟨hk.1.1.2, ⟨hk.1.2, hk.2⟩⟩))); (case aS => exact (below_size (au2))); (case aL => have := LMc48.out; omega); intro v190 w73 ho hb hg hat; rw [← Ny189.out] at ho; have n0_ := Aside0.mk (blk_grown (g := gb133) (o := .cells #[.slice A0_0 l0_0.length c0_0, .slice A0_1 l0_1.length c0_1, .int .u8 a0_2, .bool false, .int .i64 a0_4, .int .i64 a0_5, .int .i64 a0_6, .slice A0_7 l0_7.length c0_7] 25 (0, 0)) (au26) hg (Kd.R_ne HO176.out BK133.out (by decide))); have n1_ := Aside0.mk (Kd.R_after (ok := (fun k_ => some k_ ≠ (v183 : Value).ownBlock ∧ some k_ ≠ (v187 : Value).ownBlock)) (by (with_reducible repeat (first | apply Kd.R_alloc | apply Kd.R_drewN | apply Kd.R_drew)); exact Kd.R_mono HO180.out (fun _ hk => ⟨⟨hk.1.2, hk.2⟩, hk.1.1.2⟩)) hg hat); have n2_ := Aside0.mk (Kd.R_after (ok := (fun k_ => some k_ ≠ (.slice Ao74 t177.length co74 : Value).ownBlock ∧ some k_ ≠ (v187 : Value).ownBlock)) (by (with_reducible repeat (first | apply Kd.R_alloc | apply Kd.R_drewN | apply Kd.R_drew)); exact Kd.R_mono HO184.out (fun _ hk => ⟨⟨hk.1.2, hk.2⟩, hk.1.1.2⟩)) hg hat); have n3_ := Aside0.mk (Kd.R_after (ok := (fun k_ => some k_ ≠ (.slice Ao74 t177.length co74 : Value).ownBlock ∧ some k_ ≠ (v183 : Value).ownBlock)) (by (with_reducible repeat (first | apply Kd.R_alloc | apply Kd.R_drewN | apply Kd.R_drew)); exact Kd.R_mono HO188.out (fun _ hk => ⟨⟨hk.1.2, hk.2⟩, hk.1.1.2⟩)) hg hat); have n4_ := Aside0.mk (hb); have n5_ := Aside0.mk (ho); clear BK133; clear HO180; clear HO184; clear HO188; clear HB; clear HO176; have BK133 := n0_; have HO180 := n1_; have HO184 := n2_; have HO188 := n3_; have HB := n4_; have HO191 := n5_; clear n0_ n1_ n2_ n3_ n4_ n5_; clear ho hb hg hat; obtain ⟨Ao76, co76, eo76⟩ := Kd.R_slice HO184.out; subst eo76) | ((with_reducible refine gate_builtin (b := .append) (xs := #[.tmp 68, .tmp 69]) rfl ?_); at_builtin; refine Kd.R_append_rows (Kd.int .u8) (w0 := w) w.heap.size rfl (.tmp 68) (.tmp 69) 22 5 (.int .u8 0) 1 rfl Try.underlying22 info5 rfl (by decide) (by omega) v190 y189 t181 _ _ _ (fun k_ => some k_ ≠ (.slice Ao74 t177.length co74 : Value).ownBlock ∧ some k_ ≠ (.slice Ao76 t181.length co76 : Value).ownBlock ∧ some k_ ≠ (v187 : Value).ownBlock) (fun _ => False) rfl rfl ?aO ?aR (fun _ _ h => h) (fun _ h => h.elim) ?aF ?aB ?aS ?aL ?_; (case aR => repeat (first | exact (Kd.R_reads' HO184.out).2.2 | (with_reducible refine Kd.C_alloc ?_ _) | (with_reducible refine Kd.C_drewN ?_ _) | (with_reducible refine Kd.C_drew ?_))); (case aB => exact (au2)); (case aF => exact (fun k_ hk => ⟨Kd.fresh' (Kd.R_lt (au65)) k_ hk, Kd.fresh' (Kd.R_lt (au82)) k_ hk, Kd.fresh' (Kd.R_lt (au107)) k_ hk⟩)); (case aO => exact (by (with_reducible repeat (first | apply Kd.R_alloc | apply Kd.R_drewN | apply Kd.R_drew)); exact HO191.out)); (case aS => exact (below_size (au2))); (case aL => have := LMc49.out; omega); intro v193 w75 ho hb hg hat; rw [← Ny192.out] at ho; have n0_ := Aside0.mk (blk_grown (g := gb133) (o := .cells #[.slice A0_0 l0_0.length c0_0, .slice A0_1 l0_1.length c0_1, .int .u8 a0_2, .bool false, .int .i64 a0_4, .int .i64 a0_5, .int .i64 a0_6, .slice A0_7 l0_7.length c0_7] 25 (0, 0)) (au26) hg (Kd.R_ne HO191.out BK133.out (by decide))); have n1_ := Aside0.mk (Kd.R_after (ok := (fun k_ => some k_ ≠ (.slice Ao76 t181.length co76 : Value).ownBlock ∧ some k_ ≠ (v187 : Value).ownBlock)) (au65) hg hat); have n2_ := Aside0.mk (Kd.R_after (ok := (fun k_ => some k_ ≠ (.slice Ao74 t177.length co74 : Value).ownBlock ∧ some k_ ≠ (v187 : Value).ownBlock)) (au82) hg hat); have n3_ := Aside0.mk (Kd.R_after (ok := (fun k_ => some k_ ≠ (.slice Ao74 t177.length co74 : Value).ownBlock ∧ some k_ ≠ (.slice Ao76 t181.length co76 : Value).ownBlock)) (au107) hg hat); have n4_ := Aside0.mk (hb); have n5_ := Aside0.mk (ho); clear BK133; clear HO180; clear HO184; clear HO188; clear HB; clear HO191; have BK133 := n0_; have HO180 := n1_; have HO184 := n2_; have HO188 := n3_; have HB := n4_; have HO194 := n5_; clear n0_ n1_ n2_ n3_ n4_ n5_; clear ho hb hg hat; obtain ⟨Ao78, co78, eo78⟩ := Kd.R_slice HO188.out; subst eo78) | ((with_reducible refine gate_builtin (b := .append) (xs := #[.tmp 71, .tmp 72]) rfl ?_); at_builtin; refine Kd.R_append_rows (Kd.int .u8) (w0 := w) w.heap.size rfl (.tmp 71) (.tmp 72) 22 5 (.int .u8 0) 1 rfl Try.underlying22 info5 rfl (by decide) (by omega) v193 y192 t185 _ _ _ (fun k_ => some k_ ≠ (.slice Ao74 t177.length co74 : Value).ownBlock ∧ some k_ ≠ (.slice Ao76 t181.length co76 : Value).ownBlock ∧ some k_ ≠ (.slice Ao78 t185.length co78 : Value).ownBlock) (fun _ => False) rfl rfl ?aO ?aR (fun _ _ h => h) (fun _ h => h.elim) ?aF ?aB ?aS ?aL ?_; (case aR => repeat (first | exact (Kd.R_reads' HO188.out).2.2 | (with_reducible refine Kd.C_alloc ?_ _) | (with_reducible refine Kd.C_drewN ?_ _) | (with_reducible refine Kd.C_drew ?_))); (case aB => exact (au2)); (case aF => exact (fun k_ hk => ⟨Kd.fresh' (Kd.R_lt (au65)) k_ hk, Kd.fresh' (Kd.R_lt (au82)) k_ hk, Kd.fresh' (Kd.R_lt (au107)) k_ hk⟩)); (case aO => exact (by (with_reducible repeat (first | apply Kd.R_alloc | apply Kd.R_drewN | apply Kd.R_drew)); exact HO194.out)); (case aS => exact (below_size (au2))); (case aL => have := LMc50.out; omega); intro v196 w77 ho hb hg hat; rw [← Ny195.out] at ho; have n0_ := Aside0.mk (blk_grown (g := gb133) (o := .cells #[.slice A0_0 l0_0.length c0_0, .slice A0_1 l0_1.length c0_1, .int .u8 a0_2, .bool false, .int .i64 a0_4, .int .i64 a0_5, .int .i64 a0_6, .slice A0_7 l0_7.length c0_7] 25 (0, 0)) (au26) hg (Kd.R_ne HO194.out BK133.out (by decide))); have n1_ := Aside0.mk (Kd.R_after (ok := (fun k_ => some k_ ≠ (.slice Ao76 t181.length co76 : Value).ownBlock ∧ some k_ ≠ (.slice Ao78 t185.length co78 : Value).ownBlock)) (au65) hg hat); have n2_ := Aside0.mk (Kd.R_after (ok := (fun k_ => some k_ ≠ (.slice Ao74 t177.length co74 : Value).ownBlock ∧ some k_ ≠ (.slice Ao78 t185.length co78 : Value).ownBlock)) (au82) hg hat); have n3_ := Aside0.mk (Kd.R_after (ok := (fun k_ => some k_ ≠ (.slice Ao74 t177.length co74 : Value).ownBlock ∧ some k_ ≠ (.slice Ao76 t181.length co76 : Value).ownBlock)) (au107) hg hat); have n4_ := Aside0.mk (hb); have n5_ := Aside0.mk (ho); clear BK133; clear HO180; clear HO184; clear HO188; clear HB; clear HO194; have BK133 := n0_; have HO180 := n1_; have HO184 := n2_; have HO188 := n3_; have HB := n4_; have HO197 := n5_; clear n0_ n1_ n2_ n3_ n4_ n5_; clear ho hb hg hat))
           go_ret2
           exact ⟨_, au5, by (with_reducible repeat (first | apply Kd.R_alloc | apply Kd.R_drewN | apply Kd.R_drew)); exact Kd.R_mono HO197.out (fun _ hk => trivial), au2⟩
          ·
           rw [if_neg c50] at H
           exact absurd H (by simp)
         ·
          rw [if_neg c49] at H
          exact absurd H (by simp)
        ·
         rw [if_neg c48] at H
         exact absurd H (by simp)
       ·
        rw [if_neg c44] at H
        exact absurd H (by simp)
     ·
      rw [if_neg c7] at H
      exact absurd H (by simp)
    ·
     rw [if_neg c6] at H
     exact absurd H (by simp)
   ·
    rw [if_neg c5] at H
    exact absurd H (by simp)
  ·
   rw [if_neg c4] at H
   exact absurd H (by simp)
 ·
  replace c3 := Bool.eq_false_iff.mpr c3
  subst c3
  have H1 : (some (([] : List Int), 70)) = some (r1, r2) := by rw [if_neg (show ¬ (false = true) by decide)] at H; exact H
  clear H
  have H := H1
  clear H1
  simp only [Option.some.injEq, Prod.mk.injEq] at H
  obtain ⟨rfl, rfl⟩ := H
  go_enter Try.func24, Try.ntmps24
  go_wp2_with (first | ((with_reducible refine gate_dst (N := 1) rfl ?_); refine box_event ?hg (N := 1) ?hd (cs := #[.slice A0_0 l0_0.length c0_0, .slice A0_1 l0_1.length c0_1, .int .u8 a0_2, .bool a0_3, .int .i64 a0_4, .int .i64 a0_5, .int .i64 a0_6, .slice A0_7 l0_7.length c0_7]) (t := 25) ?hr ?_; (case hd => rfl); (case hg => rfl); (case hr => first | (go_simp; done) | (go_simp; rfl)); intro gb133 hg w79 hbox hb; have n0_ := Aside0.mk (below_step (au1) hb); have n1_ := Aside0.mk (hbox); have n2_ := Aside0.mk ((au24 : w.heap.size ≤ gb133)); have n3_ := Aside0.mk ((au24 : w.heap.size ≤ gb133)); clear HB; have HB := n0_; have BK133 := n1_; have GW133 := n2_; have GE133 := n3_; clear n0_ n1_ n2_ n3_; clear hb hbox hg; obtain ⟨hcz80_0, hcz80_1, hcz80_2, hcz80_3, hcz80_4, hcz80_5, hcz80_6, hcz80_7, hfz80_0, hfz80_1, hfz80_2, hfz80_3, hfz80_4, hfz80_5, hfz80_6, hfz80_7⟩ := blk_all8 BK133.out) | ((with_reducible refine gate_callee (f := 26) rfl ?_); refine goesL_ (some 12) rfl rfl Try.func26 (by kernel_rfl) rfl #[.agg #[.slice A0_0 l0_0.length c0_0, .slice A0_1 l0_1.length c0_1, .int .u8 a0_2, .bool a0_3, .int .i64 a0_4, .int .i64 a0_5, .int .i64 a0_6, .slice A0_7 l0_7.length c0_7]] rfl (au3) ?_; (with_reducible refine (capstanref07_May.calls k _ _ l0_0 _ _ l0_1 a0_2 a0_3 a0_4 a0_5 a0_6 _ _ l0_7 false _ ?side1 ?side2 ?side3 ?side4 ?side5 ?side6 A2.out).mono ?_); (case side1 => exact au6); (case side2 => exact HC0_0.out); (case side3 => exact au15); (case side4 => exact HC0_1.out); (case side5 => exact au16); (case side6 => exact HC0_7.out); rintro e w81 ⟨rfl, hb⟩; refine ⟨_, rfl, ?_⟩; have n0_ := Aside0.mk (blk_below (g := gb133) (o := .cells #[.slice A0_0 l0_0.length c0_0, .slice A0_1 l0_1.length c0_1, .int .u8 a0_2, .bool a0_3, .int .i64 a0_4, .int .i64 a0_5, .int .i64 a0_6, .slice A0_7 l0_7.length c0_7] 25 (0, 0)) (au26) hb); have n1_ := Aside0.mk (below_step (au2) hb); clear BK133; clear HB; have BK133 := n0_; have HB := n1_; clear n0_ n1_; (try clear hb); (try clear hb2); (try clear hk); (try clear hi)))
  go_ret2
  exact ⟨_, au5, au40, au2⟩

/-! ### slices_Grow_uint8_uint8: function 76 -/
/-- Room for n bytes, from nothing. -/
def slices_Grow_uint8_uint8.f (n : Int) : Option (List Int) := if 0 ≤ n ∧ n < 140737488355328 then some [] else none
set_option maxHeartbeats 8000000 in
set_option maxRecDepth 100000 in
theorem slices_Grow_uint8_uint8.calls  (a1 : Int) (r : List Int) (w : World) (h : slices_Grow_uint8_uint8.f a1 = some r) :
    Calls Try.prog 76 #[.slice none 0 0, .int .i64 a1] w fun e w' => ∃ v0_ : Value, e = .returned (v0_) ∧ Kd.R (Kd.int .u8) 5 w' w.heap.size (fun _ => True) v0_ r ∧ Below w.heap.size w w' := by
  have hl : 0 ≤ a1 ∧ a1 < 140737488355328 := by
    by_cases c : 0 ≤ a1 ∧ a1 < 140737488355328
    · exact c
    · simp [slices_Grow_uint8_uint8.f, c] at h
  simp only [slices_Grow_uint8_uint8.f, if_pos hl, Option.some.injEq] at h
  obtain rfl := h
  have HB := Aside0.mk (Below.refl w.heap.size w)
  have h1 : ¬ (a1 < 0) := by omega
  have h2 : wrap64 ((0 : Int) - 0) = 0 := by unfold wrap64; omega
  have h3 : wrap64 a1 = a1 := by unfold wrap64; omega
  by_cases c0 : a1 = 0
  · subst c0
    go_enter Try.func76, Try.ntmps76
    go_wp2
    go_ret
    exact ⟨_, rfl, Kd.R_nil _ _ _ _ _, HB.out⟩
  · have h4 : a1 > 0 := by omega
    go_enter Try.func76, Try.ntmps76
    go_wp2_with (first | ((with_reducible refine gate_builtin (b := .append) (xs := #[.tmp 20, .tmp 21]) rfl ?_); at_builtin; refine Kd.R_append_zeros (Kd.int .u8) (w0 := w) w.heap.size rfl (.tmp 20) (.tmp 21) 22 3 5 (.int .u8 0) 1 rfl Try.underlying22 Try.underlying3 info5 rfl (by decide) (by omega) (.slice none 0 0) ([] : List Int) 0 a1 (fun _ => True) rfl rfl rfl (fun _ _ => trivial) (Kd.R_nil _ _ _ _ _) (by omega) HB.out (Nat.le_refl _) (by simp; omega) ?_; intro v1 w1 ho hb hg hat; obtain ⟨A1, c1, e1⟩ := Kd.R_slice ho; subst e1; have HO := Aside0.mk ho; have HB1 := Aside0.mk hb; obtain ⟨i0, hi0, _, hsz, _⟩ := info_parts info5; have hcut := cut_to (P := Try.prog) 22 5 .i64 Try.underlying22 hi0 A1 _ c1 0 (by omega) (by omega) (Kd.R_reads' ho).2.1; clear ho hb hg hat))
    go_ret
    exact ⟨_, rfl, Kd.R_take (m := 0) HO.out (Nat.zero_le _), HB1.out⟩

/-! ### slices_Concat_uint8_uint8: function 64 -/
mutual
def slices_Concat_uint8_uint8.l0 : Nat → List (List Int) → Int → List (List Int) → Int → Int → Option (List Int)
 | 0, _, _, _, _, _ => none
 | k + 1, x0, x3, x9, x10, x11 => if x11 < x10 then (if 0 ≤ x11 then (if x11 < (x9.length : Int) then (if (wrap64 (x3 + ((rd_L4 x9 x11).length : Int))) < 0 then (none) else (slices_Concat_uint8_uint8.l0 k x0 (wrap64 (x3 + ((rd_L4 x9 x11).length : Int))) x9 x10 (wrap64 (x11 + 1)))) else (none)) else (none)) else ((slices_Grow_uint8_uint8.f x3).bind fun t199 => (slices_Concat_uint8_uint8.l1 k t199 x0 (x0.length : Int) 0))
def slices_Concat_uint8_uint8.l1 : Nat → List Int → List (List Int) → Int → Int → Option (List Int)
 | 0, _, _, _, _ => none
 | k + 1, x6, x25, x26, x27 => if x27 < x26 then (if 0 ≤ x27 then (if x27 < (x25.length : Int) then (if x6.length + (rd_L4 x25 x27).length < 140737488355328 then (slices_Concat_uint8_uint8.l1 k (x6 ++ (rd_L4 x25 x27)) x25 x26 (wrap64 (x27 + 1))) else (none)) else (none)) else (none)) else (some x6)
end
def slices_Concat_uint8_uint8.f (k : Nat) (l0 : List (List Int)) : Option (List Int) := slices_Concat_uint8_uint8.l0 k l0 0 l0 (l0.length : Int) 0
theorem slices_Concat_uint8_uint8.mono_l : ∀ k, (∀ y0 y1 y2 y3 y4, LeO (slices_Concat_uint8_uint8.l0 k y0 y1 y2 y3 y4) (slices_Concat_uint8_uint8.l0 (k + 1) y0 y1 y2 y3 y4)) ∧ (∀ y0 y1 y2 y3, LeO (slices_Concat_uint8_uint8.l1 k y0 y1 y2 y3) (slices_Concat_uint8_uint8.l1 (k + 1) y0 y1 y2 y3))
 | 0 => ⟨fun _ _ _ _ _ r h => by simp [slices_Concat_uint8_uint8.l0] at h, fun _ _ _ _ r h => by simp [slices_Concat_uint8_uint8.l1] at h⟩
 | k + 1 => by
  obtain ⟨ih0, ih1⟩ := slices_Concat_uint8_uint8.mono_l k
  refine ⟨?_, ?_⟩
  ·
   intro y0 y1 y2 y3 y4
   unfold slices_Concat_uint8_uint8.l0
   repeat' first
   | (with_reducible exact ih0 _ _ _ _ _)
   | (with_reducible exact ih1 _ _ _ _)
   | (with_reducible exact LeO.refl _)
   | (with_reducible exact LeO.none _)
   | (with_reducible refine LeO.ite ?_ ?_)
   | (with_reducible refine LeO.bind ?_ (fun _ => ?_))
   | exact ih0 _ _ _ _ _
   | exact ih1 _ _ _ _
   | exact LeO.none _
   | refine LeO.ite ?_ ?_
   | refine LeO.bind ?_ (fun _ => ?_)
  ·
   intro y0 y1 y2 y3
   unfold slices_Concat_uint8_uint8.l1
   repeat' first
   | (with_reducible exact ih0 _ _ _ _ _)
   | (with_reducible exact ih1 _ _ _ _)
   | (with_reducible exact LeO.refl _)
   | (with_reducible exact LeO.none _)
   | (with_reducible refine LeO.ite ?_ ?_)
   | (with_reducible refine LeO.bind ?_ (fun _ => ?_))
   | exact ih0 _ _ _ _ _
   | exact ih1 _ _ _ _
   | exact LeO.none _
   | refine LeO.ite ?_ ?_
   | refine LeO.bind ?_ (fun _ => ?_)
theorem slices_Concat_uint8_uint8.mono : ∀ a0 k, LeO (slices_Concat_uint8_uint8.f k a0) (slices_Concat_uint8_uint8.f (k + 1) a0) := by
 intro a0 k
 obtain ⟨ih0, ih1⟩ := slices_Concat_uint8_uint8.mono_l k
 unfold slices_Concat_uint8_uint8.f
 repeat' first
   | (with_reducible exact ih0 _ _ _ _ _)
   | (with_reducible exact ih1 _ _ _ _)
   | (with_reducible exact LeO.refl _)
   | (with_reducible exact LeO.none _)
   | (with_reducible refine LeO.ite ?_ ?_)
   | (with_reducible refine LeO.bind ?_ (fun _ => ?_))
   | exact ih0 _ _ _ _ _
   | exact ih1 _ _ _ _
   | exact LeO.none _
   | refine LeO.ite ?_ ?_
   | refine LeO.bind ?_ (fun _ => ?_)
set_option maxHeartbeats 8000000 in
set_option maxRecDepth 100000 in
theorem slices_Concat_uint8_uint8.calls (k : Nat) (A0 : Option Addr) (c0 : Nat) (l0 : List (List Int)) (r : List Int) (w : World) (hr0 : Kd.C (Kd.slice 5 (Kd.int .u8)) w A0 l0.length l0) (hc0 : l0.length ≤ c0) (h : slices_Concat_uint8_uint8.f k l0 = some r) :
  Calls Try.prog 64 #[.slice A0 l0.length c0] w fun e w' => ∃ v0_ : Value, e = .returned (v0_) ∧ Kd.R (Kd.int .u8) 5 w' w.heap.size (fun _ => True) v0_ r ∧ Below w.heap.size w w' := by
 have HR0 := Aside0.mk hr0
 have HC0 := Aside0.mk hc0
 clear hr0 hc0
 have HB := Aside0.mk (Below.refl w.heap.size w)
 have H : (slices_Concat_uint8_uint8.l0 k l0 0 l0 (l0.length : Int) 0) = some r := h
 clear h
 have H' := Aside0.mk H
 clear H
 go_enter Try.func64, Try.ntmps64
 go_wp2
 go_loopg [3, 11] k (fun kq v3 v11 w' => ∃ (x3_1 : Int) (x11_1 : Int), v3 = .int .i64 x3_1 ∧ v11 = .int .i64 x11_1 ∧ Aside0 (slices_Concat_uint8_uint8.l0 kq l0 x3_1 l0 (l0.length : Int) x11_1 = some r) ∧ Aside0 (kq ≤ k) ∧ Aside0 (Below w.heap.size w w'))
 case atStart => exact ⟨(0), (0), (au19), (au19), H', ⟨Nat.le_refl _⟩, ⟨au1⟩⟩
 case round =>
  clear H'
  obtain ⟨x3_1, x11_1, rfl, rfl, HA, HK1, HB⟩ := hrel
  cases gk with
  | zero => exact absurd HA.out (by simp [slices_Concat_uint8_uint8.l0])
  | succ k1 =>
   have H := HA.out
   clear HA
   simp only [slices_Concat_uint8_uint8.l0] at H
   by_cases c2 : x11_1 < (l0.length : Int)
   ·
    rw [if_pos c2] at H
    have c2b0 : decide (x11_1 < (l0.length : Int)) = true := decide_eq_true c2
    clear c2
    by_cases c3 : 0 ≤ x11_1
    ·
     rw [if_pos c3] at H
     have c3b0 : decide (0 ≤ x11_1) = true := decide_eq_true c3
     clear c3
     by_cases c4 : x11_1 < (l0.length : Int)
     ·
      rw [if_pos c4] at H
      have c4b0 : decide (x11_1 < (l0.length : Int)) = true := decide_eq_true c4
      clear c4
      by_cases c5 : (wrap64 (x3_1 + ((rd_L4 l0 x11_1).length : Int))) < 0
      ·
       rw [if_pos c5] at H
       exact absurd H (by simp)
      ·
       rw [if_neg c5] at H
       have c5b0 : decide ((wrap64 (x3_1 + ((rd_L4 l0 x11_1).length : Int))) < 0) = false := decide_eq_false c5
       clear c5
       have H' := Aside0.mk H
       clear H
       have p198 : 0 ≤ (x11_1 : Int) := of_decide_eq_true (au8)
       have q198 : x11_1 < (l0.length : Int) := of_decide_eq_true (au8)
       obtain ⟨ad198, A198_0, c198_0, e198, hx198_0, hl198_0, hi198_0⟩ := at_L4 HR0.out x11_1 p198 q198
       cases e198
       replace hx198_0 := (HB.out.cell (World.block_lt_of_cell? w _ hx198_0)).trans hx198_0
       have HR198_0 := Aside0.mk hi198_0
       have HC198_0 := Aside0.mk hl198_0
       clear hi198_0 hl198_0
       replace p198 := eq_true p198
       replace q198 := eq_true q198
       go_wp2
       go_roundg k1
       case measure => have := HK1.out; omega
       case rel => exact ⟨(wrap64 (x3_1 + ((rd_L4 l0 x11_1).length : Int))), (wrap64 (x11_1 + 1)), (au19), (au19), H', ⟨by have := HK1.out; omega⟩, ⟨au1⟩⟩
     ·
      rw [if_neg c4] at H
      exact absurd H (by simp)
    ·
     rw [if_neg c3] at H
     exact absurd H (by simp)
   ·
    rw [if_neg c2] at H
    have c2b0 : decide (x11_1 < (l0.length : Int)) = false := decide_eq_false c2
    clear c2
    replace H := Option.bind_eq_some_iff.mp H
    obtain ⟨t199, A60, H⟩ := H
    replace H : (slices_Concat_uint8_uint8.l1 k1 t199 l0 (l0.length : Int) 0) = some r := H
    have A6 := Aside0.mk A60
    clear A60
    have H' := Aside0.mk H
    clear H
    go_wp2_with (first | ((with_reducible refine gate_callee (f := 76) rfl ?_); refine goesL_ (some 24) rfl rfl Try.func76 (by kernel_rfl) rfl #[.slice none 0 0, .int .i64 x3_1] rfl (au3) ?_; (with_reducible refine (slices_Grow_uint8_uint8.calls  x3_1 t199 _ A6.out).mono ?_); rintro e w7 ⟨v200, rfl, ho0, hb⟩; refine ⟨_, rfl, ?_⟩; have n0_ := Aside0.mk (Kd.R_lower ho0 (below_size (au1))); have n1_ := Aside0.mk (below_step (au1) hb); clear HB; have HO201 := n0_; have HB := n1_; clear n0_ n1_; (try clear hb); (try clear hb2); (try clear hk); (try clear hi); (try clear ho0)))
    go_loopg [6, 27] k1 (fun kq v6 v27 w' => ∃ (x6_2 : List Int) (x27_2 : Int), v27 = .int .i64 x27_2 ∧ Aside0 (slices_Concat_uint8_uint8.l1 kq x6_2 l0 (l0.length : Int) x27_2 = some r) ∧ Aside0 (kq ≤ k1) ∧ Aside0 (Kd.R (Kd.int .u8) 5 w' w.heap.size (fun _ => True) v6 x6_2) ∧ Aside0 (Below w.heap.size w w'))
    case atStart => exact ⟨(t199), (0), (au19), H', ⟨Nat.le_refl _⟩, ⟨by (with_reducible repeat (first | apply Kd.R_alloc | apply Kd.R_drewN | apply Kd.R_drew)); exact HO201.out⟩, ⟨au1⟩⟩
    case round =>
     clear H'
     try clear c1
     try clear p1
     try clear q1
     try clear hx1
     try clear c2
     try clear c2b0
     try clear p2
     try clear c3
     try clear c3b0
     try clear c4
     try clear c4b0
     try clear c5
     try clear c5b0
     try clear c6
     try clear p6
     try clear c7
     try clear hx198_0
     try clear p198
     try clear q198
     obtain ⟨x6_2, x27_2, rfl, HA, HK2, HO_6, HB⟩ := hrel
     cases gk with
     | zero => exact absurd HA.out (by simp [slices_Concat_uint8_uint8.l1])
     | succ k2 =>
      have H := HA.out
      clear HA
      simp only [slices_Concat_uint8_uint8.l1] at H
      by_cases c8 : x27_2 < (l0.length : Int)
      ·
       rw [if_pos c8] at H
       have c8b0 : decide (x27_2 < (l0.length : Int)) = true := decide_eq_true c8
       clear c8
       by_cases c9 : 0 ≤ x27_2
       ·
        rw [if_pos c9] at H
        have c9b0 : decide (0 ≤ x27_2) = true := decide_eq_true c9
        clear c9
        by_cases c10 : x27_2 < (l0.length : Int)
        ·
         rw [if_pos c10] at H
         have c10b0 : decide (x27_2 < (l0.length : Int)) = true := decide_eq_true c10
         clear c10
         by_cases c11 : x6_2.length + (rd_L4 l0 x27_2).length < 140737488355328
         ·
          rw [if_pos c11] at H
          have LMc11 := Aside0.mk c11
          clear c11
          obtain ⟨y203, hy203⟩ : ∃ y_ : List Int, y_ = (x6_2 ++ (rd_L4 l0 x27_2)) := ⟨_, rfl⟩
          replace H : (slices_Concat_uint8_uint8.l1 k2 y203 l0 (l0.length : Int) (wrap64 (x27_2 + 1))) = some r := by first | (rw [hy203]; with_reducible exact H) | (have H2_ := (Option.bind_some _ _).symm.trans H; rw [hy203]; with_reducible exact H2_) | (have H2_ := (Option.bind_some _ _).symm.trans H; with_reducible exact H2_) | with_reducible exact H | (rw [hy203]; exact H) | exact H
          have Ny203 := Aside0.mk hy203
          clear hy203
          have H' := Aside0.mk H
          clear H
          have p202 : 0 ≤ (x27_2 : Int) := of_decide_eq_true (au8)
          have q202 : x27_2 < (l0.length : Int) := of_decide_eq_true (au8)
          obtain ⟨ad202, A202_0, c202_0, e202, hx202_0, hl202_0, hi202_0⟩ := at_L4 HR0.out x27_2 p202 q202
          cases e202
          replace hx202_0 := (HB.out.cell (World.block_lt_of_cell? w _ hx202_0)).trans hx202_0
          have HR202_0 := Aside0.mk hi202_0
          have HC202_0 := Aside0.mk hl202_0
          clear hi202_0 hl202_0
          replace p202 := eq_true p202
          replace q202 := eq_true q202
          go_wp2_with (first | ((with_reducible refine gate_builtin (b := .append) (xs := #[.tmp 31, .tmp 32]) rfl ?_); at_builtin; refine Kd.R_append_rows (Kd.int .u8) (w0 := w) w.heap.size rfl (.tmp 31) (.tmp 32) 22 5 (.int .u8 0) 1 rfl Try.underlying22 info5 rfl (by decide) (by omega) u6 x6_2 (rd_L4 l0 x27_2) _ _ _ (fun _ => True) (fun _ => False) rfl rfl ?aO ?aR (fun _ _ h => h) (fun _ h => h.elim) ?aF ?aB ?aS ?aL ?_; (case aR => repeat (first | exact (Kd.C_below HR202_0.out HB.out) | (with_reducible refine Kd.C_alloc ?_ _) | (with_reducible refine Kd.C_drewN ?_ _) | (with_reducible refine Kd.C_drew ?_))); (case aB => exact (au1)); (case aF => exact (fun _ _ => trivial)); (case aO => exact (au117)); (case aS => exact (below_size (au1))); (case aL => have := LMc11.out; omega); intro v204 w12 ho hb hg hat; rw [← Ny203.out] at ho; have n0_ := Aside0.mk (hb); have n1_ := Aside0.mk (ho); clear HB; clear HO_6; have HB := n0_; have HO205 := n1_; clear n0_ n1_; clear ho hb hg hat))
          go_roundg k2
          case measure => have := HK1.out; have := HK2.out; omega
          case rel => exact ⟨(y203), (wrap64 (x27_2 + 1)), (au19), H', ⟨by have := HK1.out; have := HK2.out; omega⟩, ⟨by (with_reducible repeat (first | apply Kd.R_alloc | apply Kd.R_drewN | apply Kd.R_drew)); exact HO205.out⟩, ⟨au1⟩⟩
         ·
          rw [if_neg c11] at H
          exact absurd H (by simp)
        ·
         rw [if_neg c10] at H
         exact absurd H (by simp)
       ·
        rw [if_neg c9] at H
        exact absurd H (by simp)
      ·
       rw [if_neg c8] at H
       have c8b0 : decide (x27_2 < (l0.length : Int)) = false := decide_eq_false c8
       clear c8
       obtain rfl := Option.some.inj H
       go_wp2
       go_ret
       exact ⟨_, au5, au117, au1⟩

/-! ### method_Kinds: function 33 -/
def method_Kinds.f (k : Nat) (l0_0 : List Int) (l0_1 : List Int) (a0_2 : Int) (a0_3 : Bool) (a0_4 : Int) (a0_5 : Int) (a0_6 : Int) (l0_7 : List (S130)) : Option (List Int) := (slices_Concat_uint8_uint8.f k (([l0_0, l0_1] : List (List Int)))).bind fun t210 => (some t210)
theorem method_Kinds.mono : ∀ a0 a1 a2 a3 a4 a5 a6 a7 k, LeO (method_Kinds.f k a0 a1 a2 a3 a4 a5 a6 a7) (method_Kinds.f (k + 1) a0 a1 a2 a3 a4 a5 a6 a7) := by
 intro a0 a1 a2 a3 a4 a5 a6 a7 k
 unfold method_Kinds.f
 repeat' first
   | (with_reducible exact slices_Concat_uint8_uint8.mono _ _)
   | (with_reducible exact LeO.refl _)
   | (with_reducible exact LeO.none _)
   | (with_reducible refine LeO.ite ?_ ?_)
   | (with_reducible refine LeO.bind ?_ (fun _ => ?_))
   | exact slices_Concat_uint8_uint8.mono _ _
   | exact LeO.none _
   | refine LeO.ite ?_ ?_
   | refine LeO.bind ?_ (fun _ => ?_)
set_option maxHeartbeats 8000000 in
set_option maxRecDepth 100000 in
theorem method_Kinds.calls (k : Nat) (P0_0_ : Nat → Prop) (A0_0 : Option Addr) (c0_0 : Nat) (l0_0 : List Int) (P0_1_ : Nat → Prop) (A0_1 : Option Addr) (c0_1 : Nat) (l0_1 : List Int) (a0_2 : Int) (a0_3 : Bool) (a0_4 : Int) (a0_5 : Int) (a0_6 : Int) (A0_7 : Option Addr) (c0_7 : Nat) (l0_7 : List (S130)) (r : List Int) (w : World) (hs0_0 : Kd.V (Kd.int .u8) 5 w w.heap.size (fun k_ => P0_0_ k_) (.slice A0_0 l0_0.length c0_0) l0_0) (hs0_1 : Kd.V (Kd.int .u8) 5 w w.heap.size (fun k_ => P0_1_ k_) (.slice A0_1 l0_1.length c0_1) l0_1) (hr0_7 : Kd.C k130 w A0_7 l0_7.length l0_7) (hc0_7 : l0_7.length ≤ c0_7) (h : method_Kinds.f k l0_0 l0_1 a0_2 a0_3 a0_4 a0_5 a0_6 l0_7 = some r) :
  Calls Try.prog 33 #[.agg #[.slice A0_0 l0_0.length c0_0, .slice A0_1 l0_1.length c0_1, .int .u8 a0_2, .bool a0_3, .int .i64 a0_4, .int .i64 a0_5, .int .i64 a0_6, .slice A0_7 l0_7.length c0_7]] w fun e w' => ∃ v0_ : Value, e = .returned (v0_) ∧ Kd.R (Kd.int .u8) 5 w' w.heap.size (fun k_ => (w.heap.size ≤ k_)) v0_ r ∧ Below w.heap.size w w' := by
 have hu25 := Try.underlying25
 have HO0_0 := Aside0.mk (show Kd.V (Kd.int .u8) 5 w w.heap.size (fun k_ => ((P0_0_ k_ ∨ P0_1_ k_) ∨ w.heap.size ≤ k_)) (.slice A0_0 l0_0.length c0_0) l0_0 from Kd.V_mono hs0_0 (fun k_ hk => .inl (.inl hk)))
 have HO0_1 := Aside0.mk (show Kd.V (Kd.int .u8) 5 w w.heap.size (fun k_ => ((P0_0_ k_ ∨ P0_1_ k_) ∨ w.heap.size ≤ k_)) (.slice A0_1 l0_1.length c0_1) l0_1 from Kd.V_mono hs0_1 (fun k_ hk => .inl (.inr hk)))
 have HR0_7 := Aside0.mk hr0_7
 have HC0_7 := Aside0.mk hc0_7
 clear hr0_7 hc0_7
 have HB := Aside0.mk (Below.refl w.heap.size w)
 have H : ((slices_Concat_uint8_uint8.f k (([l0_0, l0_1] : List (List Int)))).bind fun t210 => (some t210)) = some r := h
 clear h
 obtain ⟨y207, hy207⟩ : ∃ y_ : List (List Int), y_ = (([l0_0, l0_1] : List (List Int))) := ⟨_, rfl⟩
 replace H : ((slices_Concat_uint8_uint8.f k y207).bind fun t210 => (some t210)) = some r := by first | (rw [hy207]; with_reducible exact H) | (have H2_ := (Option.bind_some _ _).symm.trans H; rw [hy207]; with_reducible exact H2_) | (have H2_ := (Option.bind_some _ _).symm.trans H; with_reducible exact H2_) | with_reducible exact H | (rw [hy207]; exact H) | exact H
 have Ny207 := Aside0.mk hy207
 clear hy207
 replace H := Option.bind_eq_some_iff.mp H
 obtain ⟨t210, A20, H⟩ := H
 replace H : (some t210) = some r := H
 have A2 := Aside0.mk A20
 clear A20
 obtain rfl := Option.some.inj H
 go_enter Try.func33, Try.ntmps33
 go_wp2_with (first | ((with_reducible refine gate_dst (N := 1) rfl ?_); refine box_event ?hg (N := 1) ?hd (cs := #[.slice A0_0 l0_0.length c0_0, .slice A0_1 l0_1.length c0_1, .int .u8 a0_2, .bool a0_3, .int .i64 a0_4, .int .i64 a0_5, .int .i64 a0_6, .slice A0_7 l0_7.length c0_7]) (t := 25) ?hr ?_; (case hd => rfl); (case hg => rfl); (case hr => first | (go_simp; done) | (go_simp; rfl)); intro gb206 hg w3 hbox hb; have n0_ := Aside0.mk (Kd.V_below (Kd.V_elderB (by (with_reducible repeat (first | apply Kd.V_alloc | apply Kd.V_drewN | apply Kd.V_drew)); exact HO0_0.out) gb206 (Nat.le_of_eq hg.symm)) hb); have n1_ := Aside0.mk (Kd.V_below (Kd.V_elderB (by (with_reducible repeat (first | apply Kd.V_alloc | apply Kd.V_drewN | apply Kd.V_drew)); exact HO0_1.out) gb206 (Nat.le_of_eq hg.symm)) hb); have n2_ := Aside0.mk (below_step (au1) hb); have n3_ := Aside0.mk (hbox); have n4_ := Aside0.mk ((au24 : w.heap.size ≤ gb206)); have n5_ := Aside0.mk ((au24 : w.heap.size ≤ gb206)); clear HO0_0; clear HO0_1; clear HB; have HO0_0 := n0_; have HO0_1 := n1_; have HB := n2_; have BK206 := n3_; have GW206 := n4_; have GE206 := n5_; clear n0_ n1_ n2_ n3_ n4_ n5_; clear hb hbox hg; obtain ⟨hcz4_0, hcz4_1, hcz4_2, hcz4_3, hcz4_4, hcz4_5, hcz4_6, hcz4_7, hfz4_0, hfz4_1, hfz4_2, hfz4_3, hfz4_4, hfz4_5, hfz4_6, hfz4_7⟩ := blk_all8 BK206.out) | ((with_reducible refine gate_dst (N := 7) rfl ?_); refine Kd.N_lit (Kd.slice 5 (Kd.int .u8)) _ 22 ?hg (N' := 7) ?hd (xs := ([l0_0, l0_1] : List (List Int))) (inner := [.slice A0_0 l0_0.length c0_0, .slice A0_1 l0_1.length c0_1]) (ok := (fun k_ => ((P0_0_ k_ ∨ P0_1_ k_) ∨ w.heap.size ≤ k_) ∧ k_ ≠ gb206)) (okp := (fun k_ => ((P0_0_ k_ ∨ P0_1_ k_) ∨ w.heap.size ≤ k_) ∧ k_ ≠ gb206)) ?hr ?hp (fun _ hk => hk) ((show ∀ k_, w3.heap.size ≤ k_ → (fun k_ => ((P0_0_ k_ ∨ P0_1_ k_) ∨ w.heap.size ≤ k_) ∧ k_ ≠ gb206) k_ from fun k_ hk => ⟨(.inr (Nat.le_trans (below_size (au44)) hk)), Kd.freshB (g := gb206) (o := .cells #[.slice A0_0 l0_0.length c0_0, .slice A0_1 l0_1.length c0_1, .int .u8 a0_2, .bool a0_3, .int .i64 a0_4, .int .i64 a0_5, .int .i64 a0_6, .slice A0_7 l0_7.length c0_7] 25 (0, 0)) (by (with_reducible repeat (first | refine blk_drewN ?_ _ | refine blk_drew ?_ | refine blk_alloc ?_ _)); exact BK206.out) k_ hk⟩) _ (Nat.le_refl _)) (Below.refl _ _) (Nat.le_refl _) (by simp) ?_; (case hd => rfl); (case hg => rfl); (case hr => first | (go_simp; done) | (go_simp; rfl)); (case hp => exact (Reps.one (show Kd.FK (Kd.slice 5 (Kd.int .u8)) _ _ l0_0 [.slice A0_0 l0_0.length c0_0] from (Kd.FK_slice_mk (Kd.V_reads' (Kd.V_mono (ok' := (fun k_ => ((P0_0_ k_ ∨ P0_1_ k_) ∨ w.heap.size ≤ k_) ∧ k_ ≠ gb206)) (HO0_0.out) (fun k_ hk => ⟨hk.1, hk.2⟩))).2.1 (Kd.V_F (Kd.V_mono (ok' := (fun k_ => ((P0_0_ k_ ∨ P0_1_ k_) ∨ w.heap.size ≤ k_) ∧ k_ ≠ gb206)) (HO0_0.out) (fun k_ hk => ⟨hk.1, hk.2⟩))))) (Reps.one (show Kd.FK (Kd.slice 5 (Kd.int .u8)) _ _ l0_1 [.slice A0_1 l0_1.length c0_1] from (Kd.FK_slice_mk (Kd.V_reads' (Kd.V_mono (ok' := (fun k_ => ((P0_0_ k_ ∨ P0_1_ k_) ∨ w.heap.size ≤ k_) ∧ k_ ≠ gb206)) (HO0_1.out) (fun k_ hk => ⟨hk.1, hk.2⟩))).2.1 (Kd.V_F (Kd.V_mono (ok' := (fun k_ => ((P0_0_ k_ ∨ P0_1_ k_) ∨ w.heap.size ≤ k_) ∧ k_ ≠ gb206)) (HO0_1.out) (fun k_ hk => ⟨hk.1, hk.2⟩))))) (Reps.none _ _)))); intro v208 w5 ho6 hb hg_ hnew_; clear hg_ hnew_; (first | rw [← Ny207.out] at ho6 | (simp only [Int.reduceToNat] at ho6; rw [← Ny207.out] at ho6)); have n0_ := Aside0.mk (Kd.V_elder' (by (with_reducible repeat (first | apply Kd.V_alloc | apply Kd.V_drewN | apply Kd.V_drew)); exact HO0_0.out) (Kd.N_base ho6) hb); have n1_ := Aside0.mk (Kd.V_elder' (by (with_reducible repeat (first | apply Kd.V_alloc | apply Kd.V_drewN | apply Kd.V_drew)); exact HO0_1.out) (Kd.N_base ho6) hb); have n2_ := Aside0.mk (Kd.N_lower ho6 (below_size (au44))); have n3_ := Aside0.mk (blk_below (g := gb206) (o := .cells #[.slice A0_0 l0_0.length c0_0, .slice A0_1 l0_1.length c0_1, .int .u8 a0_2, .bool a0_3, .int .i64 a0_4, .int .i64 a0_5, .int .i64 a0_6, .slice A0_7 l0_7.length c0_7] 25 (0, 0)) (by (with_reducible repeat (first | refine blk_drewN ?_ _ | refine blk_drew ?_ | refine blk_alloc ?_ _)); exact BK206.out) hb); have n4_ := Aside0.mk (below_step (au44) hb); clear HO0_0; clear HO0_1; clear BK206; clear HB; have HO0_0 := n0_; have HO0_1 := n1_; have HO209 := n2_; have BK206 := n3_; have HB := n4_; clear n0_ n1_ n2_ n3_ n4_; clear hb ho6; obtain ⟨Ao7, co7, eo7⟩ := Kd.N_slice HO209.out; subst eo7) | ((with_reducible refine gate_callee (f := 64) rfl ?_); refine goesL_ (some 8) rfl rfl Try.func64 (by kernel_rfl) rfl #[.slice Ao7 y207.length co7] rfl (au3) ?_; (with_reducible refine (slices_Concat_uint8_uint8.calls k _ _ y207 t210 _ ?side1 ?side2 A2.out).mono ?_); (case side1 => repeat (first | exact (Kd.N_reads' HO209.out).2.2 | (with_reducible refine Kd.C_alloc ?_ _) | (with_reducible refine Kd.C_drewN ?_ _) | (with_reducible refine Kd.C_drew ?_))); (case side2 => exact (Kd.N_reads' HO209.out).2.1); rintro e w8 ⟨v211, rfl, ho0, hb⟩; refine ⟨_, rfl, ?_⟩; have n0_ := Aside0.mk (Kd.V_elder' (by (with_reducible repeat (first | apply Kd.V_alloc | apply Kd.V_drewN | apply Kd.V_drew)); exact HO0_0.out) (Kd.R_base ho0) hb); have n1_ := Aside0.mk (Kd.V_elder' (by (with_reducible repeat (first | apply Kd.V_alloc | apply Kd.V_drewN | apply Kd.V_drew)); exact HO0_1.out) (Kd.R_base ho0) hb); have n2_ := Aside0.mk (Kd.N_elder' (by (with_reducible repeat (first | apply Kd.N_alloc | apply Kd.N_drewN | apply Kd.N_drew)); exact HO209.out) (Kd.R_base ho0) hb); have n3_ := Aside0.mk (Kd.R_lower (Kd.R_newM (M := fun k_ => (w.heap.size ≤ k_)) ho0 (below_size (au44)) (fun k_ h_ => h_)) (below_size (au44))); have n4_ := Aside0.mk (blk_below (g := gb206) (o := .cells #[.slice A0_0 l0_0.length c0_0, .slice A0_1 l0_1.length c0_1, .int .u8 a0_2, .bool a0_3, .int .i64 a0_4, .int .i64 a0_5, .int .i64 a0_6, .slice A0_7 l0_7.length c0_7] 25 (0, 0)) (by (with_reducible repeat (first | refine blk_drewN ?_ _ | refine blk_drew ?_ | refine blk_alloc ?_ _)); exact BK206.out) hb); have n5_ := Aside0.mk (below_step (au44) hb); clear HO0_0; clear HO0_1; clear HO209; clear BK206; clear HB; have HO0_0 := n0_; have HO0_1 := n1_; have HO209 := n2_; have HO212 := n3_; have BK206 := n4_; have HB := n5_; clear n0_ n1_ n2_ n3_ n4_ n5_; (try clear hb); (try clear hb2); (try clear hk); (try clear hi); (try clear ho0)))
 go_ret
 exact ⟨_, au5, by (with_reducible repeat (first | apply Kd.R_alloc | apply Kd.R_drewN | apply Kd.R_drew)); exact Kd.R_mono HO212.out (fun _ hk => hk.1), au44⟩

/-! ### gauss_May: function 80 -/
/-- Both parts from -MaxPart to MaxPart. -/
def gauss_May.b (a b : Int) : Bool := decide (-1048576 ≤ a) && decide (a ≤ 1048576) && decide (-1048576 ≤ b) && decide (b ≤ 1048576)
set_option maxRecDepth 100000 in
set_option maxHeartbeats 1000000 in
theorem gauss_May.calls (a b : Int) (w : World) : Calls Try.prog 80 #[.agg #[.int .i64 a, .int .i64 b]] w fun e w' => e = .returned (.bool (gauss_May.b a b)) ∧ w' = w.alloc (.cells #[.int .i64 a, .int .i64 b] 112) := by
  have i0 : ∀ w : World, (Instr.index 112 (.agg #[.int .i64 a, .int .i64 b]) (.int .i64 0)).run Try.prog w = .ok (.int .i64 a) w := fun _ => by kernel_rfl
  have i1 : ∀ w : World, (Instr.index 112 (.agg #[.int .i64 a, .int .i64 b]) (.int .i64 1)).run Try.prog w = .ok (.int .i64 b) w := fun _ => by kernel_rfl
  go_enter Try.func80, Try.ntmps80
  go_wp2
  go_loop [4, 6] (fun v i => (i = .int .i64 0) ∨ (i = .int .i64 1 ∧ -1048576 ≤ a ∧ a ≤ 1048576) ∨ (i = .int .i64 2 ∧ -1048576 ≤ a ∧ a ≤ 1048576 ∧ -1048576 ≤ b ∧ b ≤ 1048576)) (fun _ i => 2 - (intOf i).toNat)
  case atStart => exact .inl rfl
  case round =>
    rcases hrel with rfl | ⟨rfl, h1, h2⟩ | ⟨rfl, h1, h2, h3, h4⟩
    · by_cases c1 : a < -1048576
      · have hf : gauss_May.b a b = false := by unfold gauss_May.b; simp; omega
        go_wp2
        go_ret
        exact ⟨rfl, rfl⟩
      by_cases c2 : a > 1048576
      · have hf : gauss_May.b a b = false := by unfold gauss_May.b; simp; omega
        go_wp2
        go_ret
        exact ⟨rfl, rfl⟩
      · go_wp2
        go_round
        case rel => exact .inr (.inl ⟨rfl, by omega, by omega⟩)
        case measure => simp [intOf]
    · by_cases c1 : b < -1048576
      · have hf : gauss_May.b a b = false := by unfold gauss_May.b; simp; omega
        go_wp2
        go_ret
        exact ⟨rfl, rfl⟩
      by_cases c2 : b > 1048576
      · have hf : gauss_May.b a b = false := by unfold gauss_May.b; simp; omega
        go_wp2
        go_ret
        exact ⟨rfl, rfl⟩
      · go_wp2
        go_round
        case rel => exact .inr (.inr ⟨rfl, by omega, by omega, by omega, by omega⟩)
        case measure => simp [intOf]
    · have hf : gauss_May.b a b = true := by unfold gauss_May.b; simp; omega
      go_wp2
      go_ret
      exact ⟨rfl, rfl⟩

/-! ### value_Pair: function 69 -/
def value_Pair.f (a0 : Int) (a1 : Int) : Option (Int × Int × Int × Bool) := if gauss_May.b a0 a1 = true then some (2, a0, a1, true) else some (0, 0, 0, false)
set_option maxHeartbeats 8000000 in
set_option maxRecDepth 100000 in
theorem value_Pair.calls (a0 : Int) (a1 : Int) (r1 : Int) (r2 : Int) (r3 : Int) (r4 : Bool) (w : World) (h : value_Pair.f a0 a1 = some (r1, r2, r3, r4)) :
    Calls Try.prog 69 #[.int .i64 a0, .int .i64 a1] w fun e w' => e = .returned (.tuple #[.agg #[.int .u8 r1, .int .i64 r2, .int .i64 r3], .bool r4]) ∧ Below w.heap.size w w' := by
  cases c : gauss_May.b a0 a1 with
  | true =>
    rw [value_Pair.f, if_pos c] at h
    simp only [Option.some.injEq, Prod.mk.injEq] at h
    obtain ⟨rfl, rfl, rfl, rfl⟩ := h
    have HB := Aside0.mk (Below.refl w.heap.size w)
    go_enter Try.func69, Try.ntmps69
    go_wp2_with (go_at_call 80; (refine (gauss_May.calls a0 a1 _).mono ?_); rintro e w1 ⟨rfl, rfl⟩; (try simp only [c]))
    refine bodyPost_ret (v := .tuple #[.agg #[.int .u8 2, .int .i64 a0, .int .i64 a1], .bool true]) (by simp [results, Try.results69, go_sem]) rfl ⟨rfl, ?_⟩
    exact below_alloc (below_alloc HB.out _) _
  | false =>
    rw [value_Pair.f, if_neg (by rw [c]; decide)] at h
    simp only [Option.some.injEq, Prod.mk.injEq] at h
    obtain ⟨rfl, rfl, rfl, rfl⟩ := h
    have HB := Aside0.mk (Below.refl w.heap.size w)
    go_enter Try.func69, Try.ntmps69
    go_wp2_with (go_at_call 80; (refine (gauss_May.calls a0 a1 _).mono ?_); rintro e w1 ⟨rfl, rfl⟩; (try simp only [c]))
    refine bodyPost_ret (v := .tuple #[.agg #[.int .u8 0, .int .i64 0, .int .i64 0], .bool false]) (by simp [results, Try.results69, go_sem]) rfl ⟨rfl, ?_⟩
    exact below_alloc (below_alloc HB.out _) _

/-! ### value_Int: function 70 -/
def value_Int.f (a0 : Int) : Option (Int × Int × Int) := some (1, a0, 0)
set_option maxHeartbeats 8000000 in
set_option maxRecDepth 100000 in
theorem value_Int.calls (a0 : Int) (r1 : Int) (r2 : Int) (r3 : Int) (w : World) (h : value_Int.f a0 = some (r1, r2, r3)) :
  Calls Try.prog 70 #[.int .i64 a0] w fun e w' => e = .returned (.agg #[.int .u8 r1, .int .i64 r2, .int .i64 r3]) ∧ Below w.heap.size w w' := by
 have hu35 := Try.underlying35
 have HB := Aside0.mk (Below.refl w.heap.size w)
 have H : (some (1, a0, 0)) = some (r1, r2, r3) := h
 clear h
 simp only [Option.some.injEq, Prod.mk.injEq] at H
 obtain ⟨rfl, rfl, rfl⟩ := H
 go_enter Try.func70, Try.ntmps70
 go_wp2_with (first | ((with_reducible refine gate_dst (N := 2) rfl ?_); refine box_event ?hg (N := 2) ?hd (cs := #[.int .u8 0, .int .i64 0, .int .i64 0]) (t := 35) ?hr ?_; (case hd => rfl); (case hg => rfl); (case hr => first | (go_simp; done) | (go_simp; rfl)); intro gb213 hg w2 hbox hb; have n0_ := Aside0.mk (below_step (au1) hb); have n1_ := Aside0.mk (hbox); have n2_ := Aside0.mk ((au24 : w.heap.size ≤ gb213)); have n3_ := Aside0.mk ((au24 : w.heap.size ≤ gb213)); clear HB; have HB := n0_; have BK213 := n1_; have GW213 := n2_; have GE213 := n3_; clear n0_ n1_ n2_ n3_; clear hb hbox hg; obtain ⟨hcz3_0, hcz3_1, hcz3_2, hfz3_0, hfz3_1, hfz3_2⟩ := blk_all3 BK213.out))
 refine bodyPost_ret (results_cell_row rfl _ _ gb213 35 #[.int .u8 1, .int .i64 a0, .int .i64 0] (0, 0) _ rfl (by (with_reducible repeat (first | refine blk_drewN ?_ _ | refine blk_drew ?_ | refine blk_alloc ?_ _)); refine blk_put (cs := #[.int .u8 1, .int .i64 a0, .int .i64 0]) ?_ 2 _ rfl; (with_reducible repeat (first | refine blk_drewN ?_ _ | refine blk_drew ?_ | refine blk_alloc ?_ _)); refine blk_put (cs := #[.int .u8 1, .int .i64 0, .int .i64 0]) ?_ 1 _ rfl; (with_reducible repeat (first | refine blk_drewN ?_ _ | refine blk_drew ?_ | refine blk_alloc ?_ _)); refine blk_put (cs := #[.int .u8 0, .int .i64 0, .int .i64 0]) ?_ 0 _ rfl; (with_reducible repeat (first | refine blk_drewN ?_ _ | refine blk_drew ?_ | refine blk_alloc ?_ _)); exact BK213.out) Try.underlying35 rfl (by kernel_rfl)) rfl ?_
 exact ⟨au5, by repeat (first | (with_reducible first | exact HB.out | apply below_alloc | apply pw_below_drewN | apply below_drew1 | refine below_set ?_ GE213.out) | exact HB.out | exact ⟨HB.out.os, HB.out.tape, HB.out.output, HB.out.size, HB.out.block⟩)⟩

end Go.Proofs.Ytjnmomhkiknhdaa.T
