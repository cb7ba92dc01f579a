/- Contracts of functions of this seat. -/
import Derived.Test.YthmjblmdbcmjcaaDoorB0
import Derived.Test.YthmjblmdbcmjcaaDoorB7
import Derived.Test.YthmjblmdbcmjcaaDoorB14
import Derived.Test.YthmjblmdbcmjcaaDoorB17
namespace Go.Proofs.YthmjblmdbcmjcaaDoor.B
open Go.RowKit Go.Proofs.YthmjblmdbcmjcaaDoorW.PrintWords Go.Proofs.YthmjblmdbcmjcaaDoorW.PrintLast Go.Proofs.YthmjblmdbcmjcaaDoorW.PrintMore
attribute [local go_sem] max2_int min2_int max_two min_two max_three min_three max_four min_four
set_option linter.unusedVariables false
set_option linter.unusedSimpArgs false

/-! ### slices_IndexFunc_api_Instr_api_Instr: function 116 -/
def slices_IndexFunc_api_Instr_api_Instr.l0 : Nat → List (S75) → Int → Int → Option (Int)
 | 0, _, _, _ => none
 | k + 1, x0, x7, x8 => if x8 < x7 then (if 0 ≤ x8 then (if x8 < (x0.length : Int) then ((code_May_1.f k ((rd_T75 x0 x8).f0) ((rd_T75 x0 x8).f1) ((rd_T75 x0 x8).f2)).bind fun t280 => (if t280 = true then (some x8) else (slices_IndexFunc_api_Instr_api_Instr.l0 k x0 x7 (wrap64 (x8 + 1))))) else (none)) else (none)) else (some (-1))
def slices_IndexFunc_api_Instr_api_Instr.f (k : Nat) (l0 : List (S75))  : Option (Int) := slices_IndexFunc_api_Instr_api_Instr.l0 k l0 (l0.length : Int) 0
theorem slices_IndexFunc_api_Instr_api_Instr.mono_l : ∀ k, (∀ y0 y1 y2, LeO (slices_IndexFunc_api_Instr_api_Instr.l0 k y0 y1 y2) (slices_IndexFunc_api_Instr_api_Instr.l0 (k + 1) y0 y1 y2))
 | 0 => fun _ _ _ r h => by simp [slices_IndexFunc_api_Instr_api_Instr.l0] at h
 | k + 1 => by
  have ih0 := slices_IndexFunc_api_Instr_api_Instr.mono_l k
  ·
   intro y0 y1 y2
   unfold slices_IndexFunc_api_Instr_api_Instr.l0
   repeat' first | (with_reducible first | apply ih0 | apply code_May_1.mono | apply LeO.refl | apply LeO.none | refine LeO.ite ?_ ?_ | refine LeO.bind ?_ (fun _ => ?_)) | apply ih0 | apply code_May_1.mono | apply LeO.none | refine LeO.ite ?_ ?_ | refine LeO.bind ?_ (fun _ => ?_)
theorem slices_IndexFunc_api_Instr_api_Instr.mono : ∀ a0 k, LeO (slices_IndexFunc_api_Instr_api_Instr.f k a0) (slices_IndexFunc_api_Instr_api_Instr.f (k + 1) a0) := by
 intro a0 k; have ih0 := slices_IndexFunc_api_Instr_api_Instr.mono_l k
 unfold slices_IndexFunc_api_Instr_api_Instr.f
 repeat' first | (with_reducible first | apply ih0 | apply code_May_1.mono | apply LeO.refl | apply LeO.none | refine LeO.ite ?_ ?_ | refine LeO.bind ?_ (fun _ => ?_)) | apply ih0 | apply code_May_1.mono | apply LeO.none | refine LeO.ite ?_ ?_ | refine LeO.bind ?_ (fun _ => ?_)
set_option maxHeartbeats 8000000 in
set_option maxRecDepth 100000 in
theorem slices_IndexFunc_api_Instr_api_Instr.calls (k : Nat) (A0 : Option Addr) (c0 : Nat) (l0 : List (S75))  (r : Int) (w : World) (hG : Gl w) (hr0 : Kd.C k75 w A0 l0.length l0) (hc0 : l0.length ≤ c0) (h : slices_IndexFunc_api_Instr_api_Instr.f k l0 = some r) :
  Calls Tryd.prog 116 #[.slice A0 l0.length c0, .func (.func 97) #[] #[]] w fun e w' => e = .returned (.int .i64 r) ∧ Below w.heap.size w w' := by
 have hu75 := Tryd.underlying75; have HG := Aside0.mk hG; clear hG; have HR0 := Aside0.mk hr0; have HC0 := Aside0.mk hc0; clear hr0 hc0; have HB := Aside0.mk (Below.refl w.heap.size w); have H := h; unfold slices_IndexFunc_api_Instr_api_Instr.f at H; clear h; have H' := Aside0.mk H; clear H
 go_enter Tryd.func116, Tryd.ntmps116
 go_wp2
 go_loopg [8] k (fun kq v8 w' => ∃ (x8_1 : Int), v8 = .int .i64 x8_1 ∧ Aside0 (slices_IndexFunc_api_Instr_api_Instr.l0 kq l0 (l0.length : Int) x8_1 = some r) ∧ Aside0 (kq ≤ k) ∧ Aside0 (Below w.heap.size w w'))
 case atStart => exact ⟨(0), (au16), H', ⟨Nat.le_refl _⟩, ⟨au1⟩⟩
 case round =>
  clear H'; (try clear c1); (try clear p2); obtain ⟨x8_1, rfl, HA, HK1, HB⟩ := hrel
  cases gk with
  | zero => exact absurd HA.out (by simp [slices_IndexFunc_api_Instr_api_Instr.l0])
  | succ k1 =>
   have H := HA.out; clear HA; simp only [slices_IndexFunc_api_Instr_api_Instr.l0] at H
   by_cases c3 : x8_1 < (l0.length : Int)
   rotate_left
   · rw [if_neg c3] at H; have c3b0 : decide (x8_1 < (l0.length : Int)) = false := decide_eq_false c3; clear c3; obtain rfl := Option.some.inj H; go_wp2; go_ret; exact ⟨au7, au1⟩

   rw [if_pos c3] at H; have c3b0 : decide (x8_1 < (l0.length : Int)) = true := decide_eq_true c3; clear c3
   by_cases c4 : 0 ≤ x8_1
   rotate_left
   · rw [if_neg c4] at H; exact absurd H (by simp)
   rw [if_pos c4] at H; have c4b0 : decide (0 ≤ x8_1) = true := decide_eq_true c4; clear c4
   by_cases c5 : x8_1 < (l0.length : Int)
   rotate_left
   · rw [if_neg c5] at H; exact absurd H (by simp)
   rw [if_pos c5] at H; have c5b0 : decide (x8_1 < (l0.length : Int)) = true := decide_eq_true c5; clear c5; obtain ⟨t280, A6, H⟩ := sq_bind H
   by_cases c7 : t280 = true
   ·
    subst c7
    rw [if_pos rfl] at H; obtain rfl := Option.some.inj H; have p279 : 0 ≤ (x8_1 : Int) := of_decide_eq_true (au9); have q279 : x8_1 < (l0.length : Int) := of_decide_eq_true (au9); obtain ⟨ad279, e279, hx279_0, hx279_1, hx279_2⟩ := at_T75 HR0.out x8_1 p279 q279; cases e279; replace hx279_0 := sq_c HB hx279_0; replace hx279_1 := sq_c HB hx279_1; replace hx279_2 := sq_c HB hx279_2; replace p279 := eq_true p279; replace q279 := eq_true q279
    go_wp2_with (first | ((fail_if_success (have h_ := w8)); go_at_call 97; (with_reducible refine (code_May_1.calls k1 ((rd_T75 l0 x8_1).f0) ((rd_T75 l0 x8_1).f1) ((rd_T75 l0 x8_1).f2) true _ ?side1 A6.out).mono ?_); (case side1 => exact au29); rintro e w8 ⟨rfl, hb⟩; replace HB := Aside0.mk (below_step (au1) hb); (try clear hb)))
    go_ret; exact ⟨au7, au1⟩
   ·
    replace c7 := Bool.eq_false_iff.mpr c7; subst c7
    rw [sq_f] at H; have H' := Aside0.mk H; clear H; have p279 : 0 ≤ (x8_1 : Int) := of_decide_eq_true (au9); have q279 : x8_1 < (l0.length : Int) := of_decide_eq_true (au9); obtain ⟨ad279, e279, hx279_0, hx279_1, hx279_2⟩ := at_T75 HR0.out x8_1 p279 q279; cases e279; replace hx279_0 := sq_c HB hx279_0; replace hx279_1 := sq_c HB hx279_1; replace hx279_2 := sq_c HB hx279_2; replace p279 := eq_true p279; replace q279 := eq_true q279
    go_wp2_with (first | ((fail_if_success (have h_ := w9)); go_at_call 97; (with_reducible refine (code_May_1.calls k1 ((rd_T75 l0 x8_1).f0) ((rd_T75 l0 x8_1).f1) ((rd_T75 l0 x8_1).f2) false _ ?side1 A6.out).mono ?_); (case side1 => exact au29); rintro e w9 ⟨rfl, hb⟩; replace HB := Aside0.mk (below_step (au1) hb); (try clear hb)))
    go_roundg k1
    case measure => have := HK1.out; omega
    case rel => exact ⟨(wrap64 (x8_1 + 1)), (au16), H', ⟨by have := HK1.out; omega⟩, ⟨au1⟩⟩
/-! ### slices_ContainsFunc_api_Instr_api_Instr: function 96 -/
def slices_ContainsFunc_api_Instr_api_Instr.f (k : Nat) (l0 : List (S75))  : Option (Bool) := (slices_IndexFunc_api_Instr_api_Instr.f k l0).bind fun t281 => (some (decide (t281 ≥ 0)))
theorem slices_ContainsFunc_api_Instr_api_Instr.mono : ∀ a0 k, LeO (slices_ContainsFunc_api_Instr_api_Instr.f k a0) (slices_ContainsFunc_api_Instr_api_Instr.f (k + 1) a0) := by
 intro a0 k
 unfold slices_ContainsFunc_api_Instr_api_Instr.f
 repeat' first | (with_reducible first | apply slices_IndexFunc_api_Instr_api_Instr.mono | apply LeO.refl | apply LeO.none | refine LeO.ite ?_ ?_ | refine LeO.bind ?_ (fun _ => ?_)) | apply slices_IndexFunc_api_Instr_api_Instr.mono | apply LeO.none | refine LeO.ite ?_ ?_ | refine LeO.bind ?_ (fun _ => ?_)
set_option maxHeartbeats 8000000 in
set_option maxRecDepth 100000 in
theorem slices_ContainsFunc_api_Instr_api_Instr.calls (k : Nat) (A0 : Option Addr) (c0 : Nat) (l0 : List (S75))  (r : Bool) (w : World) (hG : Gl w) (hr0 : Kd.C k75 w A0 l0.length l0) (hc0 : l0.length ≤ c0) (h : slices_ContainsFunc_api_Instr_api_Instr.f k l0 = some r) :
  Calls Tryd.prog 96 #[.slice A0 l0.length c0, .func (.func 97) #[] #[]] w fun e w' => e = .returned (.bool r) ∧ Below w.heap.size w w' := by
 have HG := Aside0.mk hG; clear hG; have HR0 := Aside0.mk hr0; have HC0 := Aside0.mk hc0; clear hr0 hc0; have HB := Aside0.mk (Below.refl w.heap.size w); have H := h; unfold slices_ContainsFunc_api_Instr_api_Instr.f at H; clear h; obtain ⟨t281, A3, H⟩ := sq_bind H; obtain rfl := Option.some.inj H
 go_enter Tryd.func96, Tryd.ntmps96
 go_wp2_with (first | ((with_reducible refine gate_callee (f := 116) rfl ?_); refine goesL_ (some 7) rfl rfl Tryd.func116 (by kernel_rfl) rfl #[.slice A0 l0.length c0, .func (.func 97) #[] #[]] rfl (au2) ?_; (with_reducible refine (slices_IndexFunc_api_Instr_api_Instr.calls k _ _ l0  t281 _ ?side1 ?side2 ?side3 A3.out).mono ?_); (case side1 => exact au29); (case side2 => exact au62); (case side3 => exact HC0.out); rintro e w4 ⟨rfl, hb⟩; refine ⟨_, rfl, ?_⟩; replace HB := Aside0.mk (below_step (au1) hb); (try clear hb)))
 go_ret; exact ⟨au7, au1⟩

/-! ### code_May: function 61 -/
def code_May.f (k : Nat) (l0 : List (S75)) : Option (Bool) := if (l0.length : Int) > 0 then (if (l0.length : Int) ≤ 200 then ((slices_ContainsFunc_api_Instr_api_Instr.f k l0).bind fun t282 => (some (!t282))) else (some false)) else (some false)
theorem code_May.mono : ∀ a0 k, LeO (code_May.f k a0) (code_May.f (k + 1) a0) := by
 intro a0 k
 unfold code_May.f
 repeat' first | (with_reducible first | apply slices_ContainsFunc_api_Instr_api_Instr.mono | apply LeO.refl | apply LeO.none | refine LeO.ite ?_ ?_ | refine LeO.bind ?_ (fun _ => ?_)) | apply slices_ContainsFunc_api_Instr_api_Instr.mono | apply LeO.none | refine LeO.ite ?_ ?_ | refine LeO.bind ?_ (fun _ => ?_)
set_option maxHeartbeats 8000000 in
set_option maxRecDepth 100000 in
theorem code_May.calls (k : Nat) (A0 : Option Addr) (c0 : Nat) (l0 : List (S75)) (r : Bool) (w : World) (hG : Gl w) (hr0 : Kd.C k75 w A0 l0.length l0) (hc0 : l0.length ≤ c0) (h : code_May.f k l0 = some r) :
  Calls Tryd.prog 61 #[.slice A0 l0.length c0] w fun e w' => e = .returned (.bool r) ∧ Below w.heap.size w w' := by
 have HG := Aside0.mk hG; clear hG; have HR0 := Aside0.mk hr0; have HC0 := Aside0.mk hc0; clear hr0 hc0; have HB := Aside0.mk (Below.refl w.heap.size w); have H := h; unfold code_May.f at H; clear h
 by_cases c2 : (l0.length : Int) > 0
 rotate_left
 ·
  rw [if_neg c2] at H; have c2b0 : decide (0 < (l0.length : Int)) = false := decide_eq_false c2; have c2b1 : decide (0 < l0.length) = false := decide_eq_false (by omega); clear c2; obtain rfl := Option.some.inj H
  go_enter Tryd.func61, Tryd.ntmps61
  go_wp2; go_ret; exact ⟨au7, au1⟩

 rw [if_pos c2] at H; have c2b0 : decide (0 < (l0.length : Int)) = true := decide_eq_true c2; have c2b1 : decide (0 < l0.length) = true := decide_eq_true (by omega); clear c2
 by_cases c3 : (l0.length : Int) ≤ 200
 rotate_left
 ·
  rw [if_neg c3] at H; have c3b0 : decide ((l0.length : Int) ≤ 200) = false := decide_eq_false c3; have c3b1 : decide (l0.length ≤ 200) = false := decide_eq_false (by omega); clear c3; obtain rfl := Option.some.inj H
  go_enter Tryd.func61, Tryd.ntmps61
  go_wp2; go_ret; exact ⟨au7, au1⟩
 rw [if_pos c3] at H; have c3b0 : decide ((l0.length : Int) ≤ 200) = true := decide_eq_true c3; have c3b1 : decide (l0.length ≤ 200) = true := decide_eq_true (by omega); clear c3; obtain ⟨t282, A4, H⟩ := sq_bind H; obtain rfl := Option.some.inj H
 go_enter Tryd.func61, Tryd.ntmps61
 go_wp2_with (first | ((fail_if_success (have h_ := w5)); go_at_call 96; (with_reducible refine (slices_ContainsFunc_api_Instr_api_Instr.calls k _ _ l0  t282 _ ?side1 ?side2 ?side3 A4.out).mono ?_); (case side1 => exact au29); (case side2 => exact au62); (case side3 => exact HC0.out); rintro e w5 ⟨rfl, hb⟩; replace HB := Aside0.mk (below_step (au1) hb); (try clear hb)))
 go_ret; exact ⟨au7, au1⟩
/-! ### code_Bytes: function 22 -/
def code_Bytes.l0 : Nat → List Int → List (S75) → Int → Int → Option (List Int × Int)
 | 0, _, _, _, _ => none
 | k + 1, x4, x16, x17, x18 => if x18 < x17 then (if 0 ≤ x18 then (if x18 < (x16.length : Int) then (if x4.length < 140737488355328 then ((some (x4 ++ [(rd_T75 x16 x18).f0] : List Int)).bind fun y289 => ((code_wide.f k ((rd_T75 x16 x18).f0)).bind fun t292 => (if t292 = true then ((octet_Put.f k 2 ((rd_T75 x16 x18).f1)).bind fun bt293 => (if bt293.2 = 0 then (if y289.length + bt293.1.length < 140737488355328 then (code_Bytes.l0 k (y289 ++ bt293.1) x16 x17 (wrap64 (x18 + 1))) else (none)) else (some (([] : List Int), 40)))) else (code_Bytes.l0 k y289 x16 x17 (wrap64 (x18 + 1)))))) else (none)) else (none)) else (none)) else (some (x4, 0))
def code_Bytes.f (k : Nat) (l0 : List (S75)) : Option (List Int × Int) := (code_May.f k l0).bind fun t283 => (if t283 = true then (code_Bytes.l0 k (([((l0.length : Int)) % 256] : List Int)) l0 (l0.length : Int) 0) else (some (([] : List Int), 40)))
theorem code_Bytes.mono_l : ∀ k, (∀ y0 y1 y2 y3, LeO (code_Bytes.l0 k y0 y1 y2 y3) (code_Bytes.l0 (k + 1) y0 y1 y2 y3))
 | 0 => fun _ _ _ _ r h => by simp [code_Bytes.l0] at h
 | k + 1 => by
  have ih0 := code_Bytes.mono_l k
  ·
   intro y0 y1 y2 y3
   unfold code_Bytes.l0
   repeat' first | (with_reducible first | apply ih0 | apply code_May.mono | apply code_wide.mono | apply octet_Put.mono | apply LeO.refl | apply LeO.none | refine LeO.ite ?_ ?_ | refine LeO.bind ?_ (fun _ => ?_)) | apply ih0 | apply code_May.mono | apply code_wide.mono | apply octet_Put.mono | apply LeO.none | refine LeO.ite ?_ ?_ | refine LeO.bind ?_ (fun _ => ?_)
theorem code_Bytes.mono : ∀ a0 k, LeO (code_Bytes.f k a0) (code_Bytes.f (k + 1) a0) := by
 intro a0 k; have ih0 := code_Bytes.mono_l k
 unfold code_Bytes.f
 repeat' first | (with_reducible first | apply ih0 | apply code_May.mono | apply code_wide.mono | apply octet_Put.mono | apply LeO.refl | apply LeO.none | refine LeO.ite ?_ ?_ | refine LeO.bind ?_ (fun _ => ?_)) | apply ih0 | apply code_May.mono | apply code_wide.mono | apply octet_Put.mono | apply LeO.none | refine LeO.ite ?_ ?_ | refine LeO.bind ?_ (fun _ => ?_)
set_option maxHeartbeats 8000000 in
set_option maxRecDepth 100000 in
theorem code_Bytes.calls (k : Nat) (A0 : Option Addr) (c0 : Nat) (l0 : List (S75)) (r1 : List Int) (r2 : Int) (w : World) (hG : Gl w) (hr0 : Kd.C k75 w A0 l0.length l0) (hc0 : l0.length ≤ c0) (h : code_Bytes.f k l0 = some (r1, r2)) :
  Calls Tryd.prog 22 #[.slice A0 l0.length c0] w fun e w' => ∃ v0_ : Value, e = .returned (.tuple #[v0_, .int .i64 r2]) ∧ Kd.R (Kd.int .u8) 5 w' w.heap.size (fun _ => True) v0_ r1 ∧ Below w.heap.size w w' := by
 have hu75 := Tryd.underlying75; have HG := Aside0.mk hG; clear hG; have HR0 := Aside0.mk hr0; have HC0 := Aside0.mk hc0; clear hr0 hc0; have HB := Aside0.mk (Below.refl w.heap.size w); have H := h; unfold code_Bytes.f at H; clear h; obtain ⟨t283, A2, H⟩ := sq_bind H
 by_cases c3 : t283 = true
 rotate_left
 ·
  replace c3 := Bool.eq_false_iff.mpr c3; subst c3
  rw [sq_f] at H; simp only [Option.some.injEq, Prod.mk.injEq] at H; obtain ⟨rfl, rfl⟩ := H
  go_enter Tryd.func22, Tryd.ntmps22
  go_wp2_with (first | ((with_reducible refine gate_callee (f := 61) rfl ?_); refine goesL_ (some 10) rfl rfl Tryd.func61 (by kernel_rfl) rfl #[.slice A0 l0.length c0] rfl (au2) ?_; (with_reducible refine (code_May.calls k _ _ l0 false _ ?side1 ?side2 ?side3 A2.out).mono ?_); (case side1 => exact au29); (case side2 => exact au62); (case side3 => exact HC0.out); rintro e w37 ⟨rfl, hb⟩; refine ⟨_, rfl, ?_⟩; replace HB := Aside0.mk (below_step (au1) hb); (try clear hb)))
  go_ret2
  exact ⟨_, au7, au38, au1⟩

 subst c3
 rw [if_pos rfl] at H; obtain ⟨y284, hy284⟩ : ∃ y_ : List Int, y_ = (([((l0.length : Int)) % 256] : List Int)) := ⟨_, rfl⟩; rw [← hy284] at H; have Ny284 := Aside0.mk hy284; clear hy284; have H' := Aside0.mk H; clear H
 go_enter Tryd.func22, Tryd.ntmps22
 go_wp2_with (first | ((with_reducible refine gate_callee (f := 61) rfl ?_); refine goesL_ (some 10) rfl rfl Tryd.func61 (by kernel_rfl) rfl #[.slice A0 l0.length c0] rfl (au2) ?_; (with_reducible refine (code_May.calls k _ _ l0 true _ ?side1 ?side2 ?side3 A2.out).mono ?_); (case side1 => exact au29); (case side2 => exact au62); (case side3 => exact HC0.out); rintro e w4 ⟨rfl, hb⟩; refine ⟨_, rfl, ?_⟩; replace HB := Aside0.mk (below_step (au1) hb); (try clear hb)) | ((with_reducible refine gate_dst (N := 15) rfl ?_); refine Kd.R_lit (Kd.int .u8) _ 5 ?hg (N := 15) ?hd (xs := ([((l0.length : Int)) % 256] : List Int)) (inner := [.int .u8 (((l0.length : Int)) % 256)]) (ok := fun _ => True) (okp := fun _ => True) ?hr ?hp (fun _ hk => hk) trivial (Below.refl _ _) (Nat.le_refl _) (by simp) ?_; (case hd => rfl); (case hg => rfl); (case hr => first | (go_simp; done) | (go_simp; rfl)); (case hp => exact (Reps.one (show Kd.M (Kd.int .u8) _ _ _ (((l0.length : Int)) % 256) [.int .u8 (((l0.length : Int)) % 256)] from rfl) (Reps.none _ _))); intro v285 w5 ho6 hb hg_ hnew_; clear hg_ hnew_; (first | rw [← Ny284.out] at ho6 | (simp only [Int.reduceToNat] at ho6; rw [← Ny284.out] at ho6)); have n_ := sq_n2 (Kd.R_lower ho6 (below_size (au1))) (below_step (au1) hb); clear HB; obtain ⟨HO286, HB⟩ := n_; clear hb ho6))
 go_loopg [4, 18] k (fun kq v4 v18 w' => ∃ (x4_1 : List Int) (x18_1 : Int), v18 = .int .i64 x18_1 ∧ Aside0 (code_Bytes.l0 kq x4_1 l0 (l0.length : Int) x18_1 = some (r1, r2)) ∧ Aside0 (kq ≤ k) ∧ Aside0 (Kd.R (Kd.int .u8) 5 w' w.heap.size (fun _ => True) v4 x4_1) ∧ Aside0 (Below w.heap.size w w'))
 case atStart => exact ⟨(y284), (0), (au16), H', ⟨Nat.le_refl _⟩, ⟨by (with_reducible repeat (first | apply Kd.R_alloc | apply Kd.R_drewN | apply Kd.R_drew)); first | exact HO286.out | exact Kd.R_mono (HO286.out) (fun _ h_ => h_.2)⟩, ⟨au1⟩⟩
 case round =>
  clear H'; (try clear c2); (try clear p2); (try clear c3); (try clear c6); obtain ⟨x4_1, x18_1, rfl, HA, HK1, HO_4, HB⟩ := hrel
  cases gk with
  | zero => exact absurd HA.out (by simp [code_Bytes.l0])
  | succ k1 =>
   have H := HA.out; clear HA; simp only [code_Bytes.l0] at H
   by_cases c7 : x18_1 < (l0.length : Int)
   rotate_left
   ·
    rw [if_neg c7] at H; have c7b0 : decide (x18_1 < (l0.length : Int)) = false := decide_eq_false c7; clear c7; simp only [Option.some.injEq, Prod.mk.injEq] at H; obtain ⟨rfl, rfl⟩ := H; go_wp2
    go_ret2
    exact ⟨_, au7, au27, au1⟩
   rw [if_pos c7] at H; have c7b0 : decide (x18_1 < (l0.length : Int)) = true := decide_eq_true c7; clear c7
   by_cases c8 : 0 ≤ x18_1
   rotate_left
   · rw [if_neg c8] at H; exact absurd H (by simp)
   rw [if_pos c8] at H; have c8b0 : decide (0 ≤ x18_1) = true := decide_eq_true c8; clear c8
   by_cases c9 : x18_1 < (l0.length : Int)
   rotate_left
   · rw [if_neg c9] at H; exact absurd H (by simp)
   rw [if_pos c9] at H; have c9b0 : decide (x18_1 < (l0.length : Int)) = true := decide_eq_true c9; clear c9
   by_cases c10 : x4_1.length < 140737488355328
   rotate_left
   · rw [if_neg c10] at H; exact absurd H (by simp)
   rw [if_pos c10] at H; have LMc10 := Aside0.mk c10; clear c10; obtain ⟨y289, Ny289, H⟩ := sq_y H; obtain ⟨t292, A11, H⟩ := sq_bind H
   by_cases c12 : t292 = true
   rotate_left
   ·
    replace c12 := Bool.eq_false_iff.mpr c12; subst c12
    rw [sq_f] at H; have H' := Aside0.mk H; clear H; have p287 : 0 ≤ (x18_1 : Int) := of_decide_eq_true (au9); have q287 : x18_1 < (l0.length : Int) := of_decide_eq_true (au9); obtain ⟨ad287, e287, hx287_0, hx287_1, hx287_2⟩ := at_T75 HR0.out x18_1 p287 q287; cases e287; replace hx287_0 := sq_c HB hx287_0; replace hx287_1 := sq_c HB hx287_1; replace hx287_2 := sq_c HB hx287_2; replace p287 := eq_true p287; replace q287 := eq_true q287
    go_wp2_with (first | ((with_reducible refine gate_dst (N := 6) rfl ?_); refine sq_box (N := 6) (cs := #[.int .u8 0, .int .i64 0, .int .i64 0]) (t := 75) ?_; intro gb288 hg w32 hbox hb; have n_ := sq_n5 (Kd.R_below (au27) hb) (below_step (au1) hb) hbox ((au25 : w.heap.size ≤ gb288)) ((au25 : w.heap.size ≤ gb288)); clear HO_4 HB; obtain ⟨HO_4, HB, BK288, GW288, GE288⟩ := n_; clear hb hbox hg; have hz33 := blk_all3 BK288.out) | ((with_reducible refine gate_builtin (b := .append) (xs := #[.tmp 22, .tmp 25]) rfl ?_); at_builtin; refine Kd.R_append (Kd.int .u8) (w0 := w) w.heap.size rfl (.tmp 22) (.tmp 25) 22 5 (.int .u8 0) 1 rfl Tryd.underlying22 info5 rfl (by decide) (by omega) u4 x4_1 ((rd_T75 l0 x18_1).f0) [.int .u8 ((rd_T75 l0 x18_1).f0)] (fun _ => True) (fun _ => False) rfl (by first | (go_simp; done) | (go_simp; rfl)) ?aP (fun _ hk => hk.elim) ?aF ?aO ?aB ?aS ?aL ?_; (case aP => exact rfl); (case aB => exact (au18)); (case aF => exact (fun _ _ => trivial)); (case aO => exact (au60)); (case aS => exact (below_size (au18))); (case aL => have := LMc10.out; omega); intro v290 w34 ho hb hg hat; rw [← Ny289.out] at ho; have n_ := sq_n3 (blk_grown (g := gb288) (o := .cells #[.int .u8 ((rd_T75 l0 x18_1).f0), .int .i64 ((rd_T75 l0 x18_1).f1), .int .i64 ((rd_T75 l0 x18_1).f2)] 75 (0, 0)) (au70) hg (Kd.R_ne HO_4.out BK288.out (by decide))) hb ho; clear BK288 HB HO_4; obtain ⟨BK288, HB, HO291⟩ := n_; clear ho hb hg hat; have hz35 := blk_all3 BK288.out) | ((with_reducible refine gate_callee (f := 62) rfl ?_); refine goesL_ (some 29) rfl rfl Tryd.func62 (by kernel_rfl) rfl #[.int .u8 ((rd_T75 l0 x18_1).f0)] rfl (au2) ?_; (with_reducible refine (code_wide.calls k1 ((rd_T75 l0 x18_1).f0) false _ ?side1 A11.out).mono ?_); (case side1 => exact au145); rintro e w36 ⟨rfl, hb⟩; refine ⟨_, rfl, ?_⟩; have n_ := sq_n3 (Kd.R_below (au83) hb) (blk_below (g := gb288) (o := .cells #[.int .u8 ((rd_T75 l0 x18_1).f0), .int .i64 ((rd_T75 l0 x18_1).f1), .int .i64 ((rd_T75 l0 x18_1).f2)] 75 (0, 0)) (au132) hb) (below_step (au18) hb); clear HO291 BK288 HB; obtain ⟨HO291, BK288, HB⟩ := n_; (try clear hb)))
    go_roundg k1
    case measure => have := HK1.out; omega
    case rel => exact ⟨(y289), (wrap64 (x18_1 + 1)), (au16), H', ⟨by have := HK1.out; omega⟩, ⟨au83⟩, ⟨au18⟩⟩
   subst c12
   rw [if_pos rfl] at H; obtain ⟨⟨t293, t294⟩, A13, H⟩ := sq_bind H; dsimp only at H
   by_cases c14 : t294 = 0
   rotate_left
   ·
    rw [if_neg c14] at H; have c14b0 := beq_eq_false_iff_ne.mpr c14; have c14b1 := bne_iff_ne.mpr c14; simp only [Option.some.injEq, Prod.mk.injEq] at H; obtain ⟨rfl, rfl⟩ := H; have p287 : 0 ≤ (x18_1 : Int) := of_decide_eq_true (au9); have q287 : x18_1 < (l0.length : Int) := of_decide_eq_true (au9); obtain ⟨ad287, e287, hx287_0, hx287_1, hx287_2⟩ := at_T75 HR0.out x18_1 p287 q287; cases e287; replace hx287_0 := sq_c HB hx287_0; replace hx287_1 := sq_c HB hx287_1; replace hx287_2 := sq_c HB hx287_2; replace p287 := eq_true p287; replace q287 := eq_true q287
    go_wp2_with (first | ((with_reducible refine gate_dst (N := 6) rfl ?_); refine sq_box (N := 6) (cs := #[.int .u8 0, .int .i64 0, .int .i64 0]) (t := 75) ?_; intro gb288 hg w25 hbox hb; have n_ := sq_n5 (Kd.R_below (au27) hb) (below_step (au1) hb) hbox ((au25 : w.heap.size ≤ gb288)) ((au25 : w.heap.size ≤ gb288)); clear HO_4 HB; obtain ⟨HO_4, HB, BK288, GW288, GE288⟩ := n_; clear hb hbox hg; have hz26 := blk_all3 BK288.out) | ((with_reducible refine gate_builtin (b := .append) (xs := #[.tmp 22, .tmp 25]) rfl ?_); at_builtin; refine Kd.R_append (Kd.int .u8) (w0 := w) w.heap.size rfl (.tmp 22) (.tmp 25) 22 5 (.int .u8 0) 1 rfl Tryd.underlying22 info5 rfl (by decide) (by omega) u4 x4_1 ((rd_T75 l0 x18_1).f0) [.int .u8 ((rd_T75 l0 x18_1).f0)] (fun _ => True) (fun _ => False) rfl (by first | (go_simp; done) | (go_simp; rfl)) ?aP (fun _ hk => hk.elim) ?aF ?aO ?aB ?aS ?aL ?_; (case aP => exact rfl); (case aB => exact (au18)); (case aF => exact (fun _ _ => trivial)); (case aO => exact (au60)); (case aS => exact (below_size (au18))); (case aL => have := LMc10.out; omega); intro v290 w27 ho hb hg hat; rw [← Ny289.out] at ho; have n_ := sq_n3 (blk_grown (g := gb288) (o := .cells #[.int .u8 ((rd_T75 l0 x18_1).f0), .int .i64 ((rd_T75 l0 x18_1).f1), .int .i64 ((rd_T75 l0 x18_1).f2)] 75 (0, 0)) (au70) hg (Kd.R_ne HO_4.out BK288.out (by decide))) hb ho; clear BK288 HB HO_4; obtain ⟨BK288, HB, HO291⟩ := n_; clear ho hb hg hat; have hz28 := blk_all3 BK288.out) | ((with_reducible refine gate_callee (f := 62) rfl ?_); refine goesL_ (some 29) rfl rfl Tryd.func62 (by kernel_rfl) rfl #[.int .u8 ((rd_T75 l0 x18_1).f0)] rfl (au2) ?_; (with_reducible refine (code_wide.calls k1 ((rd_T75 l0 x18_1).f0) true _ ?side1 A11.out).mono ?_); (case side1 => exact au145); rintro e w29 ⟨rfl, hb⟩; refine ⟨_, rfl, ?_⟩; have n_ := sq_n3 (Kd.R_below (au83) hb) (blk_below (g := gb288) (o := .cells #[.int .u8 ((rd_T75 l0 x18_1).f0), .int .i64 ((rd_T75 l0 x18_1).f1), .int .i64 ((rd_T75 l0 x18_1).f2)] 75 (0, 0)) (au132) hb) (below_step (au18) hb); clear HO291 BK288 HB; obtain ⟨HO291, BK288, HB⟩ := n_; (try clear hb); have hz30 := blk_all3 BK288.out) | ((with_reducible refine gate_callee (f := 60) rfl ?_); refine goesL_ (some 34) rfl rfl Tryd.func60 (by kernel_rfl) rfl #[.int .i64 2, .int .i64 ((rd_T75 l0 x18_1).f1)] rfl (au2) ?_; (with_reducible refine (octet_Put.calls k1 2 ((rd_T75 l0 x18_1).f1) t293 t294 _ A13.out).mono ?_); rintro e w31 ⟨v295, rfl, ho0, hb⟩; refine ⟨_, rfl, ?_⟩; have n_ := sq_n4 (Kd.R_elder' (au83) (Kd.R_base ho0) hb) (Kd.R_lower (Kd.R_new' ho0 (Kd.R_lt (au83))) (below_size (au18))) (blk_below (g := gb288) (o := .cells #[.int .u8 ((rd_T75 l0 x18_1).f0), .int .i64 ((rd_T75 l0 x18_1).f1), .int .i64 ((rd_T75 l0 x18_1).f2)] 75 (0, 0)) (au132) hb) (below_step (au18) hb); clear HO291 BK288 HB; obtain ⟨HO291, HO296, BK288, HB⟩ := n_; (try clear hb); (try clear ho0)))
    go_ret2
    exact ⟨_, au7, au38, au18⟩
   rw [if_pos c14] at H; have c14b0 := beq_iff_eq.mpr c14; have c14b1 := bne_eq_false_iff_eq.mpr c14; clear c14
   by_cases c15 : y289.length + t293.length < 140737488355328
   rotate_left
   · rw [if_neg c15] at H; exact absurd H (by simp)
   rw [if_pos c15] at H; have LMc15 := Aside0.mk c15; clear c15; obtain ⟨y297, hy297⟩ : ∃ y_ : List Int, y_ = (y289 ++ t293) := ⟨_, rfl⟩; rw [← hy297] at H; have Ny297 := Aside0.mk hy297; clear hy297; have H' := Aside0.mk H; clear H; have p287 : 0 ≤ (x18_1 : Int) := of_decide_eq_true (au9); have q287 : x18_1 < (l0.length : Int) := of_decide_eq_true (au9); obtain ⟨ad287, e287, hx287_0, hx287_1, hx287_2⟩ := at_T75 HR0.out x18_1 p287 q287; cases e287; replace hx287_0 := sq_c HB hx287_0; replace hx287_1 := sq_c HB hx287_1; replace hx287_2 := sq_c HB hx287_2; replace p287 := eq_true p287; replace q287 := eq_true q287
   go_wp2_with (first | ((with_reducible refine gate_dst (N := 6) rfl ?_); refine sq_box (N := 6) (cs := #[.int .u8 0, .int .i64 0, .int .i64 0]) (t := 75) ?_; intro gb288 hg w16 hbox hb; have n_ := sq_n5 (Kd.R_below (au27) hb) (below_step (au1) hb) hbox ((au25 : w.heap.size ≤ gb288)) ((au25 : w.heap.size ≤ gb288)); clear HO_4 HB; obtain ⟨HO_4, HB, BK288, GW288, GE288⟩ := n_; clear hb hbox hg; have hz17 := blk_all3 BK288.out) | ((with_reducible refine gate_builtin (b := .append) (xs := #[.tmp 22, .tmp 25]) rfl ?_); at_builtin; refine Kd.R_append (Kd.int .u8) (w0 := w) w.heap.size rfl (.tmp 22) (.tmp 25) 22 5 (.int .u8 0) 1 rfl Tryd.underlying22 info5 rfl (by decide) (by omega) u4 x4_1 ((rd_T75 l0 x18_1).f0) [.int .u8 ((rd_T75 l0 x18_1).f0)] (fun _ => True) (fun _ => False) rfl (by first | (go_simp; done) | (go_simp; rfl)) ?aP (fun _ hk => hk.elim) ?aF ?aO ?aB ?aS ?aL ?_; (case aP => exact rfl); (case aB => exact (au18)); (case aF => exact (fun _ _ => trivial)); (case aO => exact (au60)); (case aS => exact (below_size (au18))); (case aL => have := LMc10.out; omega); intro v290 w18 ho hb hg hat; rw [← Ny289.out] at ho; have n_ := sq_n3 (blk_grown (g := gb288) (o := .cells #[.int .u8 ((rd_T75 l0 x18_1).f0), .int .i64 ((rd_T75 l0 x18_1).f1), .int .i64 ((rd_T75 l0 x18_1).f2)] 75 (0, 0)) (au70) hg (Kd.R_ne HO_4.out BK288.out (by decide))) hb ho; clear BK288 HB HO_4; obtain ⟨BK288, HB, HO291⟩ := n_; clear ho hb hg hat; have hz19 := blk_all3 BK288.out) | ((with_reducible refine gate_callee (f := 62) rfl ?_); refine goesL_ (some 29) rfl rfl Tryd.func62 (by kernel_rfl) rfl #[.int .u8 ((rd_T75 l0 x18_1).f0)] rfl (au2) ?_; (with_reducible refine (code_wide.calls k1 ((rd_T75 l0 x18_1).f0) true _ ?side1 A11.out).mono ?_); (case side1 => exact au145); rintro e w20 ⟨rfl, hb⟩; refine ⟨_, rfl, ?_⟩; have n_ := sq_n3 (Kd.R_below (au83) hb) (blk_below (g := gb288) (o := .cells #[.int .u8 ((rd_T75 l0 x18_1).f0), .int .i64 ((rd_T75 l0 x18_1).f1), .int .i64 ((rd_T75 l0 x18_1).f2)] 75 (0, 0)) (au132) hb) (below_step (au18) hb); clear HO291 BK288 HB; obtain ⟨HO291, BK288, HB⟩ := n_; (try clear hb); have hz21 := blk_all3 BK288.out) | ((with_reducible refine gate_callee (f := 60) rfl ?_); refine goesL_ (some 34) rfl rfl Tryd.func60 (by kernel_rfl) rfl #[.int .i64 2, .int .i64 ((rd_T75 l0 x18_1).f1)] rfl (au2) ?_; (with_reducible refine (octet_Put.calls k1 2 ((rd_T75 l0 x18_1).f1) t293 t294 _ A13.out).mono ?_); rintro e w22 ⟨v295, rfl, ho0, hb⟩; refine ⟨_, rfl, ?_⟩; have n_ := sq_n4 (Kd.R_elder' (au83) (Kd.R_base ho0) hb) (Kd.R_lower (Kd.R_new' ho0 (Kd.R_lt (au83))) (below_size (au18))) (blk_below (g := gb288) (o := .cells #[.int .u8 ((rd_T75 l0 x18_1).f0), .int .i64 ((rd_T75 l0 x18_1).f1), .int .i64 ((rd_T75 l0 x18_1).f2)] 75 (0, 0)) (au132) hb) (below_step (au18) hb); clear HO291 BK288 HB; obtain ⟨HO291, HO296, BK288, HB⟩ := n_; (try clear hb); (try clear ho0); obtain ⟨Ao24, co24, eo24⟩ := Kd.R_slice HO296.out; subst eo24) | ((with_reducible refine gate_builtin (b := .append) (xs := #[.tmp 39, .tmp 40]) rfl ?_); at_builtin; refine Kd.R_append_rows (Kd.int .u8) (w0 := w) w.heap.size rfl (.tmp 39) (.tmp 40) 22 5 (.int .u8 0) 1 rfl Tryd.underlying22 info5 rfl (by decide) (by omega) v290 y289 t293 _ _ _ (fun k_ => some k_ ≠ (.slice Ao24 t293.length co24 : Value).ownBlock) (fun _ => False) rfl rfl ?aO ?aR (fun _ _ h => h) (fun _ h => h.elim) ?aF ?aB ?aS ?aL ?_; (case aR => repeat (first | exact (Kd.R_reads' HO296.out).2.2 | (with_reducible refine Kd.C_alloc ?_ _) | (with_reducible refine Kd.C_drewN ?_ _) | (with_reducible refine Kd.C_drew ?_))); (case aB => exact (au18)); (case aF => exact (fun k_ hk => Kd.fresh' (Kd.R_lt (by (with_reducible repeat (first | apply Kd.R_alloc | apply Kd.R_drewN | apply Kd.R_drew)); first | exact HO296.out | exact Kd.R_mono (HO296.out) (fun _ h_ => h_.2))) k_ hk)); (case aO => exact (by (with_reducible repeat (first | apply Kd.R_alloc | apply Kd.R_drewN | apply Kd.R_drew)); first | exact Kd.R_mono HO291.out (fun _ hk => hk.2) | exact Kd.R_mono (Kd.R_mono HO291.out (fun _ hk => hk.2)) (fun _ h_ => h_.2))); (case aS => exact (below_size (au18))); (case aL => have := LMc15.out; omega); intro v298 w23 ho hb hg hat; rw [← Ny297.out] at ho; have n_ := sq_n4 (blk_grown (g := gb288) (o := .cells #[.int .u8 ((rd_T75 l0 x18_1).f0), .int .i64 ((rd_T75 l0 x18_1).f1), .int .i64 ((rd_T75 l0 x18_1).f2)] 75 (0, 0)) (au132) hg (Kd.R_ne HO291.out BK288.out (by decide))) (Kd.R_after (ok := (fun _ => True)) (by (with_reducible repeat (first | apply Kd.R_alloc | apply Kd.R_drewN | apply Kd.R_drew)); first | exact HO296.out | exact Kd.R_mono (HO296.out) (fun _ h_ => h_.2)) hg hat) hb ho; clear BK288 HO296 HB HO291; obtain ⟨BK288, HO296, HB, HO299⟩ := n_; clear ho hb hg hat))
   go_roundg k1
   case measure => have := HK1.out; omega
   case rel => exact ⟨(y297), (wrap64 (x18_1 + 1)), (au16), H', ⟨by have := HK1.out; omega⟩, ⟨by (with_reducible repeat (first | apply Kd.R_alloc | apply Kd.R_drewN | apply Kd.R_drew)); first | exact Kd.R_mono HO299.out (fun _ hk => trivial) | exact Kd.R_mono (Kd.R_mono HO299.out (fun _ hk => trivial)) (fun _ h_ => h_.2)⟩, ⟨au18⟩⟩
end Go.Proofs.YthmjblmdbcmjcaaDoor.B
