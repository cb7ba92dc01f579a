/- Contracts of the functions of this seat (each: the call of the function does what the plain Lean function of the same name tells; the conditions stand in each statement). Written by a program of this session and by hand; checked by Lean. -/
import Derived.Test.YtdfjjooejfgglaaDoorR0
namespace Go.Proofs.YtdfjjooejfgglaaDoor.R
open Go.RowKit Go.Proofs.YtdfjjooejfgglaaDoorW.PrintWords Go.Proofs.YtdfjjooejfgglaaDoorW.PrintLast Go.Proofs.YtdfjjooejfgglaaDoorW.PrintMore
attribute [local go_sem] max2_int min2_int max_two min_two max_three min_three max_four min_four   -- for this text's walks alone
set_option linter.unusedVariables false
set_option linter.unusedSimpArgs false

/-! ### octet_cut: function 68 -/
def octet_cut.f (l0 : List Int) (a1 : Int) (a2 : Int) : Option (List Int × Int) :=
  if 0 ≤ a2 then if a2 ≤ 9223372036854775807 then if a1 < 0 then some ([], 2) else if a1 > (l0.length : Int) then some ([], 2) else if (l0.length : Int) - a1 < a2 then some ([], 10) else some ((l0.take (a1 + a2).toNat).drop a1.toNat, 0) else none else none
def octet_cut.Post (A0 : Option Addr) (n0 : Nat) (l0 : List Int) (w : World) (r1 : List Int) (r2 : Int) (e : Ending) (w' : World) : Prop :=
  ∃ A c, e = .returned (.tuple #[.slice A r1.length c, .int .i64 r2]) ∧ (∀ W, Kd.C (Kd.int .u8) W A0 n0 l0 → Kd.C (Kd.int .u8) W A r1.length r1) ∧ r1.length ≤ c ∧ w = w'
set_option maxHeartbeats 1000000 in
/-- A piece of what came in, by its own address: the world stays. -/
theorem octet_cut.calls (A0 : Option Addr) (c0 : Nat) (l0 : List Int) (a1 : Int) (a2 : Int) (r1 : List Int) (r2 : Int) (w : World) (hr0 : Kd.C (Kd.int .u8) w A0 l0.length l0) (hc0 : l0.length ≤ c0)
    (h : octet_cut.f l0 a1 a2 = some (r1, r2)) :
    Calls Tryd.prog 68 #[.slice A0 l0.length c0, .int .i64 a1, .int .i64 a2] w (octet_cut.Post A0 l0.length l0 w r1 r2) := by
  have hm : (l0.length : Int) ≤ 9223372036854775807 := by have := hr0.2.1; omega
  have HR := Aside0.mk hr0
  have HC := Aside0.mk hc0
  clear hr0 hc0
  by_cases h2 : 0 ≤ a2
  case neg => simp [octet_cut.f, h2] at h
  by_cases h3 : a2 ≤ 9223372036854775807
  case neg => simp [octet_cut.f, h2, h3] at h
  by_cases c1 : a1 < 0
  · simp only [octet_cut.f, if_pos h2, if_pos h3, if_pos c1, Option.some.injEq, Prod.mk.injEq] at h
    obtain ⟨rfl, rfl⟩ := h
    go_enter Tryd.func68, Tryd.ntmps68
    go_wp2
    go_ret2
    exact ⟨none, 0, rfl, fun _ _ => Kd.C_nil _ _, Nat.le_refl _, rfl⟩
  by_cases c2 : a1 > (l0.length : Int)
  · simp only [octet_cut.f, if_pos h2, if_pos h3, if_neg c1, if_pos c2, Option.some.injEq, Prod.mk.injEq] at h
    obtain ⟨rfl, rfl⟩ := h
    go_enter Tryd.func68, Tryd.ntmps68
    go_wp2
    go_ret2
    exact ⟨none, 0, rfl, fun _ _ => Kd.C_nil _ _, Nat.le_refl _, rfl⟩
  by_cases c3 : (l0.length : Int) - a1 < a2
  · simp only [octet_cut.f, if_pos h2, if_pos h3, if_neg c1, if_neg c2, if_pos c3, Option.some.injEq, Prod.mk.injEq] at h
    obtain ⟨rfl, rfl⟩ := h
    go_enter Tryd.func68, Tryd.ntmps68
    go_wp2
    go_ret2
    exact ⟨none, 0, rfl, fun _ _ => Kd.C_nil _ _, Nat.le_refl _, rfl⟩
  · simp only [octet_cut.f, if_pos h2, if_pos h3, if_neg c1, if_neg c2, if_neg c3, Option.some.injEq, Prod.mk.injEq] at h
    obtain ⟨rfl, rfl⟩ := h
    have hC := fun W (h_ : Kd.C (Kd.int .u8) W A0 l0.length l0) => Kd.C_mid (lo := a1.toNat) (hi := (a1 + a2).toNat) (c := c0) h_ (by omega) (by omega) HC.out
    have hl : ((l0.take (a1 + a2).toNat).drop a1.toNat).length = (a1 + a2).toNat - a1.toNat := by rw [List.length_drop, List.length_take, Nat.min_eq_left (by omega)]
    have hk : ((l0.take (a1 + a2).toNat).drop a1.toNat).length ≤ c0 - a1.toNat := by have := HC.out; rw [hl]; omega
    have h5 : 0 ≤ a1 + a2 := by omega
    have h6 : a1 + a2 ≤ 9223372036854775807 := by omega
    have h7 : a1 ≤ a1 + a2 := by omega
    have h8 : a1 + a2 ≤ (c0 : Int) := by have := HC.out; omega
    have hcc := HC.out
    have HL := Aside0.mk hl
    have HCx := Aside0.mk hC
    have HK := Aside0.mk hk
    clear hC hk hl
    go_enter Tryd.func68, Tryd.ntmps68
    by_cases hq : c0 = a1.toNat
    · have hA := HCx.out
      simp only [if_pos hq] at hA
      have HA := Aside0.mk hA
      clear hA
      go_wp2
      go_ret2
      exact ⟨A0, 0, by rw [HL.out]; rfl, HA.out, by have := HK.out; omega, rfl⟩
    · have hA := HCx.out
      simp only [if_neg hq] at hA
      have HA := Aside0.mk hA
      clear hA
      go_wp2
      go_ret2
      exact ⟨Option.map (fun x => x.add a1.toNat) A0, c0 - a1.toNat, by rw [HL.out]; rfl, by simpa [Kd.int, Kd.scalar] using HA.out, HK.out, rfl⟩

/-! ### octet_gather_uint64: function 69 -/
def octet_gather_uint64.l0 : Nat → Int → List Int → Int → Int → Option (Int)
 | 0, _, _, _, _ => none
 | k + 1, x3, x6, x7, x8 => if x8 < x7 then (if 0 ≤ x8 then (if x8 < (x6.length : Int) then (if 0 ≤ (wrap64 (8 * x8)) then (octet_gather_uint64.l0 k (Go.bits .or .u64 x3 (shl .u64 (IntKind.u64.wrap (rd x6 x8)) (wrap64 (8 * x8)))) x6 x7 (wrap64 (x8 + 1))) else (none)) else (none)) else (none)) else (some x3)
def octet_gather_uint64.f (k : Nat) (l0 : List Int) : Option (Int) := octet_gather_uint64.l0 k 0 l0 (l0.length : Int) 0
theorem octet_gather_uint64.mono_l : ∀ k, (∀ y0 y1 y2 y3, LeO (octet_gather_uint64.l0 k y0 y1 y2 y3) (octet_gather_uint64.l0 (k + 1) y0 y1 y2 y3))
 | 0 => fun _ _ _ _ r h => by simp [octet_gather_uint64.l0] at h
 | k + 1 => by
  have ih0 := octet_gather_uint64.mono_l k
  ·
   intro y0 y1 y2 y3
   unfold octet_gather_uint64.l0
   repeat' first
   | (with_reducible exact ih0 _ _ _ _)
   | (with_reducible exact LeO.refl _)
   | (with_reducible exact LeO.none _)
   | (with_reducible refine LeO.ite ?_ ?_)
   | (with_reducible refine LeO.bind ?_ (fun _ => ?_))
   | exact ih0 _ _ _ _
   | exact LeO.none _
   | refine LeO.ite ?_ ?_
   | refine LeO.bind ?_ (fun _ => ?_)
theorem octet_gather_uint64.mono : ∀ a0 k, LeO (octet_gather_uint64.f k a0) (octet_gather_uint64.f (k + 1) a0) := by
 intro a0 k
 have ih0 := octet_gather_uint64.mono_l k
 unfold octet_gather_uint64.f
 repeat' first
   | (with_reducible exact ih0 _ _ _ _)
   | (with_reducible exact LeO.refl _)
   | (with_reducible exact LeO.none _)
   | (with_reducible refine LeO.ite ?_ ?_)
   | (with_reducible refine LeO.bind ?_ (fun _ => ?_))
   | exact ih0 _ _ _ _
   | exact LeO.none _
   | refine LeO.ite ?_ ?_
   | refine LeO.bind ?_ (fun _ => ?_)
set_option maxHeartbeats 8000000 in
set_option maxRecDepth 100000 in
theorem octet_gather_uint64.calls (k : Nat) (A0 : Option Addr) (c0 : Nat) (l0 : List Int) (r : Int) (w : World) (hr0 : Kd.C (Kd.int .u8) w A0 l0.length l0) (hc0 : l0.length ≤ c0) (h : octet_gather_uint64.f k l0 = some r) :
  Calls Tryd.prog 69 #[.slice A0 l0.length c0] w fun e w' => e = .returned (.int .u64 r) ∧ Drawn0 w w' := by
 have HR0 := Aside0.mk hr0
 have HC0 := Aside0.mk hc0
 clear hr0 hc0
 have H : (octet_gather_uint64.l0 k 0 l0 (l0.length : Int) 0) = some r := h
 clear h
 have H' := Aside0.mk H
 clear H
 go_enter Tryd.func69, Tryd.ntmps69
 go_wp2
 go_loopg [3, 8] k (fun kq v3 v8 w' => ∃ (x3_1 : Int) (x8_1 : Int), v3 = .int .u64 x3_1 ∧ v8 = .int .i64 x8_1 ∧ Aside0 (octet_gather_uint64.l0 kq x3_1 l0 (l0.length : Int) x8_1 = some r) ∧ Aside0 (kq ≤ k) ∧ Drawn0 w w')
 case atStart => exact ⟨(0), (0), (by first | rfl | (simp; done) | (simp [*]; done)), (by first | rfl | (simp; done) | (simp [*]; done)), H', ⟨Nat.le_refl _⟩, by repeat (first | exact Drawn0.refl _ | apply Drawn0.step)⟩
 case round =>
  clear H'
  obtain ⟨x3_1, x8_1, rfl, rfl, HA, HK1, ⟨m1, rfl⟩⟩ := hrel
  cases gk with
  | zero => exact absurd HA.out (by simp [octet_gather_uint64.l0])
  | succ k1 =>
   have H := HA.out
   clear HA
   simp only [octet_gather_uint64.l0] at H
   by_cases c2 : x8_1 < (l0.length : Int)
   ·
    rw [if_pos c2] at H
    have c2b0 : decide (x8_1 < (l0.length : Int)) = true := decide_eq_true c2
    clear c2
    by_cases c3 : 0 ≤ x8_1
    ·
     rw [if_pos c3] at H
     have c3b0 : decide (0 ≤ x8_1) = true := decide_eq_true c3
     clear c3
     by_cases c4 : x8_1 < (l0.length : Int)
     ·
      rw [if_pos c4] at H
      have c4b0 : decide (x8_1 < (l0.length : Int)) = true := decide_eq_true c4
      clear c4
      obtain ⟨ji5, hji5⟩ : ∃ j_ : Int, (wrap64 (8 * x8_1)) = j_ := ⟨_, rfl⟩
      replace H : (if 0 ≤ (ji5) then (octet_gather_uint64.l0 k1 (Go.bits .or .u64 x3_1 (shl .u64 (IntKind.u64.wrap (rd l0 x8_1)) (ji5))) l0 (l0.length : Int) (wrap64 (x8_1 + 1))) else (none)) = some r := by first | (rw [hji5] at H; exact H) | (simp only [hji5] at H ⊢; exact H)
      have hji5w : (IntKind.i64.wrap (8 * x8_1)) = ji5 := (i64_w _).trans hji5
      by_cases c6 : 0 ≤ (ji5)
      ·
       rw [if_pos c6] at H
       have c6b0 := eq_true c6
       have c6b1 : decide (0 ≤ (ji5)) = true := decide_eq_true c6
       clear c6
       obtain ⟨ji7, hji7⟩ : ∃ j_ : Int, (shl .u64 (IntKind.u64.wrap (rd l0 x8_1)) (ji5)) = j_ := ⟨_, rfl⟩
       replace H : (octet_gather_uint64.l0 k1 (Go.bits .or .u64 x3_1 (ji7)) l0 (l0.length : Int) (wrap64 (x8_1 + 1))) = some r := by first | (rw [hji7] at H; exact H) | (simp only [hji7] at H ⊢; exact H)
       have hji7_ : (IntKind.u64.wrap ((IntKind.u64.wrap (rd l0 x8_1)) * 2 ^ min (ji5).toNat 64)) = ji7 := hji7
       have hji7z : (ji5) ≤ 64 → (IntKind.u64.wrap ((IntKind.u64.wrap (rd l0 x8_1)) * 2 ^ (ji5).toNat)) = ji7 := shl_small hji7
       have H' := Aside0.mk H
       clear H
       have p101 : 0 ≤ (x8_1 : Int) := of_decide_eq_true (by first | (with_reducible assumption) | assumption)
       have q101 : x8_1 < (l0.length : Int) := of_decide_eq_true (by first | (with_reducible assumption) | assumption)
       obtain ⟨ad101, e101, hx101_0⟩ := Kd.at_int HR0.out x8_1 p101 q101
       cases e101
       replace p101 := eq_true p101
       replace q101 := eq_true q101
       go_wp2
       go_roundg k1
       case measure => have := HK1.out; omega
       case rel => exact ⟨(Go.bits .or .u64 x3_1 (ji7)), (wrap64 (x8_1 + 1)), (by first | rfl | (simp; done) | (simp only [← hji7] <;> (first | rfl | simp)) | (simp [*]; done)), (by first | rfl | (simp; done) | (simp [*]; done)), H', ⟨by have := HK1.out; omega⟩, by repeat (first | exact Drawn0.refl _ | apply Drawn0.step)⟩
      ·
       rw [if_neg c6] at H
       exact absurd H (by simp)
     ·
      rw [if_neg c4] at H
      exact absurd H (by simp)
    ·
     rw [if_neg c3] at H
     exact absurd H (by simp)
   ·
    rw [if_neg c2] at H
    have c2b0 : decide (x8_1 < (l0.length : Int)) = false := decide_eq_false c2
    clear c2
    obtain rfl := Option.some.inj H
    go_wp2
    go_ret
    exact ⟨by first | rfl | (simp; done) | (simp [*]; done), by repeat (first | exact Drawn0.refl _ | apply Drawn0.step)⟩

/-! ### octet_Get: function 50 -/
def octet_Get.f (k : Nat) (l0 : List Int) (a1 : Int) (a2 : Int) : Option (Int × Int × Int) :=
  if a2 < 1 then some (0, 0, 2) else if a2 > 8 then some (0, 0, 2) else (octet_cut.f l0 a1 a2).bind fun c => (octet_gather_uint64.f k c.1).bind fun u =>
    if u > 9223372036854775807 then some (0, 0, 11) else if c.2 = 0 then some (IntKind.i64.wrap u, wrap64 (a1 + a2), 0) else some (0, 0, c.2)
theorem octet_Get.mono : ∀ a0 a1 a2 k, LeO (octet_Get.f k a0 a1 a2) (octet_Get.f (k + 1) a0 a1 a2) := by
  intro a0 a1 a2 k
  unfold octet_Get.f
  refine LeO.ite (LeO.refl _) (LeO.ite (LeO.refl _) (LeO.bind (LeO.refl _) fun c => LeO.bind (octet_gather_uint64.mono _ _) fun u => LeO.refl _))
/-- Three variables in memory, one behind the other. -/
structure OctTri (B ta tb : Nat) (W : World) (v0 v1 v2 : Value) : Prop where
  b0 : W.heap[B]? = some (.cells #[v0] ta (0, 0))
  b1 : W.heap[B + 1]? = some (.cells #[v1] ta (0, 0))
  b2 : W.heap[B + 1 + 1]? = some (.cells #[v2] tb (0, 0))
theorem OctTri.c0 {B ta tb : Nat} {W : World} {v0 v1 v2 : Value} (h : OctTri B ta tb W v0 v1 v2) : W.cell? ⟨B, 0, none⟩ = some v0 := blk_cell h.b0 0
theorem OctTri.c1 {B ta tb : Nat} {W : World} {v0 v1 v2 : Value} (h : OctTri B ta tb W v0 v1 v2) : W.cell? ⟨B + 1, 0, none⟩ = some v1 := blk_cell h.b1 0
theorem OctTri.c2 {B ta tb : Nat} {W : World} {v0 v1 v2 : Value} (h : OctTri B ta tb W v0 v1 v2) : W.cell? ⟨B + 1 + 1, 0, none⟩ = some v2 := blk_cell h.b2 0
theorem OctTri.z0 {B ta tb : Nat} {W : World} {v0 v1 v2 : Value} (h : OctTri B ta tb W v0 v1 v2) : W.frozen? ⟨B, 0, none⟩ = false := blk_frozen h.b0 0
theorem OctTri.z1 {B ta tb : Nat} {W : World} {v0 v1 v2 : Value} (h : OctTri B ta tb W v0 v1 v2) : W.frozen? ⟨B + 1, 0, none⟩ = false := blk_frozen h.b1 0
theorem OctTri.z2 {B ta tb : Nat} {W : World} {v0 v1 v2 : Value} (h : OctTri B ta tb W v0 v1 v2) : W.frozen? ⟨B + 1 + 1, 0, none⟩ = false := blk_frozen h.b2 0
theorem OctTri.set0 {B ta tb : Nat} {W : World} {v0 v1 v2 : Value} (h : OctTri B ta tb W v0 v1 v2) (v : Value) : OctTri B ta tb (W.setCell ⟨B, 0, none⟩ v) v v1 v2 := ⟨blk_put h.b0 0 v rfl, blk_far h.b1 (show B + 1 ≠ B by omega) v, blk_far h.b2 (show B + 1 + 1 ≠ B by omega) v⟩
theorem OctTri.set1 {B ta tb : Nat} {W : World} {v0 v1 v2 : Value} (h : OctTri B ta tb W v0 v1 v2) (v : Value) : OctTri B ta tb (W.setCell ⟨B + 1, 0, none⟩ v) v0 v v2 := ⟨blk_far h.b0 (show B ≠ B + 1 by omega) v, blk_put h.b1 0 v rfl, blk_far h.b2 (show B + 1 + 1 ≠ B + 1 by omega) v⟩
theorem OctTri.set2 {B ta tb : Nat} {W : World} {v0 v1 v2 : Value} (h : OctTri B ta tb W v0 v1 v2) (v : Value) : OctTri B ta tb (W.setCell ⟨B + 1 + 1, 0, none⟩ v) v0 v1 v := ⟨blk_far h.b0 (show B ≠ B + 1 + 1 by omega) v, blk_far h.b1 (show B + 1 ≠ B + 1 + 1 by omega) v, blk_put h.b2 0 v rfl⟩
theorem OctTri.drew {B ta tb : Nat} {W : World} {v0 v1 v2 : Value} (h : OctTri B ta tb W v0 v1 v2) : OctTri B ta tb W.drew v0 v1 v2 := ⟨h.b0, h.b1, h.b2⟩
theorem OctTri.drewN {B ta tb : Nat} {W : World} {v0 v1 v2 : Value} (h : OctTri B ta tb W v0 v1 v2) (n : Nat) : OctTri B ta tb (W.drewN n) v0 v1 v2 := ⟨h.b0, h.b1, h.b2⟩
/-- Where the error isn't OK the two numbers become 0. -/
theorem octet_Get.closure_err (g0 g1 g2 : Nat) (n x e : Int) (w : World) (he : ¬ e = 0) (h0 : w.cell? ⟨g0, 0, none⟩ = some (.int .i64 e)) (h1 : w.cell? ⟨g1, 0, none⟩ = some (.int .i64 n)) (h2 : w.cell? ⟨g2, 0, none⟩ = some (.int .i64 x))
    (f1 : w.frozen? ⟨g1, 0, none⟩ = false) (f2 : w.frozen? ⟨g2, 0, none⟩ = false) (n12 : ¬ g1 = g2) :
    CallsD Tryd.prog 67 #[.pointer (some ⟨g0, 0, none⟩), .pointer (some ⟨g1, 0, none⟩), .pointer (some ⟨g2, 0, none⟩)] .returning w fun e_ u' w' =>
      u' = .returning ∧ (e_ = .returned (.tuple #[]) ∧ w' = (w.setCell ⟨g1, 0, none⟩ (.int .i64 0)).setCell ⟨g2, 0, none⟩ (.int .i64 0)) := by
  have hd : ((e != 0) = true) := by rw [bne_iff_ne]; exact he
  go_enter_d Tryd.func67, Tryd.ntmps67
  go_wp2
  go_end0
  exact ⟨rfl, rfl⟩
theorem octet_Get.closure_ok (g0 : Nat) (a1 a2 : Value) (w : World) (h0 : w.cell? ⟨g0, 0, none⟩ = some (.int .i64 0)) :
    CallsD Tryd.prog 67 #[.pointer (some ⟨g0, 0, none⟩), a1, a2] .returning w fun e_ u' w' =>
      u' = .returning ∧ (e_ = .returned (.tuple #[]) ∧ w' = w) := by
  go_enter_d Tryd.func67, Tryd.ntmps67
  go_wp2
  go_end0
  exact ⟨rfl, rfl⟩

set_option maxHeartbeats 8000000 in
set_option maxRecDepth 100000 in
theorem octet_Get.calls (k : Nat) (A0 : Option Addr) (c0 : Nat) (l0 : List Int) (a1 : Int) (a2 : Int) (r1 : Int) (r2 : Int) (r3 : Int) (w : World) (hr0 : Kd.C (Kd.int .u8) w A0 l0.length l0) (hc0 : l0.length ≤ c0) (h : octet_Get.f k l0 a1 a2 = some (r1, r2, r3)) :
    Calls Tryd.prog 50 #[.slice A0 l0.length c0, .int .i64 a1, .int .i64 a2] w fun e w' => e = .returned (.tuple #[.int .i64 r1, .int .i64 r2, .int .i64 r3]) ∧ Below w.heap.size w w' := by
  have HR := Aside0.mk hr0
  have HC := Aside0.mk hc0
  clear hr0 hc0
  have hmf : ∀ (fn : Fn) (first cap : Array Value) (w : World), (Instr.makeFunc fn first cap).run Tryd.prog w = .ok (.func fn first cap) w := fun _ _ _ _ => rfl
  have below3 : ∀ (w : World) (o1 o2 o3 : Obj), Below w.heap.size w (((w.alloc o1).alloc o2).alloc o3) := fun w o1 o2 o3 => below_alloc (below_alloc (below_alloc (Below.refl _ _) _) _) _
  by_cases c1 : a2 < 1
  · simp only [octet_Get.f, if_pos c1, Option.some.injEq, Prod.mk.injEq] at h
    obtain ⟨rfl, rfl, rfl⟩ := h
    go_enter_defers Tryd.func50, Tryd.ntmps50
    go_wp2
    simp [bodyPostD, Leaves, settle, results, Tryd.results50, go_sem, below3]
  by_cases c2 : a2 > 8
  · simp only [octet_Get.f, if_neg c1, if_pos c2, Option.some.injEq, Prod.mk.injEq] at h
    obtain ⟨rfl, rfl, rfl⟩ := h
    go_enter_defers Tryd.func50, Tryd.ntmps50
    go_wp2
    simp [bodyPostD, Leaves, settle, results, Tryd.results50, go_sem, below3]
  simp only [octet_Get.f, if_neg c1, if_neg c2] at h
  obtain ⟨⟨q1, q2⟩, hcut, h⟩ := Option.bind_eq_some_iff.mp h
  obtain ⟨u, hga, h⟩ := Option.bind_eq_some_iff.mp h
  have HCUT := Aside0.mk hcut
  have HGA := Aside0.mk hga
  have HH := Aside0.mk h
  clear hcut hga h
  go_enter_defers Tryd.func50, Tryd.ntmps50
  go_wp2_with (go_at_call 68; (with_reducible refine (octet_cut.calls A0 c0 l0 a1 a2 q1 q2 _ ?s1 ?s2 HCUT.out).mono ?_); (case s1 => (repeat (first | exact HR.out | (with_reducible refine Kd.C_alloc ?_ _)))); (case s2 => exact HC.out); rintro e w' ⟨A1, c1', rfl, hC1, hK1, rfl⟩; have HC1 := Aside0.mk hC1; have HK1 := Aside0.mk hK1; clear hC1 hK1)
  refine (octet_gather_uint64.calls k A1 c1' q1 u _ ?s1 HK1.out HGA.out).mono ?_
  case s1 => exact HC1.out _ (by repeat (first | exact HR.out | (with_reducible refine Kd.C_alloc ?_ _)))
  rintro e w' ⟨rfl, ⟨nd, rfl⟩⟩
  have h := HH.out
  clear HH HCUT HGA HC1 HK1 HR HC
  obtain ⟨W, hW⟩ : ∃ W, W = ((((w.alloc (Obj.cells #[Value.int IntKind.i64 0] 3)).alloc (Obj.cells #[Value.int IntKind.i64 0] 3)).alloc (Obj.cells #[Value.int IntKind.i64 q2] 24)).drewN nd) := ⟨_, rfl⟩
  have hb : Below w.heap.size w W := by rw [hW]; exact pw_below_drewN (below3 _ _ _ _) _
  have hT : OctTri w.heap.size 3 24 W (.int .i64 0) (.int .i64 0) (.int .i64 q2) := by
    rw [hW]
    refine OctTri.drewN ⟨blk_alloc (blk_alloc (blk_new _ _) _) _, blk_alloc ?_ _, ?_⟩ _
    · have := blk_new (w.alloc (Obj.cells #[Value.int IntKind.i64 0] 3)) (Obj.cells #[Value.int IntKind.i64 0] 3)
      rwa [World.size_alloc] at this
    · have := blk_new ((w.alloc (Obj.cells #[Value.int IntKind.i64 0] 3)).alloc (Obj.cells #[Value.int IntKind.i64 0] 3)) (Obj.cells #[Value.int IntKind.i64 q2] 24)
      rwa [World.size_alloc, World.size_alloc] at this
  rw [← hW]
  have k0 := hT.c0
  have k1 := hT.c1
  have k2 := hT.c2
  have f0 := hT.z0
  have f1 := hT.z1
  have f2 := hT.z2
  have hb := Aside0.mk hb
  have hT := Aside0.mk hT
  clear hW nd
  by_cases c3 : u > 9223372036854775807
  · rw [if_pos c3] at h
    simp only [Option.some.injEq, Prod.mk.injEq] at h
    obtain ⟨rfl, rfl, rfl⟩ := h
    go_wp2
    go_region
    all_goals
      go_wp2
      refine leaves_cons (f := 67) (args := #[.pointer (some ⟨w.heap.size + 1 + 1, 0, none⟩), .pointer (some ⟨w.heap.size, 0, none⟩), .pointer (some ⟨w.heap.size + 1, 0, none⟩)]) (by simp) (by simp [go_sem]) ?_
      refine (octet_Get.closure_err _ _ _ (wrap64 u) (wrap64 (a1 + a2)) 11 _ (by omega) ?s0 ?s1 ?s2 ?s3 ?s4 (by omega)).mono ?_
      case s0 => refine OctTri.c2 (ta := 3) (tb := 24) (v0 := .int .i64 (wrap64 u)) (v1 := .int .i64 (wrap64 (a1 + a2))) (v2 := .int .i64 11) ?_; (with_reducible repeat (first | exact hT.out | apply OctTri.set0 | apply OctTri.set1 | apply OctTri.set2 | apply OctTri.drew | apply OctTri.drewN))
      case s1 => refine OctTri.c0 (ta := 3) (tb := 24) (v0 := .int .i64 (wrap64 u)) (v1 := .int .i64 (wrap64 (a1 + a2))) (v2 := .int .i64 11) ?_; (with_reducible repeat (first | exact hT.out | apply OctTri.set0 | apply OctTri.set1 | apply OctTri.set2 | apply OctTri.drew | apply OctTri.drewN))
      case s2 => refine OctTri.c1 (ta := 3) (tb := 24) (v0 := .int .i64 (wrap64 u)) (v1 := .int .i64 (wrap64 (a1 + a2))) (v2 := .int .i64 11) ?_; (with_reducible repeat (first | exact hT.out | apply OctTri.set0 | apply OctTri.set1 | apply OctTri.set2 | apply OctTri.drew | apply OctTri.drewN))
      case s3 => refine OctTri.z0 (ta := 3) (tb := 24) (v0 := .int .i64 (wrap64 u)) (v1 := .int .i64 (wrap64 (a1 + a2))) (v2 := .int .i64 11) ?_; (with_reducible repeat (first | exact hT.out | apply OctTri.set0 | apply OctTri.set1 | apply OctTri.set2 | apply OctTri.drew | apply OctTri.drewN))
      case s4 => refine OctTri.z1 (ta := 3) (tb := 24) (v0 := .int .i64 (wrap64 u)) (v1 := .int .i64 (wrap64 (a1 + a2))) (v2 := .int .i64 11) ?_; (with_reducible repeat (first | exact hT.out | apply OctTri.set0 | apply OctTri.set1 | apply OctTri.set2 | apply OctTri.drew | apply OctTri.drewN))
      rintro e u' w'' ⟨rfl, rfl, hw⟩
      have T3 : OctTri w.heap.size 3 24 w'' (.int .i64 0) (.int .i64 0) (.int .i64 11) := by
        rw [hw]
        (with_reducible repeat (first | exact hT.out | apply OctTri.set0 | apply OctTri.set1 | apply OctTri.set2 | apply OctTri.drew | apply OctTri.drewN))
      have B3 : Below w.heap.size w w'' := by
        rw [hw]
        (with_reducible repeat (first | exact hb.out | (with_reducible refine below_set ?_ (by omega)) | (with_reducible refine below_drew1 ?_)))
      have y0 := T3.c0
      have y1 := T3.c1
      have y2 := T3.c2
      clear hw T3
      simp [Leaves, settle, results, Tryd.results50, go_sem, y0, y1, y2, B3, IntKind.wrap_i64, wrap64]
  rw [if_neg c3] at h
  by_cases c4 : q2 = 0
  · rw [if_pos c4] at h
    simp only [Option.some.injEq, Prod.mk.injEq] at h
    obtain ⟨rfl, rfl, rfl⟩ := h
    subst c4
    go_wp2
    go_region
    all_goals
      go_wp2
      refine leaves_cons (f := 67) (args := #[.pointer (some ⟨w.heap.size + 1 + 1, 0, none⟩), .pointer (some ⟨w.heap.size, 0, none⟩), .pointer (some ⟨w.heap.size + 1, 0, none⟩)]) (by simp) (by simp [go_sem]) ?_
      refine (octet_Get.closure_ok _ _ _ _ ?s0).mono ?_
      case s0 => refine OctTri.c2 (ta := 3) (tb := 24) (v0 := .int .i64 (wrap64 u)) (v1 := .int .i64 (wrap64 (a1 + a2))) (v2 := .int .i64 0) ?_; (with_reducible repeat (first | exact hT.out | apply OctTri.set0 | apply OctTri.set1 | apply OctTri.set2 | apply OctTri.drew | apply OctTri.drewN))
      rintro e u' w'' ⟨rfl, rfl, hw⟩
      have T3 : OctTri w.heap.size 3 24 w'' (.int .i64 (wrap64 u)) (.int .i64 (wrap64 (a1 + a2))) (.int .i64 0) := by
        rw [hw]
        (with_reducible repeat (first | exact hT.out | apply OctTri.set0 | apply OctTri.set1 | apply OctTri.set2 | apply OctTri.drew | apply OctTri.drewN))
      have B3 : Below w.heap.size w w'' := by
        rw [hw]
        (with_reducible repeat (first | exact hb.out | (with_reducible refine below_set ?_ (by omega)) | (with_reducible refine below_drew1 ?_)))
      have y0 := T3.c0
      have y1 := T3.c1
      have y2 := T3.c2
      clear hw T3
      simp [Leaves, settle, results, Tryd.results50, go_sem, y0, y1, y2, B3, IntKind.wrap_i64, wrap64]
  · rw [if_neg c4] at h
    simp only [Option.some.injEq, Prod.mk.injEq] at h
    obtain ⟨rfl, rfl, rfl⟩ := h
    go_wp2
    go_region
    all_goals
      go_wp2
      refine leaves_cons (f := 67) (args := #[.pointer (some ⟨w.heap.size + 1 + 1, 0, none⟩), .pointer (some ⟨w.heap.size, 0, none⟩), .pointer (some ⟨w.heap.size + 1, 0, none⟩)]) (by simp) (by simp [go_sem]) ?_
      refine (octet_Get.closure_err _ _ _ (wrap64 u) (wrap64 (a1 + a2)) q2 _ c4 ?s0 ?s1 ?s2 ?s3 ?s4 (by omega)).mono ?_
      case s0 => refine OctTri.c2 (ta := 3) (tb := 24) (v0 := .int .i64 (wrap64 u)) (v1 := .int .i64 (wrap64 (a1 + a2))) (v2 := .int .i64 q2) ?_; (with_reducible repeat (first | exact hT.out | apply OctTri.set0 | apply OctTri.set1 | apply OctTri.set2 | apply OctTri.drew | apply OctTri.drewN))
      case s1 => refine OctTri.c0 (ta := 3) (tb := 24) (v0 := .int .i64 (wrap64 u)) (v1 := .int .i64 (wrap64 (a1 + a2))) (v2 := .int .i64 q2) ?_; (with_reducible repeat (first | exact hT.out | apply OctTri.set0 | apply OctTri.set1 | apply OctTri.set2 | apply OctTri.drew | apply OctTri.drewN))
      case s2 => refine OctTri.c1 (ta := 3) (tb := 24) (v0 := .int .i64 (wrap64 u)) (v1 := .int .i64 (wrap64 (a1 + a2))) (v2 := .int .i64 q2) ?_; (with_reducible repeat (first | exact hT.out | apply OctTri.set0 | apply OctTri.set1 | apply OctTri.set2 | apply OctTri.drew | apply OctTri.drewN))
      case s3 => refine OctTri.z0 (ta := 3) (tb := 24) (v0 := .int .i64 (wrap64 u)) (v1 := .int .i64 (wrap64 (a1 + a2))) (v2 := .int .i64 q2) ?_; (with_reducible repeat (first | exact hT.out | apply OctTri.set0 | apply OctTri.set1 | apply OctTri.set2 | apply OctTri.drew | apply OctTri.drewN))
      case s4 => refine OctTri.z1 (ta := 3) (tb := 24) (v0 := .int .i64 (wrap64 u)) (v1 := .int .i64 (wrap64 (a1 + a2))) (v2 := .int .i64 q2) ?_; (with_reducible repeat (first | exact hT.out | apply OctTri.set0 | apply OctTri.set1 | apply OctTri.set2 | apply OctTri.drew | apply OctTri.drewN))
      rintro e u' w'' ⟨rfl, rfl, hw⟩
      have T3 : OctTri w.heap.size 3 24 w'' (.int .i64 0) (.int .i64 0) (.int .i64 q2) := by
        rw [hw]
        (with_reducible repeat (first | exact hT.out | apply OctTri.set0 | apply OctTri.set1 | apply OctTri.set2 | apply OctTri.drew | apply OctTri.drewN))
      have B3 : Below w.heap.size w w'' := by
        rw [hw]
        (with_reducible repeat (first | exact hb.out | (with_reducible refine below_set ?_ (by omega)) | (with_reducible refine below_drew1 ?_)))
      have y0 := T3.c0
      have y1 := T3.c1
      have y2 := T3.c2
      clear hw T3
      simp [Leaves, settle, results, Tryd.results50, go_sem, y0, y1, y2, B3, IntKind.wrap_i64, wrap64]

-- NOT PRINTED: function 25 (code_reader_number)

/-! ### code_must: function 26 -/
/-- The panic that says what is wrong. -/
abbrev CWr (e : Int) : PanicEntry := { v := .iface 54 (.agg #[.int .i64 e]), recovered := false }
def code_must.f (a0 : Bool) : Option Unit := if a0 = true then some () else none
set_option maxRecDepth 100000 in
theorem code_must.ok (w : World) : Calls Tryd.prog 26 #[.bool true] w fun e w' => e = .returned (.tuple #[]) ∧ w' = w := by
  go_enter Tryd.func26, Tryd.ntmps26
  go_wp2
  go_end0
  exact ⟨rfl, rfl⟩
set_option maxRecDepth 100000 in
theorem code_must.bad (w : World) : Calls Tryd.prog 26 #[.bool false] w fun e w' => e = .panicked [CWr 40] ∧ w' = w := by
  go_enter Tryd.func26, Tryd.ntmps26
  go_wp2
  exact ⟨rfl, rfl, rfl⟩
theorem code_must.calls (a0 : Bool) (w : World) (h : code_must.f a0 = some ()) :
    Calls Tryd.prog 26 #[.bool a0] w fun e w' => e = .returned (.tuple #[]) ∧ Drawn0 w w' := by
  unfold code_must.f at h
  cases a0
  · exact absurd h (by decide)
  · exact (code_must.ok w).mono fun e w' hh => ⟨hh.1, by rw [hh.2]; exact Drawn0.refl _⟩

/-! ### op_Known: function 27 -/
def op_Known.f (a0 : Int) : Option (Bool) := some (decide ((wrap64 (a0)) < 33))
set_option maxHeartbeats 8000000 in
set_option maxRecDepth 100000 in
theorem op_Known.calls (a0 : Int) (r : Bool) (w : World) (h : op_Known.f a0 = some r) :
  Calls Tryd.prog 27 #[.int .u8 a0] w fun e w' => e = .returned (.bool r) ∧ Drawn0 w w' := by
 have H : (some (decide ((wrap64 (a0)) < 33))) = some r := h
 clear h
 obtain rfl := Option.some.inj H
 go_enter Tryd.func27, Tryd.ntmps27
 go_wp2
 go_ret
 exact ⟨by first | rfl | (simp; done) | (simp [*]; done), by repeat (first | exact Drawn0.refl _ | apply Drawn0.step)⟩

/-! ### op_sign: function 70 -/
mutual
def op_sign.j0 : Nat → Int → Bool → Option (Int)
 | 0, _, _ => none
 | k + 1, x3, x6 => if x6 = true then (some 2) else (if x3 = 4 then (op_sign.j1 k x3 (x3 == 4)) else (op_sign.j1 k x3 (x3 == 5)))
def op_sign.j1 : Nat → Int → Bool → Option (Int)
 | 0, _, _ => none
 | k + 1, x3, x9 => if x9 = true then (some 3) else (if x3 = 22 then (some 4) else (if x3 = 26 then (op_sign.j2 k x3 (x3 == 26)) else (if x3 = 27 then (op_sign.j2 k x3 (x3 == 27)) else (op_sign.j2 k x3 (x3 == 29)))))
def op_sign.j2 : Nat → Int → Bool → Option (Int)
 | 0, _, _ => none
 | k + 1, x3, x14 => if x14 = true then (some 5) else (if x3 = 30 then (some 6) else (if x3 = 32 then (some 7) else (if x3 = 28 then (some 8) else (some 0))))
end
def op_sign.f (k : Nat) (a0 : Int) : Option (Int) := if a0 = 1 then (some 1) else (if a0 = 2 then (op_sign.j0 k a0 (a0 == 2)) else (op_sign.j0 k a0 (a0 == 3)))
theorem op_sign.mono_l : ∀ k, (∀ y0 y1, LeO (op_sign.j0 k y0 y1) (op_sign.j0 (k + 1) y0 y1)) ∧ (∀ y0 y1, LeO (op_sign.j1 k y0 y1) (op_sign.j1 (k + 1) y0 y1)) ∧ (∀ y0 y1, LeO (op_sign.j2 k y0 y1) (op_sign.j2 (k + 1) y0 y1))
 | 0 => ⟨fun _ _ r h => by simp [op_sign.j0] at h, fun _ _ r h => by simp [op_sign.j1] at h, fun _ _ r h => by simp [op_sign.j2] at h⟩
 | k + 1 => by
  obtain ⟨ih0, ih1, ih2⟩ := op_sign.mono_l k
  refine ⟨?_, ?_, ?_⟩
  ·
   intro y0 y1
   unfold op_sign.j0
   repeat' first
   | (with_reducible exact ih0 _ _)
   | (with_reducible exact ih1 _ _)
   | (with_reducible exact ih2 _ _)
   | (with_reducible exact LeO.refl _)
   | (with_reducible exact LeO.none _)
   | (with_reducible refine LeO.ite ?_ ?_)
   | (with_reducible refine LeO.bind ?_ (fun _ => ?_))
   | exact ih0 _ _
   | exact ih1 _ _
   | exact ih2 _ _
   | exact LeO.none _
   | refine LeO.ite ?_ ?_
   | refine LeO.bind ?_ (fun _ => ?_)
  ·
   intro y0 y1
   unfold op_sign.j1
   repeat' first
   | (with_reducible exact ih0 _ _)
   | (with_reducible exact ih1 _ _)
   | (with_reducible exact ih2 _ _)
   | (with_reducible exact LeO.refl _)
   | (with_reducible exact LeO.none _)
   | (with_reducible refine LeO.ite ?_ ?_)
   | (with_reducible refine LeO.bind ?_ (fun _ => ?_))
   | exact ih0 _ _
   | exact ih1 _ _
   | exact ih2 _ _
   | exact LeO.none _
   | refine LeO.ite ?_ ?_
   | refine LeO.bind ?_ (fun _ => ?_)
  ·
   intro y0 y1
   unfold op_sign.j2
   repeat' first
   | (with_reducible exact ih0 _ _)
   | (with_reducible exact ih1 _ _)
   | (with_reducible exact ih2 _ _)
   | (with_reducible exact LeO.refl _)
   | (with_reducible exact LeO.none _)
   | (with_reducible refine LeO.ite ?_ ?_)
   | (with_reducible refine LeO.bind ?_ (fun _ => ?_))
   | exact ih0 _ _
   | exact ih1 _ _
   | exact ih2 _ _
   | exact LeO.none _
   | refine LeO.ite ?_ ?_
   | refine LeO.bind ?_ (fun _ => ?_)
theorem op_sign.mono : ∀ a0 k, LeO (op_sign.f k a0) (op_sign.f (k + 1) a0) := by
 intro a0 k
 obtain ⟨ih0, ih1, ih2⟩ := op_sign.mono_l k
 unfold op_sign.f
 repeat' first
   | (with_reducible exact ih0 _ _)
   | (with_reducible exact ih1 _ _)
   | (with_reducible exact ih2 _ _)
   | (with_reducible exact LeO.refl _)
   | (with_reducible exact LeO.none _)
   | (with_reducible refine LeO.ite ?_ ?_)
   | (with_reducible refine LeO.bind ?_ (fun _ => ?_))
   | exact ih0 _ _
   | exact ih1 _ _
   | exact ih2 _ _
   | exact LeO.none _
   | refine LeO.ite ?_ ?_
   | refine LeO.bind ?_ (fun _ => ?_)
set_option maxHeartbeats 8000000 in
set_option maxRecDepth 100000 in
theorem op_sign.calls (k : Nat) (a0 : Int) (r : Int) (w : World) (h : op_sign.f k a0 = some r) :
  Calls Tryd.prog 70 #[.int .u8 a0] w fun e w' => e = .returned (.int .i64 r) ∧ Drawn0 w w' := by
 have H : (if a0 = 1 then (some 1) else (if a0 = 2 then (op_sign.j0 k a0 (a0 == 2)) else (op_sign.j0 k a0 (a0 == 3)))) = some r := h
 clear h
 by_cases c2 : a0 = 1
 ·
  rw [if_pos c2] at H
  have c2b0 : (a0 == 1) = true := beq_iff_eq.mpr c2
  have c2b1 : (a0 != 1) = false := bne_eq_false_iff_eq.mpr c2
  clear c2
  obtain rfl := Option.some.inj H
  go_enter Tryd.func70, Tryd.ntmps70
  go_wp2
  go_ret
  exact ⟨by first | rfl | (simp; done) | (simp [*]; done), by repeat (first | exact Drawn0.refl _ | apply Drawn0.step)⟩
 ·
  rw [if_neg c2] at H
  have c2b0 : (a0 == 1) = false := beq_eq_false_iff_ne.mpr c2
  have c2b1 : (a0 != 1) = true := bne_iff_ne.mpr c2
  have HC3 := Aside0.mk H
  clear H
  go_enter Tryd.func70, Tryd.ntmps70
  go_upto_if 6 with (fail)
  go_cut [6] (fun v6 wc => ∃ (kq : Nat) (x6_2 : Bool), v6 = .bool x6_2 ∧ Aside0 (op_sign.j0 kq a0 x6_2 = some r) ∧ Aside0 (kq ≤ k) ∧ Drawn0 w wc)
  case first =>
   have H := HC3.out
   clear HC3
   by_cases c4 : a0 = 2
   ·
    rw [if_pos c4] at H
    have c4b0 : (a0 == 2) = true := beq_iff_eq.mpr c4
    have c4b1 : (a0 != 2) = false := bne_eq_false_iff_eq.mpr c4
    clear c4
    (first | rw [c4b0] | (simp only [i64_w, i32_w]; rw [c4b0]) | skip)
    have H' := Aside0.mk H
    clear H
    go_wp2
    go_meet
    case rel => exact ⟨_, ((a0 == 2)), (by first | rfl | (simp; done) | (simp [*]; done)), H', ⟨by first | omega | exact Nat.le_refl _⟩, by repeat (first | exact Drawn0.refl _ | apply Drawn0.step)⟩
   ·
    rw [if_neg c4] at H
    have c4b0 : (a0 == 2) = false := beq_eq_false_iff_ne.mpr c4
    have c4b1 : (a0 != 2) = true := bne_iff_ne.mpr c4
    (first | rw [c4b0] | (simp only [i64_w, i32_w]; rw [c4b0]) | skip)
    have H' := Aside0.mk H
    clear H
    go_wp2
    go_meet
    case rel => exact ⟨_, ((a0 == 3)), (by first | rfl | (simp; done) | (simp [*]; done)), H', ⟨by first | omega | exact Nat.le_refl _⟩, by repeat (first | exact Drawn0.refl _ | apply Drawn0.step)⟩
  case rest =>
   clear HC3
   try clear c2
   try clear c2b0
   try clear c2b1
   try clear p2
   try clear c4
   try clear c4b0
   try clear c4b1
   obtain ⟨kq, x6_2, rfl, HA, HJ2, ⟨mc2, rfl⟩⟩ := hcut
   cases kq with
   | zero => exact absurd HA.out (by simp [op_sign.j0])
   | succ kj2 =>
    have H := HA.out
    clear HA
    simp only [op_sign.j0] at H
    by_cases c5 : x6_2 = true
    ·
     subst c5
     have H1 : (some 2) = some r := by rw [if_pos rfl] at H; exact H
     clear H
     have H := H1
     clear H1
     obtain rfl := Option.some.inj H
     go_wp2
     go_ret
     exact ⟨by first | rfl | (simp; done) | (simp [*]; done), by repeat (first | exact Drawn0.refl _ | apply Drawn0.step)⟩
    ·
     replace c5 := Bool.eq_false_iff.mpr c5
     subst c5
     have H1 : (if a0 = 4 then (op_sign.j1 kj2 a0 (a0 == 4)) else (op_sign.j1 kj2 a0 (a0 == 5))) = some r := by rw [if_neg (show ¬ (false = true) by decide)] at H; exact H
     clear H
     have H := H1
     clear H1
     have HC6 := Aside0.mk H
     clear H
     go_upto_if 9 with (fail)
     go_cut [9] (fun v9 wc => ∃ (kq : Nat) (x9_5 : Bool), v9 = .bool x9_5 ∧ Aside0 (op_sign.j1 kq a0 x9_5 = some r) ∧ Aside0 (kq ≤ kj2) ∧ Drawn0 w wc)
     case first =>
      have H := HC6.out
      clear HC6
      by_cases c7 : a0 = 4
      ·
       rw [if_pos c7] at H
       have c7b0 : (a0 == 4) = true := beq_iff_eq.mpr c7
       have c7b1 : (a0 != 4) = false := bne_eq_false_iff_eq.mpr c7
       clear c7
       (first | rw [c7b0] | (simp only [i64_w, i32_w]; rw [c7b0]) | skip)
       have H' := Aside0.mk H
       clear H
       go_wp2
       go_meet
       case rel => exact ⟨_, ((a0 == 4)), (by first | rfl | (simp; done) | (simp [*]; done)), H', ⟨by have := HJ2.out; first | omega | exact Nat.le_refl _⟩, by repeat (first | exact Drawn0.refl _ | apply Drawn0.step)⟩
      ·
       rw [if_neg c7] at H
       have c7b0 : (a0 == 4) = false := beq_eq_false_iff_ne.mpr c7
       have c7b1 : (a0 != 4) = true := bne_iff_ne.mpr c7
       (first | rw [c7b0] | (simp only [i64_w, i32_w]; rw [c7b0]) | skip)
       have H' := Aside0.mk H
       clear H
       go_wp2
       go_meet
       case rel => exact ⟨_, ((a0 == 5)), (by first | rfl | (simp; done) | (simp [*]; done)), H', ⟨by have := HJ2.out; first | omega | exact Nat.le_refl _⟩, by repeat (first | exact Drawn0.refl _ | apply Drawn0.step)⟩
     case rest =>
      clear HC6
      try clear c2
      try clear c2b0
      try clear c2b1
      try clear p2
      try clear c4
      try clear c4b0
      try clear c4b1
      try clear c5
      try clear c7
      try clear c7b0
      try clear c7b1
      try clear p2
      obtain ⟨kq, x9_5, rfl, HA, HJ5, ⟨mc5, rfl⟩⟩ := hcut
      cases kq with
      | zero => exact absurd HA.out (by simp [op_sign.j1])
      | succ kj5 =>
       have H := HA.out
       clear HA
       simp only [op_sign.j1] at H
       by_cases c8 : x9_5 = true
       ·
        subst c8
        have H1 : (some 3) = some r := by rw [if_pos rfl] at H; exact H
        clear H
        have H := H1
        clear H1
        obtain rfl := Option.some.inj H
        go_wp2
        go_ret
        exact ⟨by first | rfl | (simp; done) | (simp [*]; done), by repeat (first | exact Drawn0.refl _ | apply Drawn0.step)⟩
       ·
        replace c8 := Bool.eq_false_iff.mpr c8
        subst c8
        have H1 : (if a0 = 22 then (some 4) else (if a0 = 26 then (op_sign.j2 kj5 a0 (a0 == 26)) else (if a0 = 27 then (op_sign.j2 kj5 a0 (a0 == 27)) else (op_sign.j2 kj5 a0 (a0 == 29))))) = some r := by rw [if_neg (show ¬ (false = true) by decide)] at H; exact H
        clear H
        have H := H1
        clear H1
        by_cases c9 : a0 = 22
        ·
         rw [if_pos c9] at H
         have c9b0 : (a0 == 22) = true := beq_iff_eq.mpr c9
         have c9b1 : (a0 != 22) = false := bne_eq_false_iff_eq.mpr c9
         clear c9
         obtain rfl := Option.some.inj H
         go_wp2
         go_ret
         exact ⟨by first | rfl | (simp; done) | (simp [*]; done), by repeat (first | exact Drawn0.refl _ | apply Drawn0.step)⟩
        ·
         rw [if_neg c9] at H
         have c9b0 : (a0 == 22) = false := beq_eq_false_iff_ne.mpr c9
         have c9b1 : (a0 != 22) = true := bne_iff_ne.mpr c9
         have HC10 := Aside0.mk H
         clear H
         go_upto_if 14 with (fail)
         go_cut [14] (fun v14 wc => ∃ (kq : Nat) (x14_9 : Bool), v14 = .bool x14_9 ∧ Aside0 (op_sign.j2 kq a0 x14_9 = some r) ∧ Aside0 (kq ≤ kj5) ∧ Drawn0 w wc)
         case first =>
          have H := HC10.out
          clear HC10
          by_cases c11 : a0 = 26
          ·
           rw [if_pos c11] at H
           have c11b0 : (a0 == 26) = true := beq_iff_eq.mpr c11
           have c11b1 : (a0 != 26) = false := bne_eq_false_iff_eq.mpr c11
           clear c11
           (first | rw [c11b0] | (simp only [i64_w, i32_w]; rw [c11b0]) | skip)
           have H' := Aside0.mk H
           clear H
           go_wp2
           go_meet
           case rel => exact ⟨_, ((a0 == 26)), (by first | rfl | (simp; done) | (simp [*]; done)), H', ⟨by have := HJ2.out; have := HJ5.out; first | omega | exact Nat.le_refl _⟩, by repeat (first | exact Drawn0.refl _ | apply Drawn0.step)⟩
          ·
           rw [if_neg c11] at H
           have c11b0 : (a0 == 26) = false := beq_eq_false_iff_ne.mpr c11
           have c11b1 : (a0 != 26) = true := bne_iff_ne.mpr c11
           (first | rw [c11b0] | (simp only [i64_w, i32_w]; rw [c11b0]) | skip)
           by_cases c12 : a0 = 27
           ·
            rw [if_pos c12] at H
            have c12b0 : (a0 == 27) = true := beq_iff_eq.mpr c12
            have c12b1 : (a0 != 27) = false := bne_eq_false_iff_eq.mpr c12
            clear c12
            have H' := Aside0.mk H
            clear H
            go_wp2
            go_meet
            case rel => exact ⟨_, ((a0 == 27)), (by first | rfl | (simp; done) | (simp [*]; done)), H', ⟨by have := HJ2.out; have := HJ5.out; first | omega | exact Nat.le_refl _⟩, by repeat (first | exact Drawn0.refl _ | apply Drawn0.step)⟩
           ·
            rw [if_neg c12] at H
            have c12b0 : (a0 == 27) = false := beq_eq_false_iff_ne.mpr c12
            have c12b1 : (a0 != 27) = true := bne_iff_ne.mpr c12
            have H' := Aside0.mk H
            clear H
            go_wp2
            go_meet
            case rel => exact ⟨_, ((a0 == 29)), (by first | rfl | (simp; done) | (simp [*]; done)), H', ⟨by have := HJ2.out; have := HJ5.out; first | omega | exact Nat.le_refl _⟩, by repeat (first | exact Drawn0.refl _ | apply Drawn0.step)⟩
         case rest =>
          clear HC10
          try clear c1
          try clear c2
          try clear c2b0
          try clear c2b1
          try clear p2
          try clear c4
          try clear c4b0
          try clear c4b1
          try clear c5
          try clear c7
          try clear c7b0
          try clear c7b1
          try clear c8
          try clear c9
          try clear c9b0
          try clear c9b1
          try clear c11
          try clear c11b0
          try clear c11b1
          try clear c12
          try clear c12b0
          try clear c12b1
          try clear p2
          obtain ⟨kq, x14_9, rfl, HA, HJ9, ⟨mc9, rfl⟩⟩ := hcut
          cases kq with
          | zero => exact absurd HA.out (by simp [op_sign.j2])
          | succ kj9 =>
           have H := HA.out
           clear HA
           simp only [op_sign.j2] at H
           by_cases c13 : x14_9 = true
           ·
            subst c13
            have H1 : (some 5) = some r := by rw [if_pos rfl] at H; exact H
            clear H
            have H := H1
            clear H1
            obtain rfl := Option.some.inj H
            go_wp2
            go_ret
            exact ⟨by first | rfl | (simp; done) | (simp [*]; done), by repeat (first | exact Drawn0.refl _ | apply Drawn0.step)⟩
           ·
            replace c13 := Bool.eq_false_iff.mpr c13
            subst c13
            have H1 : (if a0 = 30 then (some 6) else (if a0 = 32 then (some 7) else (if a0 = 28 then (some 8) else (some 0)))) = some r := by rw [if_neg (show ¬ (false = true) by decide)] at H; exact H
            clear H
            have H := H1
            clear H1
            by_cases c14 : a0 = 30
            ·
             rw [if_pos c14] at H
             have c14b0 : (a0 == 30) = true := beq_iff_eq.mpr c14
             have c14b1 : (a0 != 30) = false := bne_eq_false_iff_eq.mpr c14
             clear c14
             obtain rfl := Option.some.inj H
             go_wp2
             go_ret
             exact ⟨by first | rfl | (simp; done) | (simp [*]; done), by repeat (first | exact Drawn0.refl _ | apply Drawn0.step)⟩
            ·
             rw [if_neg c14] at H
             have c14b0 : (a0 == 30) = false := beq_eq_false_iff_ne.mpr c14
             have c14b1 : (a0 != 30) = true := bne_iff_ne.mpr c14
             by_cases c15 : a0 = 32
             ·
              rw [if_pos c15] at H
              have c15b0 : (a0 == 32) = true := beq_iff_eq.mpr c15
              have c15b1 : (a0 != 32) = false := bne_eq_false_iff_eq.mpr c15
              clear c15
              obtain rfl := Option.some.inj H
              go_wp2
              go_ret
              exact ⟨by first | rfl | (simp; done) | (simp [*]; done), by repeat (first | exact Drawn0.refl _ | apply Drawn0.step)⟩
             ·
              rw [if_neg c15] at H
              have c15b0 : (a0 == 32) = false := beq_eq_false_iff_ne.mpr c15
              have c15b1 : (a0 != 32) = true := bne_iff_ne.mpr c15
              by_cases c16 : a0 = 28
              ·
               rw [if_pos c16] at H
               have c16b0 : (a0 == 28) = true := beq_iff_eq.mpr c16
               have c16b1 : (a0 != 28) = false := bne_eq_false_iff_eq.mpr c16
               clear c16
               obtain rfl := Option.some.inj H
               go_wp2
               go_ret
               exact ⟨by first | rfl | (simp; done) | (simp [*]; done), by repeat (first | exact Drawn0.refl _ | apply Drawn0.step)⟩
              ·
               rw [if_neg c16] at H
               have c16b0 : (a0 == 28) = false := beq_eq_false_iff_ne.mpr c16
               have c16b1 : (a0 != 28) = true := bne_iff_ne.mpr c16
               obtain rfl := Option.some.inj H
               go_wp2
               go_ret
               exact ⟨by first | rfl | (simp; done) | (simp [*]; done), by repeat (first | exact Drawn0.refl _ | apply Drawn0.step)⟩

end Go.Proofs.YtdfjjooejfgglaaDoor.R
