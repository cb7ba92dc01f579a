/- Contracts of the functions of this seat (each: the call of the function does what the plain Lean function of the same name tells; the conditions stand in each statement). Written by a program of this session and by hand; checked by Lean. -/
import Derived.Test.YtjidhcepdjdceaaDoorP0
import Derived.Test.YtjidhcepdjdceaaDoorP2
namespace Go.Proofs.YtjidhcepdjdceaaDoor.P
open Go.RowKit Go.Proofs.YtjidhcepdjdceaaDoorW.PrintWords Go.Proofs.YtjidhcepdjdceaaDoorW.PrintLast Go.Proofs.YtjidhcepdjdceaaDoorW.PrintMore
attribute [local go_sem] max2_int min2_int max_two min_two max_three min_three max_four min_four   -- for this text's walks alone
set_option linter.unusedVariables false
set_option linter.unusedSimpArgs false

/-! ### octet_cut: function 45 -/
def octet_cut.f (l0 : List Int) (a1 : Int) (a2 : Int) : Option (List Int × Int) :=
  if 0 ≤ a2 then if a2 ≤ 9223372036854775807 then if a1 < 0 then some ([], 2) else if a1 > (l0.length : Int) then some ([], 2) else if (l0.length : Int) - a1 < a2 then some ([], 10) else some ((l0.take (a1 + a2).toNat).drop a1.toNat, 0) else none else none
def octet_cut.Post (A0 : Option Addr) (n0 : Nat) (l0 : List Int) (w : World) (r1 : List Int) (r2 : Int) (e : Ending) (w' : World) : Prop :=
  ∃ A c, e = .returned (.tuple #[.slice A r1.length c, .int .i64 r2]) ∧ (∀ W, Kd.C (Kd.int .u8) W A0 n0 l0 → Kd.C (Kd.int .u8) W A r1.length r1) ∧ r1.length ≤ c ∧ w = w'
set_option maxHeartbeats 1000000 in
/-- A piece of what came in, by its own address: the world stays. -/
theorem octet_cut.calls (A0 : Option Addr) (c0 : Nat) (l0 : List Int) (a1 : Int) (a2 : Int) (r1 : List Int) (r2 : Int) (w : World) (hr0 : Kd.C (Kd.int .u8) w A0 l0.length l0) (hc0 : l0.length ≤ c0)
    (h : octet_cut.f l0 a1 a2 = some (r1, r2)) :
    Calls Tryd.prog 45 #[.slice A0 l0.length c0, .int .i64 a1, .int .i64 a2] w (octet_cut.Post A0 l0.length l0 w r1 r2) := by
  have hm : (l0.length : Int) ≤ 9223372036854775807 := by have := hr0.2.1; omega
  have HR := Aside0.mk hr0
  have HC := Aside0.mk hc0
  clear hr0 hc0
  by_cases h2 : 0 ≤ a2
  case neg => simp [octet_cut.f, h2] at h
  by_cases h3 : a2 ≤ 9223372036854775807
  case neg => simp [octet_cut.f, h2, h3] at h
  by_cases c1 : a1 < 0
  · simp only [octet_cut.f, if_pos h2, if_pos h3, if_pos c1, Option.some.injEq, Prod.mk.injEq] at h
    obtain ⟨rfl, rfl⟩ := h
    go_enter Tryd.func45, Tryd.ntmps45
    go_wp2
    go_ret2
    exact ⟨none, 0, rfl, fun _ _ => Kd.C_nil _ _, Nat.le_refl _, rfl⟩
  by_cases c2 : a1 > (l0.length : Int)
  · simp only [octet_cut.f, if_pos h2, if_pos h3, if_neg c1, if_pos c2, Option.some.injEq, Prod.mk.injEq] at h
    obtain ⟨rfl, rfl⟩ := h
    go_enter Tryd.func45, Tryd.ntmps45
    go_wp2
    go_ret2
    exact ⟨none, 0, rfl, fun _ _ => Kd.C_nil _ _, Nat.le_refl _, rfl⟩
  by_cases c3 : (l0.length : Int) - a1 < a2
  · simp only [octet_cut.f, if_pos h2, if_pos h3, if_neg c1, if_neg c2, if_pos c3, Option.some.injEq, Prod.mk.injEq] at h
    obtain ⟨rfl, rfl⟩ := h
    go_enter Tryd.func45, Tryd.ntmps45
    go_wp2
    go_ret2
    exact ⟨none, 0, rfl, fun _ _ => Kd.C_nil _ _, Nat.le_refl _, rfl⟩
  · simp only [octet_cut.f, if_pos h2, if_pos h3, if_neg c1, if_neg c2, if_neg c3, Option.some.injEq, Prod.mk.injEq] at h
    obtain ⟨rfl, rfl⟩ := h
    have hC := fun W (h_ : Kd.C (Kd.int .u8) W A0 l0.length l0) => Kd.C_mid (lo := a1.toNat) (hi := (a1 + a2).toNat) (c := c0) h_ (by omega) (by omega) HC.out
    have hl : ((l0.take (a1 + a2).toNat).drop a1.toNat).length = (a1 + a2).toNat - a1.toNat := by rw [List.length_drop, List.length_take, Nat.min_eq_left (by omega)]
    have hk : ((l0.take (a1 + a2).toNat).drop a1.toNat).length ≤ c0 - a1.toNat := by have := HC.out; rw [hl]; omega
    have h5 : 0 ≤ a1 + a2 := by omega
    have h6 : a1 + a2 ≤ 9223372036854775807 := by omega
    have h7 : a1 ≤ a1 + a2 := by omega
    have h8 : a1 + a2 ≤ (c0 : Int) := by have := HC.out; omega
    have hcc := HC.out
    have HL := Aside0.mk hl
    have HCx := Aside0.mk hC
    have HK := Aside0.mk hk
    clear hC hk hl
    go_enter Tryd.func45, Tryd.ntmps45
    by_cases hq : c0 = a1.toNat
    · have hA := HCx.out
      simp only [if_pos hq] at hA
      have HA := Aside0.mk hA
      clear hA
      go_wp2
      go_ret2
      exact ⟨A0, 0, by rw [HL.out]; rfl, HA.out, by have := HK.out; omega, rfl⟩
    · have hA := HCx.out
      simp only [if_neg hq] at hA
      have HA := Aside0.mk hA
      clear hA
      go_wp2
      go_ret2
      exact ⟨Option.map (fun x => x.add a1.toNat) A0, c0 - a1.toNat, by rw [HL.out]; rfl, by simpa [Kd.int, Kd.scalar] using HA.out, HK.out, rfl⟩

/-! ### octet_gather_uint64: function 46 -/
def octet_gather_uint64.l0 : Nat → Int → List Int → Int → Int → Option (Int)
  | 0, _, _, _, _ => none
  | k + 1, x3, x6, x7, x8 => if x8 < x7 then (if 0 ≤ x8 then (if x8 < (x6.length : Int) then (if 0 ≤ (wrap64 (8 * x8)) then (octet_gather_uint64.l0 k (Go.bits .or .u64 x3 (shl .u64 (IntKind.u64.wrap (rd x6 x8)) (wrap64 (8 * x8)))) x6 x7 (wrap64 (x8 + 1))) else (none)) else (none)) else (none)) else (some x3)
def octet_gather_uint64.f (k : Nat) (l0 : List Int) : Option (Int) := octet_gather_uint64.l0 k 0 l0 (l0.length : Int) 0
theorem octet_gather_uint64.mono_l : ∀ k, (∀ y0 y1 y2 y3, LeO (octet_gather_uint64.l0 k y0 y1 y2 y3) (octet_gather_uint64.l0 (k + 1) y0 y1 y2 y3))
  | 0 => fun _ _ _ _ r h => by simp [octet_gather_uint64.l0] at h
  | k + 1 => by
    have ih0 := octet_gather_uint64.mono_l k
    · intro y0 y1 y2 y3
      unfold octet_gather_uint64.l0
      repeat' first
      | (with_reducible exact ih0 _ _ _ _)
      | (with_reducible exact LeO.refl _)
      | (with_reducible exact LeO.none _)
      | (with_reducible refine LeO.ite ?_ ?_)
      | (with_reducible refine LeO.bind ?_ (fun _ => ?_))
      | exact ih0 _ _ _ _
      | exact LeO.none _
      | refine LeO.ite ?_ ?_
      | refine LeO.bind ?_ (fun _ => ?_)
theorem octet_gather_uint64.mono : ∀ a0 k, LeO (octet_gather_uint64.f k a0) (octet_gather_uint64.f (k + 1) a0) := by
  intro a0 k
  have ih0 := octet_gather_uint64.mono_l k
  unfold octet_gather_uint64.f
  repeat' first
      | (with_reducible exact ih0 _ _ _ _)
      | (with_reducible exact LeO.refl _)
      | (with_reducible exact LeO.none _)
      | (with_reducible refine LeO.ite ?_ ?_)
      | (with_reducible refine LeO.bind ?_ (fun _ => ?_))
      | exact ih0 _ _ _ _
      | exact LeO.none _
      | refine LeO.ite ?_ ?_
      | refine LeO.bind ?_ (fun _ => ?_)
set_option maxHeartbeats 8000000 in
set_option maxRecDepth 100000 in
theorem octet_gather_uint64.calls (k : Nat) (A0 : Option Addr) (c0 : Nat) (l0 : List Int) (r : Int) (w : World) (hr0 : Kd.C (Kd.int .u8) w A0 l0.length l0) (hc0 : l0.length ≤ c0) (h : octet_gather_uint64.f k l0 = some r) :
    Calls Tryd.prog 46 #[.slice A0 l0.length c0] w fun e w' => e = .returned (.int .u64 r) ∧ Drawn0 w w' := by
  have HR0 := Aside0.mk hr0
  have HC0 := Aside0.mk hc0
  clear hr0 hc0
  have H : (octet_gather_uint64.l0 k 0 l0 (l0.length : Int) 0) = some r := h
  clear h
  have H' := Aside0.mk H
  clear H
  go_enter Tryd.func46, Tryd.ntmps46
  go_wp2
  go_loopg [3, 8] k (fun kq v3 v8 w' => ∃ (x3_1 : Int) (x8_1 : Int), v3 = .int .u64 x3_1 ∧ v8 = .int .i64 x8_1 ∧ Aside0 (octet_gather_uint64.l0 kq x3_1 l0 (l0.length : Int) x8_1 = some r) ∧ Aside0 (kq ≤ k) ∧ Drawn0 w w')
  case atStart => exact ⟨(0), (0), (by first | rfl | (simp; done) | (simp [*]; done)), (by first | rfl | (simp; done) | (simp [*]; done)), H', ⟨Nat.le_refl _⟩, by repeat (first | exact Drawn0.refl _ | apply Drawn0.step)⟩
  case round =>
    clear H'
    obtain ⟨x3_1, x8_1, rfl, rfl, HA, HK1, ⟨m1, rfl⟩⟩ := hrel
    cases gk with
    | zero => exact absurd HA.out (by simp [octet_gather_uint64.l0])
    | succ k1 =>
      have H := HA.out
      clear HA
      simp only [octet_gather_uint64.l0] at H
      by_cases c2 : x8_1 < (l0.length : Int)
      · rw [if_pos c2] at H
        have c2b0 : decide (x8_1 < (l0.length : Int)) = true := decide_eq_true c2
        clear c2
        by_cases c3 : 0 ≤ x8_1
        · rw [if_pos c3] at H
          have c3b0 : decide (0 ≤ x8_1) = true := decide_eq_true c3
          clear c3
          by_cases c4 : x8_1 < (l0.length : Int)
          · rw [if_pos c4] at H
            have c4b0 : decide (x8_1 < (l0.length : Int)) = true := decide_eq_true c4
            clear c4
            obtain ⟨ji5, hji5⟩ : ∃ j_ : Int, (wrap64 (8 * x8_1)) = j_ := ⟨_, rfl⟩
            replace H : (if 0 ≤ (ji5) then (octet_gather_uint64.l0 k1 (Go.bits .or .u64 x3_1 (shl .u64 (IntKind.u64.wrap (rd l0 x8_1)) (ji5))) l0 (l0.length : Int) (wrap64 (x8_1 + 1))) else (none)) = some r := by first | (rw [hji5] at H; exact H) | (simp only [hji5] at H ⊢; exact H)
            have hji5w : (IntKind.i64.wrap (8 * x8_1)) = ji5 := (i64_w _).trans hji5
            by_cases c6 : 0 ≤ (ji5)
            · rw [if_pos c6] at H
              have c6b0 := eq_true c6
              have c6b1 : decide (0 ≤ (ji5)) = true := decide_eq_true c6
              clear c6
              obtain ⟨ji7, hji7⟩ : ∃ j_ : Int, (shl .u64 (IntKind.u64.wrap (rd l0 x8_1)) (ji5)) = j_ := ⟨_, rfl⟩
              replace H : (octet_gather_uint64.l0 k1 (Go.bits .or .u64 x3_1 (ji7)) l0 (l0.length : Int) (wrap64 (x8_1 + 1))) = some r := by first | (rw [hji7] at H; exact H) | (simp only [hji7] at H ⊢; exact H)
              have hji7_ : (IntKind.u64.wrap ((IntKind.u64.wrap (rd l0 x8_1)) * 2 ^ min (ji5).toNat 64)) = ji7 := hji7
              have hji7z : (ji5) ≤ 64 → (IntKind.u64.wrap ((IntKind.u64.wrap (rd l0 x8_1)) * 2 ^ (ji5).toNat)) = ji7 := shl_small hji7
              have H' := Aside0.mk H
              clear H
              have p144 : 0 ≤ (x8_1 : Int) := of_decide_eq_true (by first | (with_reducible assumption) | assumption)
              have q144 : x8_1 < (l0.length : Int) := of_decide_eq_true (by first | (with_reducible assumption) | assumption)
              obtain ⟨ad144, e144, hx144_0⟩ := Kd.at_int HR0.out x8_1 p144 q144
              cases e144
              replace p144 := eq_true p144
              replace q144 := eq_true q144
              go_wp2
              go_roundg k1
              case measure => have := HK1.out; omega
              case rel => exact ⟨(Go.bits .or .u64 x3_1 (ji7)), (wrap64 (x8_1 + 1)), (by first | rfl | (simp; done) | (simp only [← hji7] <;> (first | rfl | simp)) | (simp [*]; done)), (by first | rfl | (simp; done) | (simp [*]; done)), H', ⟨by have := HK1.out; omega⟩, by repeat (first | exact Drawn0.refl _ | apply Drawn0.step)⟩
            · rw [if_neg c6] at H
              exact absurd H (by simp)
          · rw [if_neg c4] at H
            exact absurd H (by simp)
        · rw [if_neg c3] at H
          exact absurd H (by simp)
      · rw [if_neg c2] at H
        have c2b0 : decide (x8_1 < (l0.length : Int)) = false := decide_eq_false c2
        clear c2
        obtain rfl := Option.some.inj H
        go_wp2
        go_ret
        exact ⟨by first | rfl | (simp; done) | (simp [*]; done), by repeat (first | exact Drawn0.refl _ | apply Drawn0.step)⟩

/-! ### octet_Get: function 25 -/
def octet_Get.f (k : Nat) (l0 : List Int) (a1 : Int) (a2 : Int) : Option (Int × Int × Int) :=
  if a2 < 1 then some (0, 0, 2) else if a2 > 8 then some (0, 0, 2) else (octet_cut.f l0 a1 a2).bind fun c => (octet_gather_uint64.f k c.1).bind fun u =>
    if u > 9223372036854775807 then some (0, 0, 11) else if c.2 = 0 then some (IntKind.i64.wrap u, wrap64 (a1 + a2), 0) else some (0, 0, c.2)
theorem octet_Get.mono : ∀ a0 a1 a2 k, LeO (octet_Get.f k a0 a1 a2) (octet_Get.f (k + 1) a0 a1 a2) := by
  intro a0 a1 a2 k
  unfold octet_Get.f
  refine LeO.ite (LeO.refl _) (LeO.ite (LeO.refl _) (LeO.bind (LeO.refl _) fun c => LeO.bind (octet_gather_uint64.mono _ _) fun u => LeO.refl _))
/-- Three variables in memory, one behind the other. -/
structure OctTri (B ta tb : Nat) (W : World) (v0 v1 v2 : Value) : Prop where
  b0 : W.heap[B]? = some (.cells #[v0] ta (0, 0))
  b1 : W.heap[B + 1]? = some (.cells #[v1] ta (0, 0))
  b2 : W.heap[B + 1 + 1]? = some (.cells #[v2] tb (0, 0))
theorem OctTri.c0 {B ta tb : Nat} {W : World} {v0 v1 v2 : Value} (h : OctTri B ta tb W v0 v1 v2) : W.cell? ⟨B, 0, none⟩ = some v0 := blk_cell h.b0 0
theorem OctTri.c1 {B ta tb : Nat} {W : World} {v0 v1 v2 : Value} (h : OctTri B ta tb W v0 v1 v2) : W.cell? ⟨B + 1, 0, none⟩ = some v1 := blk_cell h.b1 0
theorem OctTri.c2 {B ta tb : Nat} {W : World} {v0 v1 v2 : Value} (h : OctTri B ta tb W v0 v1 v2) : W.cell? ⟨B + 1 + 1, 0, none⟩ = some v2 := blk_cell h.b2 0
theorem OctTri.z0 {B ta tb : Nat} {W : World} {v0 v1 v2 : Value} (h : OctTri B ta tb W v0 v1 v2) : W.frozen? ⟨B, 0, none⟩ = false := blk_frozen h.b0 0
theorem OctTri.z1 {B ta tb : Nat} {W : World} {v0 v1 v2 : Value} (h : OctTri B ta tb W v0 v1 v2) : W.frozen? ⟨B + 1, 0, none⟩ = false := blk_frozen h.b1 0
theorem OctTri.z2 {B ta tb : Nat} {W : World} {v0 v1 v2 : Value} (h : OctTri B ta tb W v0 v1 v2) : W.frozen? ⟨B + 1 + 1, 0, none⟩ = false := blk_frozen h.b2 0
theorem OctTri.set0 {B ta tb : Nat} {W : World} {v0 v1 v2 : Value} (h : OctTri B ta tb W v0 v1 v2) (v : Value) : OctTri B ta tb (W.setCell ⟨B, 0, none⟩ v) v v1 v2 := ⟨blk_put h.b0 0 v rfl, blk_far h.b1 (show B + 1 ≠ B by omega) v, blk_far h.b2 (show B + 1 + 1 ≠ B by omega) v⟩
theorem OctTri.set1 {B ta tb : Nat} {W : World} {v0 v1 v2 : Value} (h : OctTri B ta tb W v0 v1 v2) (v : Value) : OctTri B ta tb (W.setCell ⟨B + 1, 0, none⟩ v) v0 v v2 := ⟨blk_far h.b0 (show B ≠ B + 1 by omega) v, blk_put h.b1 0 v rfl, blk_far h.b2 (show B + 1 + 1 ≠ B + 1 by omega) v⟩
theorem OctTri.set2 {B ta tb : Nat} {W : World} {v0 v1 v2 : Value} (h : OctTri B ta tb W v0 v1 v2) (v : Value) : OctTri B ta tb (W.setCell ⟨B + 1 + 1, 0, none⟩ v) v0 v1 v := ⟨blk_far h.b0 (show B ≠ B + 1 + 1 by omega) v, blk_far h.b1 (show B + 1 ≠ B + 1 + 1 by omega) v, blk_put h.b2 0 v rfl⟩
theorem OctTri.drew {B ta tb : Nat} {W : World} {v0 v1 v2 : Value} (h : OctTri B ta tb W v0 v1 v2) : OctTri B ta tb W.drew v0 v1 v2 := ⟨h.b0, h.b1, h.b2⟩
theorem OctTri.drewN {B ta tb : Nat} {W : World} {v0 v1 v2 : Value} (h : OctTri B ta tb W v0 v1 v2) (n : Nat) : OctTri B ta tb (W.drewN n) v0 v1 v2 := ⟨h.b0, h.b1, h.b2⟩
/-- Where the error isn't OK the two numbers become 0. -/
theorem octet_Get.closure_err (g0 g1 g2 : Nat) (n x e : Int) (w : World) (he : ¬ e = 0) (h0 : w.cell? ⟨g0, 0, none⟩ = some (.int .i64 e)) (h1 : w.cell? ⟨g1, 0, none⟩ = some (.int .i64 n)) (h2 : w.cell? ⟨g2, 0, none⟩ = some (.int .i64 x))
    (f1 : w.frozen? ⟨g1, 0, none⟩ = false) (f2 : w.frozen? ⟨g2, 0, none⟩ = false) (n12 : ¬ g1 = g2) :
    CallsD Tryd.prog 44 #[.pointer (some ⟨g0, 0, none⟩), .pointer (some ⟨g1, 0, none⟩), .pointer (some ⟨g2, 0, none⟩)] .returning w fun e_ u' w' =>
      u' = .returning ∧ (e_ = .returned (.tuple #[]) ∧ w' = (w.setCell ⟨g1, 0, none⟩ (.int .i64 0)).setCell ⟨g2, 0, none⟩ (.int .i64 0)) := by
  have hd : ((e != 0) = true) := by rw [bne_iff_ne]; exact he
  go_enter_d Tryd.func44, Tryd.ntmps44
  go_wp2
  go_end0
  exact ⟨rfl, rfl⟩
theorem octet_Get.closure_ok (g0 : Nat) (a1 a2 : Value) (w : World) (h0 : w.cell? ⟨g0, 0, none⟩ = some (.int .i64 0)) :
    CallsD Tryd.prog 44 #[.pointer (some ⟨g0, 0, none⟩), a1, a2] .returning w fun e_ u' w' =>
      u' = .returning ∧ (e_ = .returned (.tuple #[]) ∧ w' = w) := by
  go_enter_d Tryd.func44, Tryd.ntmps44
  go_wp2
  go_end0
  exact ⟨rfl, rfl⟩

set_option maxHeartbeats 8000000 in
set_option maxRecDepth 100000 in
theorem octet_Get.calls (k : Nat) (A0 : Option Addr) (c0 : Nat) (l0 : List Int) (a1 : Int) (a2 : Int) (r1 : Int) (r2 : Int) (r3 : Int) (w : World) (hr0 : Kd.C (Kd.int .u8) w A0 l0.length l0) (hc0 : l0.length ≤ c0) (h : octet_Get.f k l0 a1 a2 = some (r1, r2, r3)) :
    Calls Tryd.prog 25 #[.slice A0 l0.length c0, .int .i64 a1, .int .i64 a2] w fun e w' => e = .returned (.tuple #[.int .i64 r1, .int .i64 r2, .int .i64 r3]) ∧ Below w.heap.size w w' := by
  have HR := Aside0.mk hr0
  have HC := Aside0.mk hc0
  clear hr0 hc0
  have hmf : ∀ (fn : Fn) (first cap : Array Value) (w : World), (Instr.makeFunc fn first cap).run Tryd.prog w = .ok (.func fn first cap) w := fun _ _ _ _ => rfl
  have below3 : ∀ (w : World) (o1 o2 o3 : Obj), Below w.heap.size w (((w.alloc o1).alloc o2).alloc o3) := fun w o1 o2 o3 => below_alloc (below_alloc (below_alloc (Below.refl _ _) _) _) _
  by_cases c1 : a2 < 1
  · simp only [octet_Get.f, if_pos c1, Option.some.injEq, Prod.mk.injEq] at h
    obtain ⟨rfl, rfl, rfl⟩ := h
    go_enter_defers Tryd.func25, Tryd.ntmps25
    go_wp2
    simp [bodyPostD, Leaves, settle, results, Tryd.results25, go_sem, below3]
  by_cases c2 : a2 > 8
  · simp only [octet_Get.f, if_neg c1, if_pos c2, Option.some.injEq, Prod.mk.injEq] at h
    obtain ⟨rfl, rfl, rfl⟩ := h
    go_enter_defers Tryd.func25, Tryd.ntmps25
    go_wp2
    simp [bodyPostD, Leaves, settle, results, Tryd.results25, go_sem, below3]
  simp only [octet_Get.f, if_neg c1, if_neg c2] at h
  obtain ⟨⟨q1, q2⟩, hcut, h⟩ := Option.bind_eq_some_iff.mp h
  obtain ⟨u, hga, h⟩ := Option.bind_eq_some_iff.mp h
  have HCUT := Aside0.mk hcut
  have HGA := Aside0.mk hga
  have HH := Aside0.mk h
  clear hcut hga h
  go_enter_defers Tryd.func25, Tryd.ntmps25
  go_wp2_with (go_at_call 45; (with_reducible refine (octet_cut.calls A0 c0 l0 a1 a2 q1 q2 _ ?s1 ?s2 HCUT.out).mono ?_); (case s1 => (repeat (first | exact HR.out | (with_reducible refine Kd.C_alloc ?_ _)))); (case s2 => exact HC.out); rintro e w' ⟨A1, c1', rfl, hC1, hK1, rfl⟩; have HC1 := Aside0.mk hC1; have HK1 := Aside0.mk hK1; clear hC1 hK1)
  refine (octet_gather_uint64.calls k A1 c1' q1 u _ ?s1 HK1.out HGA.out).mono ?_
  case s1 => exact HC1.out _ (by repeat (first | exact HR.out | (with_reducible refine Kd.C_alloc ?_ _)))
  rintro e w' ⟨rfl, ⟨nd, rfl⟩⟩
  have h := HH.out
  clear HH HCUT HGA HC1 HK1 HR HC
  obtain ⟨W, hW⟩ : ∃ W, W = ((((w.alloc (Obj.cells #[Value.int IntKind.i64 0] 3)).alloc (Obj.cells #[Value.int IntKind.i64 0] 3)).alloc (Obj.cells #[Value.int IntKind.i64 q2] 24)).drewN nd) := ⟨_, rfl⟩
  have hb : Below w.heap.size w W := by rw [hW]; exact pw_below_drewN (below3 _ _ _ _) _
  have hT : OctTri w.heap.size 3 24 W (.int .i64 0) (.int .i64 0) (.int .i64 q2) := by
    rw [hW]
    refine OctTri.drewN ⟨blk_alloc (blk_alloc (blk_new _ _) _) _, blk_alloc ?_ _, ?_⟩ _
    · have := blk_new (w.alloc (Obj.cells #[Value.int IntKind.i64 0] 3)) (Obj.cells #[Value.int IntKind.i64 0] 3)
      rwa [World.size_alloc] at this
    · have := blk_new ((w.alloc (Obj.cells #[Value.int IntKind.i64 0] 3)).alloc (Obj.cells #[Value.int IntKind.i64 0] 3)) (Obj.cells #[Value.int IntKind.i64 q2] 24)
      rwa [World.size_alloc, World.size_alloc] at this
  rw [← hW]
  have k0 := hT.c0
  have k1 := hT.c1
  have k2 := hT.c2
  have f0 := hT.z0
  have f1 := hT.z1
  have f2 := hT.z2
  have hb := Aside0.mk hb
  have hT := Aside0.mk hT
  clear hW nd
  by_cases c3 : u > 9223372036854775807
  · rw [if_pos c3] at h
    simp only [Option.some.injEq, Prod.mk.injEq] at h
    obtain ⟨rfl, rfl, rfl⟩ := h
    go_wp2
    go_region
    all_goals
      go_wp2
      refine leaves_cons (f := 44) (args := #[.pointer (some ⟨w.heap.size + 1 + 1, 0, none⟩), .pointer (some ⟨w.heap.size, 0, none⟩), .pointer (some ⟨w.heap.size + 1, 0, none⟩)]) (by simp) (by simp [go_sem]) ?_
      refine (octet_Get.closure_err _ _ _ (wrap64 u) (wrap64 (a1 + a2)) 11 _ (by omega) ?s0 ?s1 ?s2 ?s3 ?s4 (by omega)).mono ?_
      case s0 => refine OctTri.c2 (ta := 3) (tb := 24) (v0 := .int .i64 (wrap64 u)) (v1 := .int .i64 (wrap64 (a1 + a2))) (v2 := .int .i64 11) ?_; (with_reducible repeat (first | exact hT.out | apply OctTri.set0 | apply OctTri.set1 | apply OctTri.set2 | apply OctTri.drew | apply OctTri.drewN))
      case s1 => refine OctTri.c0 (ta := 3) (tb := 24) (v0 := .int .i64 (wrap64 u)) (v1 := .int .i64 (wrap64 (a1 + a2))) (v2 := .int .i64 11) ?_; (with_reducible repeat (first | exact hT.out | apply OctTri.set0 | apply OctTri.set1 | apply OctTri.set2 | apply OctTri.drew | apply OctTri.drewN))
      case s2 => refine OctTri.c1 (ta := 3) (tb := 24) (v0 := .int .i64 (wrap64 u)) (v1 := .int .i64 (wrap64 (a1 + a2))) (v2 := .int .i64 11) ?_; (with_reducible repeat (first | exact hT.out | apply OctTri.set0 | apply OctTri.set1 | apply OctTri.set2 | apply OctTri.drew | apply OctTri.drewN))
      case s3 => refine OctTri.z0 (ta := 3) (tb := 24) (v0 := .int .i64 (wrap64 u)) (v1 := .int .i64 (wrap64 (a1 + a2))) (v2 := .int .i64 11) ?_; (with_reducible repeat (first | exact hT.out | apply OctTri.set0 | apply OctTri.set1 | apply OctTri.set2 | apply OctTri.drew | apply OctTri.drewN))
      case s4 => refine OctTri.z1 (ta := 3) (tb := 24) (v0 := .int .i64 (wrap64 u)) (v1 := .int .i64 (wrap64 (a1 + a2))) (v2 := .int .i64 11) ?_; (with_reducible repeat (first | exact hT.out | apply OctTri.set0 | apply OctTri.set1 | apply OctTri.set2 | apply OctTri.drew | apply OctTri.drewN))
      rintro e u' w'' ⟨rfl, rfl, hw⟩
      have T3 : OctTri w.heap.size 3 24 w'' (.int .i64 0) (.int .i64 0) (.int .i64 11) := by
        rw [hw]
        (with_reducible repeat (first | exact hT.out | apply OctTri.set0 | apply OctTri.set1 | apply OctTri.set2 | apply OctTri.drew | apply OctTri.drewN))
      have B3 : Below w.heap.size w w'' := by
        rw [hw]
        (with_reducible repeat (first | exact hb.out | (with_reducible refine below_set ?_ (by omega)) | (with_reducible refine below_drew1 ?_)))
      have y0 := T3.c0
      have y1 := T3.c1
      have y2 := T3.c2
      clear hw T3
      simp [Leaves, settle, results, Tryd.results25, go_sem, y0, y1, y2, B3, IntKind.wrap_i64, wrap64]
  rw [if_neg c3] at h
  by_cases c4 : q2 = 0
  · rw [if_pos c4] at h
    simp only [Option.some.injEq, Prod.mk.injEq] at h
    obtain ⟨rfl, rfl, rfl⟩ := h
    subst c4
    go_wp2
    go_region
    all_goals
      go_wp2
      refine leaves_cons (f := 44) (args := #[.pointer (some ⟨w.heap.size + 1 + 1, 0, none⟩), .pointer (some ⟨w.heap.size, 0, none⟩), .pointer (some ⟨w.heap.size + 1, 0, none⟩)]) (by simp) (by simp [go_sem]) ?_
      refine (octet_Get.closure_ok _ _ _ _ ?s0).mono ?_
      case s0 => refine OctTri.c2 (ta := 3) (tb := 24) (v0 := .int .i64 (wrap64 u)) (v1 := .int .i64 (wrap64 (a1 + a2))) (v2 := .int .i64 0) ?_; (with_reducible repeat (first | exact hT.out | apply OctTri.set0 | apply OctTri.set1 | apply OctTri.set2 | apply OctTri.drew | apply OctTri.drewN))
      rintro e u' w'' ⟨rfl, rfl, hw⟩
      have T3 : OctTri w.heap.size 3 24 w'' (.int .i64 (wrap64 u)) (.int .i64 (wrap64 (a1 + a2))) (.int .i64 0) := by
        rw [hw]
        (with_reducible repeat (first | exact hT.out | apply OctTri.set0 | apply OctTri.set1 | apply OctTri.set2 | apply OctTri.drew | apply OctTri.drewN))
      have B3 : Below w.heap.size w w'' := by
        rw [hw]
        (with_reducible repeat (first | exact hb.out | (with_reducible refine below_set ?_ (by omega)) | (with_reducible refine below_drew1 ?_)))
      have y0 := T3.c0
      have y1 := T3.c1
      have y2 := T3.c2
      clear hw T3
      simp [Leaves, settle, results, Tryd.results25, go_sem, y0, y1, y2, B3, IntKind.wrap_i64, wrap64]
  · rw [if_neg c4] at h
    simp only [Option.some.injEq, Prod.mk.injEq] at h
    obtain ⟨rfl, rfl, rfl⟩ := h
    go_wp2
    go_region
    all_goals
      go_wp2
      refine leaves_cons (f := 44) (args := #[.pointer (some ⟨w.heap.size + 1 + 1, 0, none⟩), .pointer (some ⟨w.heap.size, 0, none⟩), .pointer (some ⟨w.heap.size + 1, 0, none⟩)]) (by simp) (by simp [go_sem]) ?_
      refine (octet_Get.closure_err _ _ _ (wrap64 u) (wrap64 (a1 + a2)) q2 _ c4 ?s0 ?s1 ?s2 ?s3 ?s4 (by omega)).mono ?_
      case s0 => refine OctTri.c2 (ta := 3) (tb := 24) (v0 := .int .i64 (wrap64 u)) (v1 := .int .i64 (wrap64 (a1 + a2))) (v2 := .int .i64 q2) ?_; (with_reducible repeat (first | exact hT.out | apply OctTri.set0 | apply OctTri.set1 | apply OctTri.set2 | apply OctTri.drew | apply OctTri.drewN))
      case s1 => refine OctTri.c0 (ta := 3) (tb := 24) (v0 := .int .i64 (wrap64 u)) (v1 := .int .i64 (wrap64 (a1 + a2))) (v2 := .int .i64 q2) ?_; (with_reducible repeat (first | exact hT.out | apply OctTri.set0 | apply OctTri.set1 | apply OctTri.set2 | apply OctTri.drew | apply OctTri.drewN))
      case s2 => refine OctTri.c1 (ta := 3) (tb := 24) (v0 := .int .i64 (wrap64 u)) (v1 := .int .i64 (wrap64 (a1 + a2))) (v2 := .int .i64 q2) ?_; (with_reducible repeat (first | exact hT.out | apply OctTri.set0 | apply OctTri.set1 | apply OctTri.set2 | apply OctTri.drew | apply OctTri.drewN))
      case s3 => refine OctTri.z0 (ta := 3) (tb := 24) (v0 := .int .i64 (wrap64 u)) (v1 := .int .i64 (wrap64 (a1 + a2))) (v2 := .int .i64 q2) ?_; (with_reducible repeat (first | exact hT.out | apply OctTri.set0 | apply OctTri.set1 | apply OctTri.set2 | apply OctTri.drew | apply OctTri.drewN))
      case s4 => refine OctTri.z1 (ta := 3) (tb := 24) (v0 := .int .i64 (wrap64 u)) (v1 := .int .i64 (wrap64 (a1 + a2))) (v2 := .int .i64 q2) ?_; (with_reducible repeat (first | exact hT.out | apply OctTri.set0 | apply OctTri.set1 | apply OctTri.set2 | apply OctTri.drew | apply OctTri.drewN))
      rintro e u' w'' ⟨rfl, rfl, hw⟩
      have T3 : OctTri w.heap.size 3 24 w'' (.int .i64 0) (.int .i64 0) (.int .i64 q2) := by
        rw [hw]
        (with_reducible repeat (first | exact hT.out | apply OctTri.set0 | apply OctTri.set1 | apply OctTri.set2 | apply OctTri.drew | apply OctTri.drewN))
      have B3 : Below w.heap.size w w'' := by
        rw [hw]
        (with_reducible repeat (first | exact hb.out | (with_reducible refine below_set ?_ (by omega)) | (with_reducible refine below_drew1 ?_)))
      have y0 := T3.c0
      have y1 := T3.c1
      have y2 := T3.c2
      clear hw T3
      simp [Leaves, settle, results, Tryd.results25, go_sem, y0, y1, y2, B3, IntKind.wrap_i64, wrap64]

/-! ### octet_gather_int64: function 61 -/
def octet_gather_int64.l0 : Nat → Int → List Int → Int → Int → Option (Int)
  | 0, _, _, _, _ => none
  | k + 1, x3, x6, x7, x8 => if x8 < x7 then (if 0 ≤ x8 then (if x8 < (x6.length : Int) then (if 0 ≤ (wrap64 (8 * x8)) then (octet_gather_int64.l0 k (Go.bits .or .i64 x3 (shl .i64 (wrap64 (rd x6 x8)) (wrap64 (8 * x8)))) x6 x7 (wrap64 (x8 + 1))) else (none)) else (none)) else (none)) else (some x3)
def octet_gather_int64.f (k : Nat) (l0 : List Int) : Option (Int) := octet_gather_int64.l0 k 0 l0 (l0.length : Int) 0
theorem octet_gather_int64.mono_l : ∀ k, (∀ y0 y1 y2 y3, LeO (octet_gather_int64.l0 k y0 y1 y2 y3) (octet_gather_int64.l0 (k + 1) y0 y1 y2 y3))
  | 0 => fun _ _ _ _ r h => by simp [octet_gather_int64.l0] at h
  | k + 1 => by
    have ih0 := octet_gather_int64.mono_l k
    · intro y0 y1 y2 y3
      unfold octet_gather_int64.l0
      repeat' first
      | (with_reducible exact ih0 _ _ _ _)
      | (with_reducible exact LeO.refl _)
      | (with_reducible exact LeO.none _)
      | (with_reducible refine LeO.ite ?_ ?_)
      | (with_reducible refine LeO.bind ?_ (fun _ => ?_))
      | exact ih0 _ _ _ _
      | exact LeO.none _
      | refine LeO.ite ?_ ?_
      | refine LeO.bind ?_ (fun _ => ?_)
theorem octet_gather_int64.mono : ∀ a0 k, LeO (octet_gather_int64.f k a0) (octet_gather_int64.f (k + 1) a0) := by
  intro a0 k
  have ih0 := octet_gather_int64.mono_l k
  unfold octet_gather_int64.f
  repeat' first
      | (with_reducible exact ih0 _ _ _ _)
      | (with_reducible exact LeO.refl _)
      | (with_reducible exact LeO.none _)
      | (with_reducible refine LeO.ite ?_ ?_)
      | (with_reducible refine LeO.bind ?_ (fun _ => ?_))
      | exact ih0 _ _ _ _
      | exact LeO.none _
      | refine LeO.ite ?_ ?_
      | refine LeO.bind ?_ (fun _ => ?_)
set_option maxHeartbeats 8000000 in
set_option maxRecDepth 100000 in
theorem octet_gather_int64.calls (k : Nat) (A0 : Option Addr) (c0 : Nat) (l0 : List Int) (r : Int) (w : World) (hr0 : Kd.C (Kd.int .u8) w A0 l0.length l0) (hc0 : l0.length ≤ c0) (h : octet_gather_int64.f k l0 = some r) :
    Calls Tryd.prog 61 #[.slice A0 l0.length c0] w fun e w' => e = .returned (.int .i64 r) ∧ Drawn0 w w' := by
  have HR0 := Aside0.mk hr0
  have HC0 := Aside0.mk hc0
  clear hr0 hc0
  have H : (octet_gather_int64.l0 k 0 l0 (l0.length : Int) 0) = some r := h
  clear h
  have H' := Aside0.mk H
  clear H
  go_enter Tryd.func61, Tryd.ntmps61
  go_wp2
  go_loopg [3, 8] k (fun kq v3 v8 w' => ∃ (x3_1 : Int) (x8_1 : Int), v3 = .int .i64 x3_1 ∧ v8 = .int .i64 x8_1 ∧ Aside0 (octet_gather_int64.l0 kq x3_1 l0 (l0.length : Int) x8_1 = some r) ∧ Aside0 (kq ≤ k) ∧ Drawn0 w w')
  case atStart => exact ⟨(0), (0), (by first | rfl | (simp; done) | (simp [*]; done)), (by first | rfl | (simp; done) | (simp [*]; done)), H', ⟨Nat.le_refl _⟩, by repeat (first | exact Drawn0.refl _ | apply Drawn0.step)⟩
  case round =>
    clear H'
    obtain ⟨x3_1, x8_1, rfl, rfl, HA, HK1, ⟨m1, rfl⟩⟩ := hrel
    cases gk with
    | zero => exact absurd HA.out (by simp [octet_gather_int64.l0])
    | succ k1 =>
      have H := HA.out
      clear HA
      simp only [octet_gather_int64.l0] at H
      by_cases c2 : x8_1 < (l0.length : Int)
      · rw [if_pos c2] at H
        have c2b0 : decide (x8_1 < (l0.length : Int)) = true := decide_eq_true c2
        clear c2
        by_cases c3 : 0 ≤ x8_1
        · rw [if_pos c3] at H
          have c3b0 : decide (0 ≤ x8_1) = true := decide_eq_true c3
          clear c3
          by_cases c4 : x8_1 < (l0.length : Int)
          · rw [if_pos c4] at H
            have c4b0 : decide (x8_1 < (l0.length : Int)) = true := decide_eq_true c4
            clear c4
            obtain ⟨ji5, hji5⟩ : ∃ j_ : Int, (wrap64 (8 * x8_1)) = j_ := ⟨_, rfl⟩
            replace H : (if 0 ≤ (ji5) then (octet_gather_int64.l0 k1 (Go.bits .or .i64 x3_1 (shl .i64 (wrap64 (rd l0 x8_1)) (ji5))) l0 (l0.length : Int) (wrap64 (x8_1 + 1))) else (none)) = some r := by first | (rw [hji5] at H; exact H) | (simp only [hji5] at H ⊢; exact H)
            have hji5w : (IntKind.i64.wrap (8 * x8_1)) = ji5 := (i64_w _).trans hji5
            by_cases c6 : 0 ≤ (ji5)
            · rw [if_pos c6] at H
              have c6b0 := eq_true c6
              have c6b1 : decide (0 ≤ (ji5)) = true := decide_eq_true c6
              clear c6
              obtain ⟨ji7, hji7⟩ : ∃ j_ : Int, (shl .i64 (wrap64 (rd l0 x8_1)) (ji5)) = j_ := ⟨_, rfl⟩
              replace H : (octet_gather_int64.l0 k1 (Go.bits .or .i64 x3_1 (ji7)) l0 (l0.length : Int) (wrap64 (x8_1 + 1))) = some r := by first | (rw [hji7] at H; exact H) | (simp only [hji7] at H ⊢; exact H)
              have hji7_ : (IntKind.i64.wrap ((wrap64 (rd l0 x8_1)) * 2 ^ min (ji5).toNat 64)) = ji7 := hji7
              have hji7z : (ji5) ≤ 64 → (IntKind.i64.wrap ((wrap64 (rd l0 x8_1)) * 2 ^ (ji5).toNat)) = ji7 := shl_small hji7
              have hji7y : (wrap64 ((wrap64 (rd l0 x8_1)) * 2 ^ min (ji5).toNat 64)) = ji7 := (i64_w _).symm.trans hji7_
              have hji7x : (ji5) ≤ 64 → (wrap64 ((wrap64 (rd l0 x8_1)) * 2 ^ (ji5).toNat)) = ji7 := fun h_ => (i64_w _).symm.trans (hji7z h_)
              have H' := Aside0.mk H
              clear H
              have p145 : 0 ≤ (x8_1 : Int) := of_decide_eq_true (by first | (with_reducible assumption) | assumption)
              have q145 : x8_1 < (l0.length : Int) := of_decide_eq_true (by first | (with_reducible assumption) | assumption)
              obtain ⟨ad145, e145, hx145_0⟩ := Kd.at_int HR0.out x8_1 p145 q145
              cases e145
              replace p145 := eq_true p145
              replace q145 := eq_true q145
              go_wp2
              go_roundg k1
              case measure => have := HK1.out; omega
              case rel => exact ⟨(Go.bits .or .i64 x3_1 (ji7)), (wrap64 (x8_1 + 1)), (by first | rfl | (simp; done) | (simp only [← hji7] <;> (first | rfl | simp)) | (simp [*]; done)), (by first | rfl | (simp; done) | (simp [*]; done)), H', ⟨by have := HK1.out; omega⟩, by repeat (first | exact Drawn0.refl _ | apply Drawn0.step)⟩
            · rw [if_neg c6] at H
              exact absurd H (by simp)
          · rw [if_neg c4] at H
            exact absurd H (by simp)
        · rw [if_neg c3] at H
          exact absurd H (by simp)
      · rw [if_neg c2] at H
        have c2b0 : decide (x8_1 < (l0.length : Int)) = false := decide_eq_false c2
        clear c2
        obtain rfl := Option.some.inj H
        go_wp2
        go_ret
        exact ⟨by first | rfl | (simp; done) | (simp [*]; done), by repeat (first | exact Drawn0.refl _ | apply Drawn0.step)⟩

/-! ### octet_GetSigned: function 47 -/
def octet_GetSigned.f (k : Nat) (l0 : List Int) (a1 : Int) : Option (Int × Int × Int) :=
  (octet_cut.f l0 a1 8).bind fun c => if c.2 = 0 then (octet_gather_int64.f k c.1).bind fun u => some (u, wrap64 (a1 + 8), 0) else some (0, 0, c.2)
theorem octet_GetSigned.mono : ∀ a0 a1 k, LeO (octet_GetSigned.f k a0 a1) (octet_GetSigned.f (k + 1) a0 a1) := by
  intro a0 a1 k
  unfold octet_GetSigned.f
  exact LeO.bind (LeO.refl _) fun c => LeO.ite (LeO.bind (octet_gather_int64.mono _ _) fun u => LeO.refl _) (LeO.refl _)
set_option maxHeartbeats 8000000 in
set_option maxRecDepth 100000 in
theorem octet_GetSigned.calls (k : Nat) (A0 : Option Addr) (c0 : Nat) (l0 : List Int) (a1 : Int) (r1 : Int) (r2 : Int) (r3 : Int) (w : World) (hr0 : Kd.C (Kd.int .u8) w A0 l0.length l0) (hc0 : l0.length ≤ c0) (h : octet_GetSigned.f k l0 a1 = some (r1, r2, r3)) :
    Calls Tryd.prog 47 #[.slice A0 l0.length c0, .int .i64 a1] w fun e w' => e = .returned (.tuple #[.int .i64 r1, .int .i64 r2, .int .i64 r3]) ∧ Drawn0 w w' := by
  have HR := Aside0.mk hr0
  have HC := Aside0.mk hc0
  clear hr0 hc0
  simp only [octet_GetSigned.f] at h
  obtain ⟨⟨q1, q2⟩, hcut, h⟩ := Option.bind_eq_some_iff.mp h
  have HCUT := Aside0.mk hcut
  clear hcut
  by_cases c4 : q2 = 0
  · subst c4
    rw [if_pos rfl] at h
    obtain ⟨u, hga, h⟩ := Option.bind_eq_some_iff.mp h
    simp only [Option.some.injEq, Prod.mk.injEq] at h
    obtain ⟨rfl, rfl, rfl⟩ := h
    have HGA := Aside0.mk hga
    clear hga
    go_enter Tryd.func47, Tryd.ntmps47
    go_wp2_with (go_at_call 45; (with_reducible refine (octet_cut.calls A0 c0 l0 a1 8 q1 0 _ ?s1 ?s2 HCUT.out).mono ?_); (case s1 => exact HR.out); (case s2 => exact HC.out); rintro e w' ⟨A1, c1', rfl, hC1, hK1, rfl⟩; have HC1 := Aside0.mk hC1; have HK1 := Aside0.mk hK1; clear hC1 hK1)
    refine (octet_gather_int64.calls k A1 c1' q1 u _ (HC1.out _ HR.out) HK1.out HGA.out).mono ?_
    rintro e w' ⟨rfl, ⟨nd, rfl⟩⟩
    go_wp2
    go_ret3
    exact ⟨rfl, ⟨_, rfl⟩⟩
  · rw [if_neg c4] at h
    simp only [Option.some.injEq, Prod.mk.injEq] at h
    obtain ⟨rfl, rfl, rfl⟩ := h
    have c5 : (q2 != 0) = true := by rw [bne_iff_ne]; exact c4
    go_enter Tryd.func47, Tryd.ntmps47
    go_wp2_with (go_at_call 45; (with_reducible refine (octet_cut.calls A0 c0 l0 a1 8 q1 q2 _ ?s1 ?s2 HCUT.out).mono ?_); (case s1 => exact HR.out); (case s2 => exact HC.out); rintro e w' ⟨A1, c1', rfl, hC1, hK1, rfl⟩; have HC1 := Aside0.mk hC1; have HK1 := Aside0.mk hK1; clear hC1 hK1)
    go_ret3
    exact ⟨rfl, ⟨0, rfl⟩⟩

/-! ### value_Read: function 26 -/
def value_Read.j0 : Nat → List Int → Int → Int → Bool → Option (Int × Int × Int × Int × Int)
  | 0, _, _, _, _ => none
  | k + 1, x0, x1, x7, x38 => if x38 = true then (some (0, 0, 0, 0, 30)) else (if 0 ≤ x7 then (if x7 < (gl0.length : Int) then (if (wrap64 (x1 + (rd gl0 x7))) > (x0.length : Int) then (some (0, 0, 0, 0, 10)) else (if ((x7) % 256) = 1 then ((octet_GetSigned.f k x0 x1).bind fun bt152 => ((value_Int.f bt152.1).bind fun bt155 => (some (bt155.1, bt155.2.1, bt155.2.2, wrap64 (x1 + (rd gl0 x7)), 0)))) else ((octet_Get.f k x0 x1 3).bind fun bt158 => ((octet_Get.f k x0 bt158.2.1 3).bind fun bt161 => ((value_Pair.f (wrap64 (bt158.1 - 1048576)) (wrap64 (bt161.1 - 1048576))).bind fun bt164 => (if bt164.2.2.2 = true then (some (bt164.1, bt164.2.1, bt164.2.2.1, wrap64 (x1 + (rd gl0 x7)), 0)) else (some (0, 0, 0, 0, 30)))))))) else (none)) else (none))
def value_Read.f (k : Nat) (l0 : List Int) (a1 : Int) : Option (Int × Int × Int × Int × Int) := (octet_Get.f k l0 a1 1).bind fun bt147 => (if bt147.2.2 = 0 then (if bt147.1 ≥ 3 then (value_Read.j0 k l0 bt147.2.1 bt147.1 true) else (if 0 ≤ bt147.1 then (if bt147.1 < (gl0.length : Int) then (value_Read.j0 k l0 bt147.2.1 bt147.1 ((rd gl0 bt147.1) == 0)) else (none)) else (none))) else (some (0, 0, 0, 0, bt147.2.2)))
theorem value_Read.mono_l : ∀ k, (∀ y0 y1 y2 y3, LeO (value_Read.j0 k y0 y1 y2 y3) (value_Read.j0 (k + 1) y0 y1 y2 y3))
  | 0 => fun _ _ _ _ r h => by simp [value_Read.j0] at h
  | k + 1 => by
    have ih0 := value_Read.mono_l k
    · intro y0 y1 y2 y3
      unfold value_Read.j0
      repeat' first
      | (with_reducible exact ih0 _ _ _ _)
      | (with_reducible exact octet_Get.mono _ _ _ _)
      | (with_reducible exact octet_GetSigned.mono _ _ _)
      | (with_reducible exact LeO.refl _)
      | (with_reducible exact LeO.none _)
      | (with_reducible refine LeO.ite ?_ ?_)
      | (with_reducible refine LeO.bind ?_ (fun _ => ?_))
      | exact ih0 _ _ _ _
      | exact octet_Get.mono _ _ _ _
      | exact octet_GetSigned.mono _ _ _
      | exact LeO.none _
      | refine LeO.ite ?_ ?_
      | refine LeO.bind ?_ (fun _ => ?_)
theorem value_Read.mono : ∀ a0 a1 k, LeO (value_Read.f k a0 a1) (value_Read.f (k + 1) a0 a1) := by
  intro a0 a1 k
  have ih0 := value_Read.mono_l k
  unfold value_Read.f
  repeat' first
      | (with_reducible exact ih0 _ _ _ _)
      | (with_reducible exact octet_Get.mono _ _ _ _)
      | (with_reducible exact octet_GetSigned.mono _ _ _)
      | (with_reducible exact LeO.refl _)
      | (with_reducible exact LeO.none _)
      | (with_reducible refine LeO.ite ?_ ?_)
      | (with_reducible refine LeO.bind ?_ (fun _ => ?_))
      | exact ih0 _ _ _ _
      | exact octet_Get.mono _ _ _ _
      | exact octet_GetSigned.mono _ _ _
      | exact LeO.none _
      | refine LeO.ite ?_ ?_
      | refine LeO.bind ?_ (fun _ => ?_)
set_option maxHeartbeats 8000000 in
set_option maxRecDepth 100000 in
theorem value_Read.calls (k : Nat) (A0 : Option Addr) (c0 : Nat) (l0 : List Int) (a1 : Int) (r1 : Int) (r2 : Int) (r3 : Int) (r4 : Int) (r5 : Int) (w : World) (hG : Gl w) (hr0 : Kd.C (Kd.int .u8) w A0 l0.length l0) (hc0 : l0.length ≤ c0) (h : value_Read.f k l0 a1 = some (r1, r2, r3, r4, r5)) :
    Calls Tryd.prog 26 #[.slice A0 l0.length c0, .int .i64 a1] w fun e w' => e = .returned (.tuple #[.agg #[.int .u8 r1, .int .i64 r2, .int .i64 r3], .int .i64 r4, .int .i64 r5]) ∧ Below w.heap.size w w' := by
  have hu37 := Tryd.underlying37
  have HG := Aside0.mk hG
  clear hG
  have HRG0 := Aside0.mk HG.out.g0
  have hal0 : Tryd.prog.arrayLen 87 = 3 := by kernel_rfl
  have HR0 := Aside0.mk hr0
  have HC0 := Aside0.mk hc0
  clear hr0 hc0
  have HB := Aside0.mk (Below.refl w.heap.size w)
  have H : ((octet_Get.f k l0 a1 1).bind fun bt147 => (if bt147.2.2 = 0 then (if bt147.1 ≥ 3 then (value_Read.j0 k l0 bt147.2.1 bt147.1 true) else (if 0 ≤ bt147.1 then (if bt147.1 < (gl0.length : Int) then (value_Read.j0 k l0 bt147.2.1 bt147.1 ((rd gl0 bt147.1) == 0)) else (none)) else (none))) else (some (0, 0, 0, 0, bt147.2.2)))) = some (r1, r2, r3, r4, r5) := h
  clear h
  replace H := Option.bind_eq_some_iff.mp H
  obtain ⟨⟨t147, t148, t149⟩, A30, H⟩ := H
  replace H : (if t149 = 0 then (if t147 ≥ 3 then (value_Read.j0 k l0 t148 t147 true) else (if 0 ≤ t147 then (if t147 < (gl0.length : Int) then (value_Read.j0 k l0 t148 t147 ((rd gl0 t147) == 0)) else (none)) else (none))) else (some (0, 0, 0, 0, t149))) = some (r1, r2, r3, r4, r5) := H
  have A3 := Aside0.mk A30
  clear A30
  by_cases c4 : t149 = 0
  · rw [if_pos c4] at H
    have c4b0 : (t149 == 0) = true := beq_iff_eq.mpr c4
    have c4b1 : (t149 != 0) = false := bne_eq_false_iff_eq.mpr c4
    clear c4
    have HC5 := Aside0.mk H
    clear H
    go_enter Tryd.func26, Tryd.ntmps26
    go_upto_region 4 with (first | ((with_reducible refine gate_dst (N := 4) rfl ?_); refine box_event ?hg (N := 4) ?hd (cs := #[.int .u8 0, .int .i64 0, .int .i64 0]) (t := 37) ?hr ?_; (case hd => rfl); (case hg => rfl); (case hr => first | (go_simp; done) | (go_simp; rfl)); intro gb146 hg w6 hbox hb; have n0_ := Aside0.mk (below_step (by repeat (first | (with_reducible first | exact HB.out | apply below_alloc | apply pw_below_drewN | apply below_drew1) | exact HB.out | exact ⟨HB.out.os, HB.out.tape, HB.out.output, HB.out.size, HB.out.block⟩)) hb); have n1_ := Aside0.mk (hbox); have n2_ := Aside0.mk ((by rw [hg]; exact (below_size (by repeat (first | (with_reducible first | exact HB.out | apply below_alloc | apply pw_below_drewN | apply below_drew1) | exact HB.out | exact ⟨HB.out.os, HB.out.tape, HB.out.output, HB.out.size, HB.out.block⟩))) : w.heap.size ≤ gb146)); have n3_ := Aside0.mk ((by rw [hg]; exact (below_size (by repeat (first | (with_reducible first | exact HB.out | apply below_alloc | apply pw_below_drewN | apply below_drew1) | exact HB.out | exact ⟨HB.out.os, HB.out.tape, HB.out.output, HB.out.size, HB.out.block⟩))) : w.heap.size ≤ gb146)); clear HB; have HB := n0_; have BK146 := n1_; have GW146 := n2_; have GE146 := n3_; clear n0_ n1_ n2_ n3_; clear hb hbox hg) | ((with_reducible refine gate_callee (f := 25) rfl ?_); refine goesL_ (some 23) rfl rfl Tryd.func25 (by kernel_rfl) rfl #[.slice A0 l0.length c0, .int .i64 a1, .int .i64 1] rfl (by (try simp only [List.map_toArray, List.map_cons, List.map_nil]); first | done | rfl | (simp only [List.length_drop, List.length_take]; rfl)) ?_; (with_reducible refine (octet_Get.calls k _ _ l0 a1 1 t147 t148 t149 _ ?side1 ?side2 A3.out).mono ?_); (case side1 => repeat (first | exact (Kd.C_below HR0.out HB.out) | (with_reducible refine Kd.C_alloc ?_ _) | (with_reducible refine Kd.C_drewN ?_ _) | (with_reducible refine Kd.C_drew ?_))); (case side2 => exact HC0.out); rintro e w7 ⟨rfl, hb⟩; refine ⟨_, rfl, ?_⟩; have n0_ := Aside0.mk (blk_below (g := gb146) (o := .cells #[.int .u8 0, .int .i64 0, .int .i64 0] 37 (0, 0)) (by (with_reducible repeat (first | refine blk_drewN ?_ _ | refine blk_drew ?_ | refine blk_alloc ?_ _)); exact BK146.out) hb); have n1_ := Aside0.mk (below_step (by repeat (first | (with_reducible first | exact HB.out | apply below_alloc | apply pw_below_drewN | apply below_drew1 | refine below_set ?_ GE146.out) | exact HB.out | exact ⟨HB.out.os, HB.out.tape, HB.out.output, HB.out.size, HB.out.block⟩)) hb); clear BK146; clear HB; have BK146 := n0_; have HB := n1_; clear n0_ n1_; (try clear hb); (try clear hb2); (try clear hk); (try clear hi)))
    (try simp only [Act.put, List.setIfInBounds_toArray, List.set_cons_zero, List.set_cons_succ])
    go_cut [38] (fun v38 wc => ∃ (kq : Nat) (x38_4 : Bool), v38 = .bool x38_4 ∧ Aside0 (value_Read.j0 kq l0 t148 t147 x38_4 = some (r1, r2, r3, r4, r5)) ∧ Aside0 (kq ≤ k) ∧ Aside0 (wc.heap[gb146]? = some (.cells #[.int .u8 0, .int .i64 0, .int .i64 0] 37 (0, 0))) ∧ Aside0 (Below w.heap.size w wc))
    case first =>
      have H := HC5.out
      clear HC5
      by_cases c8 : t147 ≥ 3
      · rw [if_pos c8] at H
        have c8b0 : decide (3 ≤ t147) = true := decide_eq_true c8
        clear c8
        (first | rw [c8b0] | (simp only [i64_w, i32_w]; rw [c8b0]) | skip)
        have H' := Aside0.mk H
        clear H
        go_wp2
        go_meet
        case rel => exact ⟨_, (true), (by first | rfl | (simp; done) | (simp [*]; done)), H', ⟨by first | omega | exact Nat.le_refl _⟩, ⟨by (with_reducible repeat (first | refine blk_drewN ?_ _ | refine blk_drew ?_ | refine blk_alloc ?_ _)); exact BK146.out⟩, ⟨by repeat (first | (with_reducible first | exact HB.out | apply below_alloc | apply pw_below_drewN | apply below_drew1 | refine below_set ?_ GE146.out) | exact HB.out | exact ⟨HB.out.os, HB.out.tape, HB.out.output, HB.out.size, HB.out.block⟩)⟩⟩
      · rw [if_neg c8] at H
        have c8b0 : decide (3 ≤ t147) = false := decide_eq_false c8
        clear c8
        (first | rw [c8b0] | (simp only [i64_w, i32_w]; rw [c8b0]) | skip)
        by_cases c9 : 0 ≤ t147
        · rw [if_pos c9] at H
          have c9b0 : decide (0 ≤ t147) = true := decide_eq_true c9
          clear c9
          by_cases c10 : t147 < (gl0.length : Int)
          · rw [if_pos c10] at H
            have c10b0 : decide (t147 < (gl0.length : Int)) = true := decide_eq_true c10
            clear c10
            have H' := Aside0.mk H
            clear H
            have p150 : 0 ≤ (t147 : Int) := of_decide_eq_true (by first | (with_reducible assumption) | assumption)
            have q150 : t147 < (gl0.length : Int) := of_decide_eq_true (by first | (with_reducible assumption) | assumption)
            have qn150 : ((t147 : Int) < 3) = True := eq_true (by have e_ : gl0.length = 3 := rfl; have h_ := q150; rw [e_] at h_; omega)
            obtain ⟨ad150, e150, hx150_0⟩ := Kd.at_int HRG0.out t147 p150 q150
            obtain rfl : (⟨0, 0, none⟩ : Addr) = ad150 := (by injection e150)
            (first | simp only [add_plain] at hx150_0 | simp only [add_at] at hx150_0 | simp only [Addr.add, Nat.zero_add] at hx150_0 | skip)
            replace hx150_0 := (HB.out.cell (World.block_lt_of_cell? w _ hx150_0)).trans hx150_0
            replace p150 := eq_true p150
            replace q150 := eq_true q150
            go_wp2
            go_meet
            case rel => exact ⟨_, (((rd gl0 t147) == 0)), (by first | rfl | (simp; done) | (simp [*]; done)), H', ⟨by first | omega | exact Nat.le_refl _⟩, ⟨by (with_reducible repeat (first | refine blk_drewN ?_ _ | refine blk_drew ?_ | refine blk_alloc ?_ _)); exact BK146.out⟩, ⟨by repeat (first | (with_reducible first | exact HB.out | apply below_alloc | apply pw_below_drewN | apply below_drew1 | refine below_set ?_ GE146.out) | exact HB.out | exact ⟨HB.out.os, HB.out.tape, HB.out.output, HB.out.size, HB.out.block⟩)⟩⟩
          · rw [if_neg c10] at H
            exact absurd H (by simp)
        · rw [if_neg c9] at H
          exact absurd H (by simp)
    case rest =>
      clear HC5
      try clear c1
      try clear p1
      try clear q1
      try clear hx1
      try clear c2
      try clear p2
      try clear c4
      try clear c4b0
      try clear c4b1
      try clear c8
      try clear c8b0
      try clear c9
      try clear c9b0
      try clear c10
      try clear c10b0
      try clear hx150_0
      try clear p150
      try clear q150
      obtain ⟨kq, x38_4, rfl, HA, HJ4, BK146, HB⟩ := hcut
      cases kq with
      | zero => exact absurd HA.out (by simp [value_Read.j0])
      | succ kj4 =>
        have H := HA.out
        clear HA
        simp only [value_Read.j0] at H
        by_cases c11 : x38_4 = true
        · subst c11
          have H1 : (some (0, 0, 0, 0, 30)) = some (r1, r2, r3, r4, r5) := by rw [if_pos rfl] at H; exact H
          clear H
          have H := H1
          clear H1
          simp only [Option.some.injEq, Prod.mk.injEq] at H
          obtain ⟨rfl, rfl, rfl, rfl, rfl⟩ := H
          have hcz12_0 : wc.cell? ⟨gb146, 0, none⟩ = some (.int .u8 0) := (blk_cell BK146.out 0).trans rfl
          have hcz12_1 : wc.cell? ⟨gb146, 1, none⟩ = some (.int .i64 0) := (blk_cell BK146.out 1).trans rfl
          have hcz12_2 : wc.cell? ⟨gb146, 2, none⟩ = some (.int .i64 0) := (blk_cell BK146.out 2).trans rfl
          have hfz12_0 := blk_frozen BK146.out 0
          have hfz12_1 := blk_frozen BK146.out 1
          have hfz12_2 := blk_frozen BK146.out 2
          go_wp2
          refine bodyPost_ret (results_ctt rfl _ _ gb146 37 #[.int .u8 0, .int .i64 0, .int .i64 0] (0, 0) _ rfl (by (with_reducible repeat (first | refine blk_drewN ?_ _ | refine blk_drew ?_ | refine blk_alloc ?_ _)); refine blk_put (cs := #[.int .u8 0, .int .i64 0, .int .i64 0]) ?_ 2 _ rfl; (with_reducible repeat (first | refine blk_drewN ?_ _ | refine blk_drew ?_ | refine blk_alloc ?_ _)); refine blk_put (cs := #[.int .u8 0, .int .i64 0, .int .i64 0]) ?_ 1 _ rfl; (with_reducible repeat (first | refine blk_drewN ?_ _ | refine blk_drew ?_ | refine blk_alloc ?_ _)); refine blk_put (cs := #[.int .u8 0, .int .i64 0, .int .i64 0]) ?_ 0 _ rfl; (with_reducible repeat (first | refine blk_drewN ?_ _ | refine blk_drew ?_ | refine blk_alloc ?_ _)); exact BK146.out) Tryd.underlying37 rfl (by kernel_rfl)) rfl ?_
          exact ⟨by first | rfl | (simp [errW_none, errW_some] <;> rfl) | (simp [*, errW_none, errW_some] <;> rfl), by repeat (first | (with_reducible first | exact HB.out | apply below_alloc | apply pw_below_drewN | apply below_drew1 | refine below_set ?_ GE146.out) | exact HB.out | exact ⟨HB.out.os, HB.out.tape, HB.out.output, HB.out.size, HB.out.block⟩)⟩
        · replace c11 := Bool.eq_false_iff.mpr c11
          subst c11
          have H1 : (if 0 ≤ t147 then (if t147 < (gl0.length : Int) then (if (wrap64 (t148 + (rd gl0 t147))) > (l0.length : Int) then (some (0, 0, 0, 0, 10)) else (if ((t147) % 256) = 1 then ((octet_GetSigned.f kj4 l0 t148).bind fun bt152 => ((value_Int.f bt152.1).bind fun bt155 => (some (bt155.1, bt155.2.1, bt155.2.2, wrap64 (t148 + (rd gl0 t147)), 0)))) else ((octet_Get.f kj4 l0 t148 3).bind fun bt158 => ((octet_Get.f kj4 l0 bt158.2.1 3).bind fun bt161 => ((value_Pair.f (wrap64 (bt158.1 - 1048576)) (wrap64 (bt161.1 - 1048576))).bind fun bt164 => (if bt164.2.2.2 = true then (some (bt164.1, bt164.2.1, bt164.2.2.1, wrap64 (t148 + (rd gl0 t147)), 0)) else (some (0, 0, 0, 0, 30)))))))) else (none)) else (none)) = some (r1, r2, r3, r4, r5) := by rw [if_neg (show ¬ (false = true) by decide)] at H; exact H
          clear H
          have H := H1
          clear H1
          by_cases c13 : 0 ≤ t147
          · rw [if_pos c13] at H
            have c13b0 : decide (0 ≤ t147) = true := decide_eq_true c13
            clear c13
            by_cases c14 : t147 < (gl0.length : Int)
            · rw [if_pos c14] at H
              have c14b0 : decide (t147 < (gl0.length : Int)) = true := decide_eq_true c14
              clear c14
              by_cases c15 : (wrap64 (t148 + (rd gl0 t147))) > (l0.length : Int)
              · rw [if_pos c15] at H
                have c15b0 : decide ((l0.length : Int) < (wrap64 (t148 + (rd gl0 t147)))) = true := decide_eq_true c15
                clear c15
                simp only [Option.some.injEq, Prod.mk.injEq] at H
                obtain ⟨rfl, rfl, rfl, rfl, rfl⟩ := H
                have p151 : 0 ≤ (t147 : Int) := of_decide_eq_true (by first | (with_reducible assumption) | assumption)
                have q151 : t147 < (gl0.length : Int) := of_decide_eq_true (by first | (with_reducible assumption) | assumption)
                have qn151 : ((t147 : Int) < 3) = True := eq_true (by have e_ : gl0.length = 3 := rfl; have h_ := q151; rw [e_] at h_; omega)
                obtain ⟨ad151, e151, hx151_0⟩ := Kd.at_int HRG0.out t147 p151 q151
                obtain rfl : (⟨0, 0, none⟩ : Addr) = ad151 := (by injection e151)
                (first | simp only [add_plain] at hx151_0 | simp only [add_at] at hx151_0 | simp only [Addr.add, Nat.zero_add] at hx151_0 | skip)
                replace hx151_0 := (HB.out.cell (World.block_lt_of_cell? w _ hx151_0)).trans hx151_0
                replace p151 := eq_true p151
                replace q151 := eq_true q151
                have hcz16_0 : wc.cell? ⟨gb146, 0, none⟩ = some (.int .u8 0) := (blk_cell BK146.out 0).trans rfl
                have hcz16_1 : wc.cell? ⟨gb146, 1, none⟩ = some (.int .i64 0) := (blk_cell BK146.out 1).trans rfl
                have hcz16_2 : wc.cell? ⟨gb146, 2, none⟩ = some (.int .i64 0) := (blk_cell BK146.out 2).trans rfl
                have hfz16_0 := blk_frozen BK146.out 0
                have hfz16_1 := blk_frozen BK146.out 1
                have hfz16_2 := blk_frozen BK146.out 2
                go_wp2
                refine bodyPost_ret (results_ctt rfl _ _ gb146 37 #[.int .u8 0, .int .i64 0, .int .i64 0] (0, 0) _ rfl (by (with_reducible repeat (first | refine blk_drewN ?_ _ | refine blk_drew ?_ | refine blk_alloc ?_ _)); refine blk_put (cs := #[.int .u8 0, .int .i64 0, .int .i64 0]) ?_ 2 _ rfl; (with_reducible repeat (first | refine blk_drewN ?_ _ | refine blk_drew ?_ | refine blk_alloc ?_ _)); refine blk_put (cs := #[.int .u8 0, .int .i64 0, .int .i64 0]) ?_ 1 _ rfl; (with_reducible repeat (first | refine blk_drewN ?_ _ | refine blk_drew ?_ | refine blk_alloc ?_ _)); refine blk_put (cs := #[.int .u8 0, .int .i64 0, .int .i64 0]) ?_ 0 _ rfl; (with_reducible repeat (first | refine blk_drewN ?_ _ | refine blk_drew ?_ | refine blk_alloc ?_ _)); exact BK146.out) Tryd.underlying37 rfl (by kernel_rfl)) rfl ?_
                exact ⟨by first | rfl | (simp [errW_none, errW_some] <;> rfl) | (simp [*, errW_none, errW_some] <;> rfl), by repeat (first | (with_reducible first | exact HB.out | apply below_alloc | apply pw_below_drewN | apply below_drew1 | refine below_set ?_ GE146.out) | exact HB.out | exact ⟨HB.out.os, HB.out.tape, HB.out.output, HB.out.size, HB.out.block⟩)⟩
              · rw [if_neg c15] at H
                have c15b0 : decide ((l0.length : Int) < (wrap64 (t148 + (rd gl0 t147)))) = false := decide_eq_false c15
                clear c15
                by_cases c17 : ((t147) % 256) = 1
                · rw [if_pos c17] at H
                  have c17b0 : (((t147) % 256) == 1) = true := beq_iff_eq.mpr c17
                  have c17b1 : (((t147) % 256) != 1) = false := bne_eq_false_iff_eq.mpr c17
                  clear c17
                  replace H := Option.bind_eq_some_iff.mp H
                  obtain ⟨⟨t152, t153, t154⟩, A180, H⟩ := H
                  replace H : ((value_Int.f t152).bind fun bt155 => (some (bt155.1, bt155.2.1, bt155.2.2, wrap64 (t148 + (rd gl0 t147)), 0))) = some (r1, r2, r3, r4, r5) := H
                  have A18 := Aside0.mk A180
                  clear A180
                  replace H := Option.bind_eq_some_iff.mp H
                  obtain ⟨⟨t155, t156, t157⟩, A190, H⟩ := H
                  replace H : (some (t155, t156, t157, wrap64 (t148 + (rd gl0 t147)), 0)) = some (r1, r2, r3, r4, r5) := H
                  have A19 := Aside0.mk A190
                  clear A190
                  simp only [Option.some.injEq, Prod.mk.injEq] at H
                  obtain ⟨rfl, rfl, rfl, rfl, rfl⟩ := H
                  have p151 : 0 ≤ (t147 : Int) := of_decide_eq_true (by first | (with_reducible assumption) | assumption)
                  have q151 : t147 < (gl0.length : Int) := of_decide_eq_true (by first | (with_reducible assumption) | assumption)
                  have qn151 : ((t147 : Int) < 3) = True := eq_true (by have e_ : gl0.length = 3 := rfl; have h_ := q151; rw [e_] at h_; omega)
                  obtain ⟨ad151, e151, hx151_0⟩ := Kd.at_int HRG0.out t147 p151 q151
                  obtain rfl : (⟨0, 0, none⟩ : Addr) = ad151 := (by injection e151)
                  (first | simp only [add_plain] at hx151_0 | simp only [add_at] at hx151_0 | simp only [Addr.add, Nat.zero_add] at hx151_0 | skip)
                  replace hx151_0 := (HB.out.cell (World.block_lt_of_cell? w _ hx151_0)).trans hx151_0
                  replace p151 := eq_true p151
                  replace q151 := eq_true q151
                  go_wp2_with (first | ((with_reducible refine gate_callee (f := 47) rfl ?_); refine goesL_ (some 56) rfl rfl Tryd.func47 (by kernel_rfl) rfl #[.slice A0 l0.length c0, .int .i64 t148] rfl (by (try simp only [List.map_toArray, List.map_cons, List.map_nil]); first | done | rfl | (simp only [List.length_drop, List.length_take]; rfl)) ?_; (with_reducible refine (octet_GetSigned.calls kj4 _ _ l0 t148 t152 t153 t154 _ ?side1 ?side2 A18.out).mono ?_); (case side1 => repeat (first | exact (Kd.C_below HR0.out HB.out) | (with_reducible refine Kd.C_alloc ?_ _) | (with_reducible refine Kd.C_drewN ?_ _) | (with_reducible refine Kd.C_drew ?_))); (case side2 => exact HC0.out); rintro e w' ⟨rfl, ⟨nd, rfl⟩⟩; refine ⟨_, rfl, ?_⟩; (try (rw [drewN_self wc]; generalize hq_ : World.drewN wc _ = wc; have n0_ : Aside0 (wc.heap[gb146]? = some (.cells #[.int .u8 0, .int .i64 0, .int .i64 0] 37 (0, 0))) := ⟨by rw [← hq_]; exact (by (with_reducible repeat (first | refine blk_drewN ?_ _ | refine blk_drew ?_ | refine blk_alloc ?_ _)); exact BK146.out)⟩; have n1_ : Aside0 (Below w.heap.size w wc) := ⟨by rw [← hq_]; exact (by repeat (first | (with_reducible first | exact HB.out | apply below_alloc | apply pw_below_drewN | apply below_drew1 | refine below_set ?_ GE146.out) | exact HB.out | exact ⟨HB.out.os, HB.out.tape, HB.out.output, HB.out.size, HB.out.block⟩))⟩; clear BK146 HB hq_; have BK146 := n0_; have HB := n1_; clear n0_ n1_)); (try have hcu20_0 : wc.cell? ⟨gb146, 0, none⟩ = some (.int .u8 0) := (blk_cell BK146.out 0).trans rfl); (try have hfu20_0 := blk_frozen BK146.out 0); (try have hcu20_1 : wc.cell? ⟨gb146, 1, none⟩ = some (.int .i64 0) := (blk_cell BK146.out 1).trans rfl); (try have hfu20_1 := blk_frozen BK146.out 1); (try have hcu20_2 : wc.cell? ⟨gb146, 2, none⟩ = some (.int .i64 0) := (blk_cell BK146.out 2).trans rfl); (try have hfu20_2 := blk_frozen BK146.out 2)) | ((with_reducible refine gate_callee (f := 48) rfl ?_); refine goesL_ (some 61) rfl rfl Tryd.func48 (by kernel_rfl) rfl #[.int .i64 t152] rfl (by (try simp only [List.map_toArray, List.map_cons, List.map_nil]); first | done | rfl | (simp only [List.length_drop, List.length_take]; rfl)) ?_; (with_reducible refine (value_Int.calls t152 t155 t156 t157 _ A19.out).mono ?_); rintro e w21 ⟨rfl, hb⟩; refine ⟨_, rfl, ?_⟩; have n0_ := Aside0.mk (blk_below (g := gb146) (o := .cells #[.int .u8 0, .int .i64 0, .int .i64 0] 37 (0, 0)) (by (with_reducible repeat (first | refine blk_drewN ?_ _ | refine blk_drew ?_ | refine blk_alloc ?_ _)); exact BK146.out) hb); have n1_ := Aside0.mk (below_step (by repeat (first | (with_reducible first | exact HB.out | apply below_alloc | apply pw_below_drewN | apply below_drew1 | refine below_set ?_ GE146.out) | exact HB.out | exact ⟨HB.out.os, HB.out.tape, HB.out.output, HB.out.size, HB.out.block⟩)) hb); clear BK146; clear HB; have BK146 := n0_; have HB := n1_; clear n0_ n1_; (try clear hb); (try clear hb2); (try clear hk); (try clear hi); have hcz22_0 : w21.cell? ⟨gb146, 0, none⟩ = some (.int .u8 0) := (blk_cell BK146.out 0).trans rfl; have hcz22_1 : w21.cell? ⟨gb146, 1, none⟩ = some (.int .i64 0) := (blk_cell BK146.out 1).trans rfl; have hcz22_2 : w21.cell? ⟨gb146, 2, none⟩ = some (.int .i64 0) := (blk_cell BK146.out 2).trans rfl; have hfz22_0 := blk_frozen BK146.out 0; have hfz22_1 := blk_frozen BK146.out 1; have hfz22_2 := blk_frozen BK146.out 2))
                  refine bodyPost_ret (results_ctt rfl _ _ gb146 37 #[.int .u8 t155, .int .i64 t156, .int .i64 t157] (0, 0) _ rfl (by (with_reducible repeat (first | refine blk_drewN ?_ _ | refine blk_drew ?_ | refine blk_alloc ?_ _)); refine blk_put (cs := #[.int .u8 t155, .int .i64 t156, .int .i64 0]) ?_ 2 _ rfl; (with_reducible repeat (first | refine blk_drewN ?_ _ | refine blk_drew ?_ | refine blk_alloc ?_ _)); refine blk_put (cs := #[.int .u8 t155, .int .i64 0, .int .i64 0]) ?_ 1 _ rfl; (with_reducible repeat (first | refine blk_drewN ?_ _ | refine blk_drew ?_ | refine blk_alloc ?_ _)); refine blk_put (cs := #[.int .u8 0, .int .i64 0, .int .i64 0]) ?_ 0 _ rfl; (with_reducible repeat (first | refine blk_drewN ?_ _ | refine blk_drew ?_ | refine blk_alloc ?_ _)); exact BK146.out) Tryd.underlying37 rfl (by kernel_rfl)) rfl ?_
                  exact ⟨by first | rfl | (simp [errW_none, errW_some] <;> rfl) | (simp [*, errW_none, errW_some] <;> rfl), by repeat (first | (with_reducible first | exact HB.out | apply below_alloc | apply pw_below_drewN | apply below_drew1 | refine below_set ?_ GE146.out) | exact HB.out | exact ⟨HB.out.os, HB.out.tape, HB.out.output, HB.out.size, HB.out.block⟩)⟩
                · rw [if_neg c17] at H
                  have c17b0 : (((t147) % 256) == 1) = false := beq_eq_false_iff_ne.mpr c17
                  have c17b1 : (((t147) % 256) != 1) = true := bne_iff_ne.mpr c17
                  replace H := Option.bind_eq_some_iff.mp H
                  obtain ⟨⟨t158, t159, t160⟩, A230, H⟩ := H
                  replace H : ((octet_Get.f kj4 l0 t159 3).bind fun bt161 => ((value_Pair.f (wrap64 (t158 - 1048576)) (wrap64 (bt161.1 - 1048576))).bind fun bt164 => (if bt164.2.2.2 = true then (some (bt164.1, bt164.2.1, bt164.2.2.1, wrap64 (t148 + (rd gl0 t147)), 0)) else (some (0, 0, 0, 0, 30))))) = some (r1, r2, r3, r4, r5) := H
                  have A23 := Aside0.mk A230
                  clear A230
                  replace H := Option.bind_eq_some_iff.mp H
                  obtain ⟨⟨t161, t162, t163⟩, A240, H⟩ := H
                  replace H : ((value_Pair.f (wrap64 (t158 - 1048576)) (wrap64 (t161 - 1048576))).bind fun bt164 => (if bt164.2.2.2 = true then (some (bt164.1, bt164.2.1, bt164.2.2.1, wrap64 (t148 + (rd gl0 t147)), 0)) else (some (0, 0, 0, 0, 30)))) = some (r1, r2, r3, r4, r5) := H
                  have A24 := Aside0.mk A240
                  clear A240
                  replace H := Option.bind_eq_some_iff.mp H
                  obtain ⟨⟨t164, t165, t166, t167⟩, A250, H⟩ := H
                  replace H : (if t167 = true then (some (t164, t165, t166, wrap64 (t148 + (rd gl0 t147)), 0)) else (some (0, 0, 0, 0, 30))) = some (r1, r2, r3, r4, r5) := H
                  have A25 := Aside0.mk A250
                  clear A250
                  by_cases c26 : t167 = true
                  · subst c26
                    have H1 : (some (t164, t165, t166, wrap64 (t148 + (rd gl0 t147)), 0)) = some (r1, r2, r3, r4, r5) := by rw [if_pos rfl] at H; exact H
                    clear H
                    have H := H1
                    clear H1
                    simp only [Option.some.injEq, Prod.mk.injEq] at H
                    obtain ⟨rfl, rfl, rfl, rfl, rfl⟩ := H
                    have p151 : 0 ≤ (t147 : Int) := of_decide_eq_true (by first | (with_reducible assumption) | assumption)
                    have q151 : t147 < (gl0.length : Int) := of_decide_eq_true (by first | (with_reducible assumption) | assumption)
                    have qn151 : ((t147 : Int) < 3) = True := eq_true (by have e_ : gl0.length = 3 := rfl; have h_ := q151; rw [e_] at h_; omega)
                    obtain ⟨ad151, e151, hx151_0⟩ := Kd.at_int HRG0.out t147 p151 q151
                    obtain rfl : (⟨0, 0, none⟩ : Addr) = ad151 := (by injection e151)
                    (first | simp only [add_plain] at hx151_0 | simp only [add_at] at hx151_0 | simp only [Addr.add, Nat.zero_add] at hx151_0 | skip)
                    replace hx151_0 := (HB.out.cell (World.block_lt_of_cell? w _ hx151_0)).trans hx151_0
                    replace p151 := eq_true p151
                    replace q151 := eq_true q151
                    go_wp2_with (first | ((with_reducible refine gate_callee (f := 25) rfl ?_); refine goesL_ (some 66) rfl rfl Tryd.func25 (by kernel_rfl) rfl #[.slice A0 l0.length c0, .int .i64 t148, .int .i64 3] rfl (by (try simp only [List.map_toArray, List.map_cons, List.map_nil]); first | done | rfl | (simp only [List.length_drop, List.length_take]; rfl)) ?_; (with_reducible refine (octet_Get.calls kj4 _ _ l0 t148 3 t158 t159 t160 _ ?side1 ?side2 A23.out).mono ?_); (case side1 => repeat (first | exact (Kd.C_below HR0.out HB.out) | (with_reducible refine Kd.C_alloc ?_ _) | (with_reducible refine Kd.C_drewN ?_ _) | (with_reducible refine Kd.C_drew ?_))); (case side2 => exact HC0.out); rintro e w27 ⟨rfl, hb⟩; refine ⟨_, rfl, ?_⟩; have n0_ := Aside0.mk (blk_below (g := gb146) (o := .cells #[.int .u8 0, .int .i64 0, .int .i64 0] 37 (0, 0)) (by (with_reducible repeat (first | refine blk_drewN ?_ _ | refine blk_drew ?_ | refine blk_alloc ?_ _)); exact BK146.out) hb); have n1_ := Aside0.mk (below_step (by repeat (first | (with_reducible first | exact HB.out | apply below_alloc | apply pw_below_drewN | apply below_drew1 | refine below_set ?_ GE146.out) | exact HB.out | exact ⟨HB.out.os, HB.out.tape, HB.out.output, HB.out.size, HB.out.block⟩)) hb); clear BK146; clear HB; have BK146 := n0_; have HB := n1_; clear n0_ n1_; (try clear hb); (try clear hb2); (try clear hk); (try clear hi)) | ((with_reducible refine gate_callee (f := 25) rfl ?_); refine goesL_ (some 73) rfl rfl Tryd.func25 (by kernel_rfl) rfl #[.slice A0 l0.length c0, .int .i64 t159, .int .i64 3] rfl (by (try simp only [List.map_toArray, List.map_cons, List.map_nil]); first | done | rfl | (simp only [List.length_drop, List.length_take]; rfl)) ?_; (with_reducible refine (octet_Get.calls kj4 _ _ l0 t159 3 t161 t162 t163 _ ?side1 ?side2 A24.out).mono ?_); (case side1 => repeat (first | exact (Kd.C_below HR0.out HB.out) | (with_reducible refine Kd.C_alloc ?_ _) | (with_reducible refine Kd.C_drewN ?_ _) | (with_reducible refine Kd.C_drew ?_))); (case side2 => exact HC0.out); rintro e w28 ⟨rfl, hb⟩; refine ⟨_, rfl, ?_⟩; have n0_ := Aside0.mk (blk_below (g := gb146) (o := .cells #[.int .u8 0, .int .i64 0, .int .i64 0] 37 (0, 0)) (by (with_reducible repeat (first | refine blk_drewN ?_ _ | refine blk_drew ?_ | refine blk_alloc ?_ _)); exact BK146.out) hb); have n1_ := Aside0.mk (below_step (by repeat (first | (with_reducible first | exact HB.out | apply below_alloc | apply pw_below_drewN | apply below_drew1 | refine below_set ?_ GE146.out) | exact HB.out | exact ⟨HB.out.os, HB.out.tape, HB.out.output, HB.out.size, HB.out.block⟩)) hb); clear BK146; clear HB; have BK146 := n0_; have HB := n1_; clear n0_ n1_; (try clear hb); (try clear hb2); (try clear hk); (try clear hi)) | ((with_reducible refine gate_callee (f := 49) rfl ?_); refine goesL_ (some 82) rfl rfl Tryd.func49 (by kernel_rfl) rfl #[.int .i64 (wrap64 (t158 - 1048576)), .int .i64 (wrap64 (t161 - 1048576))] rfl (by (try simp only [List.map_toArray, List.map_cons, List.map_nil]); first | done | rfl | (simp only [List.length_drop, List.length_take]; rfl)) ?_; (with_reducible refine (value_Pair.calls (wrap64 (t158 - 1048576)) (wrap64 (t161 - 1048576)) t164 t165 t166 true _ A25.out).mono ?_); rintro e w29 ⟨rfl, hb⟩; refine ⟨_, rfl, ?_⟩; have n0_ := Aside0.mk (blk_below (g := gb146) (o := .cells #[.int .u8 0, .int .i64 0, .int .i64 0] 37 (0, 0)) (by (with_reducible repeat (first | refine blk_drewN ?_ _ | refine blk_drew ?_ | refine blk_alloc ?_ _)); exact BK146.out) hb); have n1_ := Aside0.mk (below_step (by repeat (first | (with_reducible first | exact HB.out | apply below_alloc | apply pw_below_drewN | apply below_drew1 | refine below_set ?_ GE146.out) | exact HB.out | exact ⟨HB.out.os, HB.out.tape, HB.out.output, HB.out.size, HB.out.block⟩)) hb); clear BK146; clear HB; have BK146 := n0_; have HB := n1_; clear n0_ n1_; (try clear hb); (try clear hb2); (try clear hk); (try clear hi)) | ((with_reducible refine gate_dst (N := 18) rfl ?_); refine box_event ?hg (N := 18) ?hd (cs := #[.int .u8 0, .int .i64 0, .int .i64 0]) (t := 37) ?hr ?_; (case hd => rfl); (case hg => rfl); (case hr => first | (go_simp; done) | (go_simp; rfl)); intro gb168 hg w30 hbox hb; have n0_ := Aside0.mk (blk_below (g := gb146) (o := .cells #[.int .u8 0, .int .i64 0, .int .i64 0] 37 (0, 0)) (by (with_reducible repeat (first | refine blk_drewN ?_ _ | refine blk_drew ?_ | refine blk_alloc ?_ _)); exact BK146.out) hb); have n1_ := Aside0.mk (below_step (by repeat (first | (with_reducible first | exact HB.out | apply below_alloc | apply pw_below_drewN | apply below_drew1 | refine below_set ?_ GE146.out) | exact HB.out | exact ⟨HB.out.os, HB.out.tape, HB.out.output, HB.out.size, HB.out.block⟩)) hb); have n2_ := Aside0.mk (hbox); have n3_ := Aside0.mk ((by rw [hg]; exact (below_size (by repeat (first | (with_reducible first | exact HB.out | apply below_alloc | apply pw_below_drewN | apply below_drew1 | refine below_set ?_ GE146.out) | exact HB.out | exact ⟨HB.out.os, HB.out.tape, HB.out.output, HB.out.size, HB.out.block⟩))) : w.heap.size ≤ gb168)); have n4_ := Aside0.mk ((by rw [hg]; exact (below_size (by repeat (first | (with_reducible first | exact HB.out | apply below_alloc | apply pw_below_drewN | apply below_drew1 | refine below_set ?_ GE146.out) | exact HB.out | exact ⟨HB.out.os, HB.out.tape, HB.out.output, HB.out.size, HB.out.block⟩))) : w.heap.size ≤ gb168)); have n5_ := Aside0.mk ((by rw [hg]; exact Nat.ne_of_lt (blk_lt (g := gb146) (o := .cells #[.int .u8 0, .int .i64 0, .int .i64 0] 37 (0, 0)) (by (with_reducible repeat (first | refine blk_drewN ?_ _ | refine blk_drew ?_ | refine blk_alloc ?_ _)); exact BK146.out)) : gb146 ≠ gb168)); have n6_ := Aside0.mk ((by rw [hg]; exact Nat.ne_of_gt (blk_lt (g := gb146) (o := .cells #[.int .u8 0, .int .i64 0, .int .i64 0] 37 (0, 0)) (by (with_reducible repeat (first | refine blk_drewN ?_ _ | refine blk_drew ?_ | refine blk_alloc ?_ _)); exact BK146.out)) : gb168 ≠ gb146)); clear BK146; clear HB; have BK146 := n0_; have HB := n1_; have BK168 := n2_; have GW168 := n3_; have GE168 := n4_; have NB146_168 := n5_; have NB168_146 := n6_; clear n0_ n1_ n2_ n3_ n4_ n5_ n6_; clear hb hbox hg; have hnb31 := NB168_146.out; have hnc31 := NB146_168.out; have hcz32_0 : w30.cell? ⟨gb168, 0, none⟩ = some (.int .u8 0) := (blk_cell BK168.out 0).trans rfl; have hcz32_1 : w30.cell? ⟨gb168, 1, none⟩ = some (.int .i64 0) := (blk_cell BK168.out 1).trans rfl; have hcz32_2 : w30.cell? ⟨gb168, 2, none⟩ = some (.int .i64 0) := (blk_cell BK168.out 2).trans rfl; have hfz32_0 := blk_frozen BK168.out 0; have hfz32_1 := blk_frozen BK168.out 1; have hfz32_2 := blk_frozen BK168.out 2; have hcz33_0 : w30.cell? ⟨gb146, 0, none⟩ = some (.int .u8 0) := (blk_cell BK146.out 0).trans rfl; have hcz33_1 : w30.cell? ⟨gb146, 1, none⟩ = some (.int .i64 0) := (blk_cell BK146.out 1).trans rfl; have hcz33_2 : w30.cell? ⟨gb146, 2, none⟩ = some (.int .i64 0) := (blk_cell BK146.out 2).trans rfl; have hfz33_0 := blk_frozen BK146.out 0; have hfz33_1 := blk_frozen BK146.out 1; have hfz33_2 := blk_frozen BK146.out 2))
                    refine bodyPost_ret (results_ctt rfl _ _ gb146 37 #[.int .u8 t164, .int .i64 t165, .int .i64 t166] (0, 0) _ rfl (by (with_reducible repeat (first | refine blk_drewN ?_ _ | refine blk_drew ?_ | refine blk_alloc ?_ _)); refine blk_put (cs := #[.int .u8 t164, .int .i64 t165, .int .i64 0]) ?_ 2 _ rfl; (with_reducible repeat (first | refine blk_drewN ?_ _ | refine blk_drew ?_ | refine blk_alloc ?_ _)); refine blk_put (cs := #[.int .u8 t164, .int .i64 0, .int .i64 0]) ?_ 1 _ rfl; (with_reducible repeat (first | refine blk_drewN ?_ _ | refine blk_drew ?_ | refine blk_alloc ?_ _)); refine blk_put (cs := #[.int .u8 0, .int .i64 0, .int .i64 0]) ?_ 0 _ rfl; (with_reducible repeat (first | refine blk_drewN ?_ _ | refine blk_drew ?_ | refine blk_alloc ?_ _)); refine blk_far ?_ NB146_168.out _; (with_reducible repeat (first | refine blk_drewN ?_ _ | refine blk_drew ?_ | refine blk_alloc ?_ _)); refine blk_far ?_ NB146_168.out _; (with_reducible repeat (first | refine blk_drewN ?_ _ | refine blk_drew ?_ | refine blk_alloc ?_ _)); refine blk_far ?_ NB146_168.out _; (with_reducible repeat (first | refine blk_drewN ?_ _ | refine blk_drew ?_ | refine blk_alloc ?_ _)); exact BK146.out) Tryd.underlying37 rfl (by kernel_rfl)) rfl ?_
                    exact ⟨by first | rfl | (simp [errW_none, errW_some] <;> rfl) | (simp [*, errW_none, errW_some] <;> rfl), by repeat (first | (with_reducible first | exact HB.out | apply below_alloc | apply pw_below_drewN | apply below_drew1 | refine below_set ?_ GE146.out | refine below_set ?_ GE168.out) | exact HB.out | exact ⟨HB.out.os, HB.out.tape, HB.out.output, HB.out.size, HB.out.block⟩)⟩
                  · replace c26 := Bool.eq_false_iff.mpr c26
                    subst c26
                    have H1 : (some (0, 0, 0, 0, 30)) = some (r1, r2, r3, r4, r5) := by rw [if_neg (show ¬ (false = true) by decide)] at H; exact H
                    clear H
                    have H := H1
                    clear H1
                    simp only [Option.some.injEq, Prod.mk.injEq] at H
                    obtain ⟨rfl, rfl, rfl, rfl, rfl⟩ := H
                    have p151 : 0 ≤ (t147 : Int) := of_decide_eq_true (by first | (with_reducible assumption) | assumption)
                    have q151 : t147 < (gl0.length : Int) := of_decide_eq_true (by first | (with_reducible assumption) | assumption)
                    have qn151 : ((t147 : Int) < 3) = True := eq_true (by have e_ : gl0.length = 3 := rfl; have h_ := q151; rw [e_] at h_; omega)
                    obtain ⟨ad151, e151, hx151_0⟩ := Kd.at_int HRG0.out t147 p151 q151
                    obtain rfl : (⟨0, 0, none⟩ : Addr) = ad151 := (by injection e151)
                    (first | simp only [add_plain] at hx151_0 | simp only [add_at] at hx151_0 | simp only [Addr.add, Nat.zero_add] at hx151_0 | skip)
                    replace hx151_0 := (HB.out.cell (World.block_lt_of_cell? w _ hx151_0)).trans hx151_0
                    replace p151 := eq_true p151
                    replace q151 := eq_true q151
                    go_wp2_with (first | ((with_reducible refine gate_callee (f := 25) rfl ?_); refine goesL_ (some 66) rfl rfl Tryd.func25 (by kernel_rfl) rfl #[.slice A0 l0.length c0, .int .i64 t148, .int .i64 3] rfl (by (try simp only [List.map_toArray, List.map_cons, List.map_nil]); first | done | rfl | (simp only [List.length_drop, List.length_take]; rfl)) ?_; (with_reducible refine (octet_Get.calls kj4 _ _ l0 t148 3 t158 t159 t160 _ ?side1 ?side2 A23.out).mono ?_); (case side1 => repeat (first | exact (Kd.C_below HR0.out HB.out) | (with_reducible refine Kd.C_alloc ?_ _) | (with_reducible refine Kd.C_drewN ?_ _) | (with_reducible refine Kd.C_drew ?_))); (case side2 => exact HC0.out); rintro e w34 ⟨rfl, hb⟩; refine ⟨_, rfl, ?_⟩; have n0_ := Aside0.mk (blk_below (g := gb146) (o := .cells #[.int .u8 0, .int .i64 0, .int .i64 0] 37 (0, 0)) (by (with_reducible repeat (first | refine blk_drewN ?_ _ | refine blk_drew ?_ | refine blk_alloc ?_ _)); exact BK146.out) hb); have n1_ := Aside0.mk (below_step (by repeat (first | (with_reducible first | exact HB.out | apply below_alloc | apply pw_below_drewN | apply below_drew1 | refine below_set ?_ GE146.out) | exact HB.out | exact ⟨HB.out.os, HB.out.tape, HB.out.output, HB.out.size, HB.out.block⟩)) hb); clear BK146; clear HB; have BK146 := n0_; have HB := n1_; clear n0_ n1_; (try clear hb); (try clear hb2); (try clear hk); (try clear hi)) | ((with_reducible refine gate_callee (f := 25) rfl ?_); refine goesL_ (some 73) rfl rfl Tryd.func25 (by kernel_rfl) rfl #[.slice A0 l0.length c0, .int .i64 t159, .int .i64 3] rfl (by (try simp only [List.map_toArray, List.map_cons, List.map_nil]); first | done | rfl | (simp only [List.length_drop, List.length_take]; rfl)) ?_; (with_reducible refine (octet_Get.calls kj4 _ _ l0 t159 3 t161 t162 t163 _ ?side1 ?side2 A24.out).mono ?_); (case side1 => repeat (first | exact (Kd.C_below HR0.out HB.out) | (with_reducible refine Kd.C_alloc ?_ _) | (with_reducible refine Kd.C_drewN ?_ _) | (with_reducible refine Kd.C_drew ?_))); (case side2 => exact HC0.out); rintro e w35 ⟨rfl, hb⟩; refine ⟨_, rfl, ?_⟩; have n0_ := Aside0.mk (blk_below (g := gb146) (o := .cells #[.int .u8 0, .int .i64 0, .int .i64 0] 37 (0, 0)) (by (with_reducible repeat (first | refine blk_drewN ?_ _ | refine blk_drew ?_ | refine blk_alloc ?_ _)); exact BK146.out) hb); have n1_ := Aside0.mk (below_step (by repeat (first | (with_reducible first | exact HB.out | apply below_alloc | apply pw_below_drewN | apply below_drew1 | refine below_set ?_ GE146.out) | exact HB.out | exact ⟨HB.out.os, HB.out.tape, HB.out.output, HB.out.size, HB.out.block⟩)) hb); clear BK146; clear HB; have BK146 := n0_; have HB := n1_; clear n0_ n1_; (try clear hb); (try clear hb2); (try clear hk); (try clear hi)) | ((with_reducible refine gate_callee (f := 49) rfl ?_); refine goesL_ (some 82) rfl rfl Tryd.func49 (by kernel_rfl) rfl #[.int .i64 (wrap64 (t158 - 1048576)), .int .i64 (wrap64 (t161 - 1048576))] rfl (by (try simp only [List.map_toArray, List.map_cons, List.map_nil]); first | done | rfl | (simp only [List.length_drop, List.length_take]; rfl)) ?_; (with_reducible refine (value_Pair.calls (wrap64 (t158 - 1048576)) (wrap64 (t161 - 1048576)) t164 t165 t166 false _ A25.out).mono ?_); rintro e w36 ⟨rfl, hb⟩; refine ⟨_, rfl, ?_⟩; have n0_ := Aside0.mk (blk_below (g := gb146) (o := .cells #[.int .u8 0, .int .i64 0, .int .i64 0] 37 (0, 0)) (by (with_reducible repeat (first | refine blk_drewN ?_ _ | refine blk_drew ?_ | refine blk_alloc ?_ _)); exact BK146.out) hb); have n1_ := Aside0.mk (below_step (by repeat (first | (with_reducible first | exact HB.out | apply below_alloc | apply pw_below_drewN | apply below_drew1 | refine below_set ?_ GE146.out) | exact HB.out | exact ⟨HB.out.os, HB.out.tape, HB.out.output, HB.out.size, HB.out.block⟩)) hb); clear BK146; clear HB; have BK146 := n0_; have HB := n1_; clear n0_ n1_; (try clear hb); (try clear hb2); (try clear hk); (try clear hi)) | ((with_reducible refine gate_dst (N := 18) rfl ?_); refine box_event ?hg (N := 18) ?hd (cs := #[.int .u8 0, .int .i64 0, .int .i64 0]) (t := 37) ?hr ?_; (case hd => rfl); (case hg => rfl); (case hr => first | (go_simp; done) | (go_simp; rfl)); intro gb168 hg w37 hbox hb; have n0_ := Aside0.mk (blk_below (g := gb146) (o := .cells #[.int .u8 0, .int .i64 0, .int .i64 0] 37 (0, 0)) (by (with_reducible repeat (first | refine blk_drewN ?_ _ | refine blk_drew ?_ | refine blk_alloc ?_ _)); exact BK146.out) hb); have n1_ := Aside0.mk (below_step (by repeat (first | (with_reducible first | exact HB.out | apply below_alloc | apply pw_below_drewN | apply below_drew1 | refine below_set ?_ GE146.out) | exact HB.out | exact ⟨HB.out.os, HB.out.tape, HB.out.output, HB.out.size, HB.out.block⟩)) hb); have n2_ := Aside0.mk (hbox); have n3_ := Aside0.mk ((by rw [hg]; exact (below_size (by repeat (first | (with_reducible first | exact HB.out | apply below_alloc | apply pw_below_drewN | apply below_drew1 | refine below_set ?_ GE146.out) | exact HB.out | exact ⟨HB.out.os, HB.out.tape, HB.out.output, HB.out.size, HB.out.block⟩))) : w.heap.size ≤ gb168)); have n4_ := Aside0.mk ((by rw [hg]; exact (below_size (by repeat (first | (with_reducible first | exact HB.out | apply below_alloc | apply pw_below_drewN | apply below_drew1 | refine below_set ?_ GE146.out) | exact HB.out | exact ⟨HB.out.os, HB.out.tape, HB.out.output, HB.out.size, HB.out.block⟩))) : w.heap.size ≤ gb168)); have n5_ := Aside0.mk ((by rw [hg]; exact Nat.ne_of_lt (blk_lt (g := gb146) (o := .cells #[.int .u8 0, .int .i64 0, .int .i64 0] 37 (0, 0)) (by (with_reducible repeat (first | refine blk_drewN ?_ _ | refine blk_drew ?_ | refine blk_alloc ?_ _)); exact BK146.out)) : gb146 ≠ gb168)); have n6_ := Aside0.mk ((by rw [hg]; exact Nat.ne_of_gt (blk_lt (g := gb146) (o := .cells #[.int .u8 0, .int .i64 0, .int .i64 0] 37 (0, 0)) (by (with_reducible repeat (first | refine blk_drewN ?_ _ | refine blk_drew ?_ | refine blk_alloc ?_ _)); exact BK146.out)) : gb168 ≠ gb146)); clear BK146; clear HB; have BK146 := n0_; have HB := n1_; have BK168 := n2_; have GW168 := n3_; have GE168 := n4_; have NB146_168 := n5_; have NB168_146 := n6_; clear n0_ n1_ n2_ n3_ n4_ n5_ n6_; clear hb hbox hg; have hnb38 := NB168_146.out; have hnc38 := NB146_168.out; have hcz39_0 : w37.cell? ⟨gb168, 0, none⟩ = some (.int .u8 0) := (blk_cell BK168.out 0).trans rfl; have hcz39_1 : w37.cell? ⟨gb168, 1, none⟩ = some (.int .i64 0) := (blk_cell BK168.out 1).trans rfl; have hcz39_2 : w37.cell? ⟨gb168, 2, none⟩ = some (.int .i64 0) := (blk_cell BK168.out 2).trans rfl; have hfz39_0 := blk_frozen BK168.out 0; have hfz39_1 := blk_frozen BK168.out 1; have hfz39_2 := blk_frozen BK168.out 2; have hcz40_0 : w37.cell? ⟨gb146, 0, none⟩ = some (.int .u8 0) := (blk_cell BK146.out 0).trans rfl; have hcz40_1 : w37.cell? ⟨gb146, 1, none⟩ = some (.int .i64 0) := (blk_cell BK146.out 1).trans rfl; have hcz40_2 : w37.cell? ⟨gb146, 2, none⟩ = some (.int .i64 0) := (blk_cell BK146.out 2).trans rfl; have hfz40_0 := blk_frozen BK146.out 0; have hfz40_1 := blk_frozen BK146.out 1; have hfz40_2 := blk_frozen BK146.out 2))
                    refine bodyPost_ret (results_ctt rfl _ _ gb146 37 #[.int .u8 0, .int .i64 0, .int .i64 0] (0, 0) _ rfl (by (with_reducible repeat (first | refine blk_drewN ?_ _ | refine blk_drew ?_ | refine blk_alloc ?_ _)); refine blk_put (cs := #[.int .u8 0, .int .i64 0, .int .i64 0]) ?_ 2 _ rfl; (with_reducible repeat (first | refine blk_drewN ?_ _ | refine blk_drew ?_ | refine blk_alloc ?_ _)); refine blk_put (cs := #[.int .u8 0, .int .i64 0, .int .i64 0]) ?_ 1 _ rfl; (with_reducible repeat (first | refine blk_drewN ?_ _ | refine blk_drew ?_ | refine blk_alloc ?_ _)); refine blk_put (cs := #[.int .u8 0, .int .i64 0, .int .i64 0]) ?_ 0 _ rfl; (with_reducible repeat (first | refine blk_drewN ?_ _ | refine blk_drew ?_ | refine blk_alloc ?_ _)); refine blk_far ?_ NB146_168.out _; (with_reducible repeat (first | refine blk_drewN ?_ _ | refine blk_drew ?_ | refine blk_alloc ?_ _)); refine blk_far ?_ NB146_168.out _; (with_reducible repeat (first | refine blk_drewN ?_ _ | refine blk_drew ?_ | refine blk_alloc ?_ _)); refine blk_far ?_ NB146_168.out _; (with_reducible repeat (first | refine blk_drewN ?_ _ | refine blk_drew ?_ | refine blk_alloc ?_ _)); exact BK146.out) Tryd.underlying37 rfl (by kernel_rfl)) rfl ?_
                    exact ⟨by first | rfl | (simp [errW_none, errW_some] <;> rfl) | (simp [*, errW_none, errW_some] <;> rfl), by repeat (first | (with_reducible first | exact HB.out | apply below_alloc | apply pw_below_drewN | apply below_drew1 | refine below_set ?_ GE146.out | refine below_set ?_ GE168.out) | exact HB.out | exact ⟨HB.out.os, HB.out.tape, HB.out.output, HB.out.size, HB.out.block⟩)⟩
            · rw [if_neg c14] at H
              exact absurd H (by simp)
          · rw [if_neg c13] at H
            exact absurd H (by simp)
  · rw [if_neg c4] at H
    have c4b0 : (t149 == 0) = false := beq_eq_false_iff_ne.mpr c4
    have c4b1 : (t149 != 0) = true := bne_iff_ne.mpr c4
    simp only [Option.some.injEq, Prod.mk.injEq] at H
    obtain ⟨rfl, rfl, rfl, rfl, rfl⟩ := H
    go_enter Tryd.func26, Tryd.ntmps26
    go_wp2_with (first | ((with_reducible refine gate_dst (N := 4) rfl ?_); refine box_event ?hg (N := 4) ?hd (cs := #[.int .u8 0, .int .i64 0, .int .i64 0]) (t := 37) ?hr ?_; (case hd => rfl); (case hg => rfl); (case hr => first | (go_simp; done) | (go_simp; rfl)); intro gb146 hg w41 hbox hb; have n0_ := Aside0.mk (below_step (by repeat (first | (with_reducible first | exact HB.out | apply below_alloc | apply pw_below_drewN | apply below_drew1) | exact HB.out | exact ⟨HB.out.os, HB.out.tape, HB.out.output, HB.out.size, HB.out.block⟩)) hb); have n1_ := Aside0.mk (hbox); have n2_ := Aside0.mk ((by rw [hg]; exact (below_size (by repeat (first | (with_reducible first | exact HB.out | apply below_alloc | apply pw_below_drewN | apply below_drew1) | exact HB.out | exact ⟨HB.out.os, HB.out.tape, HB.out.output, HB.out.size, HB.out.block⟩))) : w.heap.size ≤ gb146)); have n3_ := Aside0.mk ((by rw [hg]; exact (below_size (by repeat (first | (with_reducible first | exact HB.out | apply below_alloc | apply pw_below_drewN | apply below_drew1) | exact HB.out | exact ⟨HB.out.os, HB.out.tape, HB.out.output, HB.out.size, HB.out.block⟩))) : w.heap.size ≤ gb146)); clear HB; have HB := n0_; have BK146 := n1_; have GW146 := n2_; have GE146 := n3_; clear n0_ n1_ n2_ n3_; clear hb hbox hg) | ((with_reducible refine gate_callee (f := 25) rfl ?_); refine goesL_ (some 23) rfl rfl Tryd.func25 (by kernel_rfl) rfl #[.slice A0 l0.length c0, .int .i64 a1, .int .i64 1] rfl (by (try simp only [List.map_toArray, List.map_cons, List.map_nil]); first | done | rfl | (simp only [List.length_drop, List.length_take]; rfl)) ?_; (with_reducible refine (octet_Get.calls k _ _ l0 a1 1 t147 t148 t149 _ ?side1 ?side2 A3.out).mono ?_); (case side1 => repeat (first | exact (Kd.C_below HR0.out HB.out) | (with_reducible refine Kd.C_alloc ?_ _) | (with_reducible refine Kd.C_drewN ?_ _) | (with_reducible refine Kd.C_drew ?_))); (case side2 => exact HC0.out); rintro e w42 ⟨rfl, hb⟩; refine ⟨_, rfl, ?_⟩; have n0_ := Aside0.mk (blk_below (g := gb146) (o := .cells #[.int .u8 0, .int .i64 0, .int .i64 0] 37 (0, 0)) (by (with_reducible repeat (first | refine blk_drewN ?_ _ | refine blk_drew ?_ | refine blk_alloc ?_ _)); exact BK146.out) hb); have n1_ := Aside0.mk (below_step (by repeat (first | (with_reducible first | exact HB.out | apply below_alloc | apply pw_below_drewN | apply below_drew1 | refine below_set ?_ GE146.out) | exact HB.out | exact ⟨HB.out.os, HB.out.tape, HB.out.output, HB.out.size, HB.out.block⟩)) hb); clear BK146; clear HB; have BK146 := n0_; have HB := n1_; clear n0_ n1_; (try clear hb); (try clear hb2); (try clear hk); (try clear hi); have hcz43_0 : w42.cell? ⟨gb146, 0, none⟩ = some (.int .u8 0) := (blk_cell BK146.out 0).trans rfl; have hcz43_1 : w42.cell? ⟨gb146, 1, none⟩ = some (.int .i64 0) := (blk_cell BK146.out 1).trans rfl; have hcz43_2 : w42.cell? ⟨gb146, 2, none⟩ = some (.int .i64 0) := (blk_cell BK146.out 2).trans rfl; have hfz43_0 := blk_frozen BK146.out 0; have hfz43_1 := blk_frozen BK146.out 1; have hfz43_2 := blk_frozen BK146.out 2))
    refine bodyPost_ret (results_ctt rfl _ _ gb146 37 #[.int .u8 0, .int .i64 0, .int .i64 0] (0, 0) _ rfl (by (with_reducible repeat (first | refine blk_drewN ?_ _ | refine blk_drew ?_ | refine blk_alloc ?_ _)); refine blk_put (cs := #[.int .u8 0, .int .i64 0, .int .i64 0]) ?_ 2 _ rfl; (with_reducible repeat (first | refine blk_drewN ?_ _ | refine blk_drew ?_ | refine blk_alloc ?_ _)); refine blk_put (cs := #[.int .u8 0, .int .i64 0, .int .i64 0]) ?_ 1 _ rfl; (with_reducible repeat (first | refine blk_drewN ?_ _ | refine blk_drew ?_ | refine blk_alloc ?_ _)); refine blk_put (cs := #[.int .u8 0, .int .i64 0, .int .i64 0]) ?_ 0 _ rfl; (with_reducible repeat (first | refine blk_drewN ?_ _ | refine blk_drew ?_ | refine blk_alloc ?_ _)); exact BK146.out) Tryd.underlying37 rfl (by kernel_rfl)) rfl ?_
    exact ⟨by first | rfl | (simp [errW_none, errW_some] <;> rfl) | (simp [*, errW_none, errW_some] <;> rfl), by repeat (first | (with_reducible first | exact HB.out | apply below_alloc | apply pw_below_drewN | apply below_drew1 | refine below_set ?_ GE146.out) | exact HB.out | exact ⟨HB.out.os, HB.out.tape, HB.out.output, HB.out.size, HB.out.block⟩)⟩

/-! ### bytes_Equal: function 27 -/
def bytes_Equal.f (l0 : List Int) (l1 : List Int) : Option (Bool) := some ((strOfNums l0).toList == (strOfNums l1).toList)
set_option maxHeartbeats 8000000 in
set_option maxRecDepth 100000 in
theorem bytes_Equal.calls (A0 : Option Addr) (c0 : Nat) (l0 : List Int) (A1 : Option Addr) (c1 : Nat) (l1 : List Int) (r : Bool) (w : World) (hr0 : Kd.C (Kd.int .u8) w A0 l0.length l0) (hc0 : l0.length ≤ c0) (hr1 : Kd.C (Kd.int .u8) w A1 l1.length l1) (hc1 : l1.length ≤ c1) (h : bytes_Equal.f l0 l1 = some r) :
    Calls Tryd.prog 27 #[.slice A0 l0.length c0, .slice A1 l1.length c1] w fun e w' => e = .returned (.bool r) ∧ Drawn0 w w' := by
  have HR0 := Aside0.mk hr0
  have HC0 := Aside0.mk hc0
  clear hr0 hc0
  have HR1 := Aside0.mk hr1
  have HC1 := Aside0.mk hc1
  clear hr1 hc1
  have H : (some ((strOfNums l0).toList == (strOfNums l1).toList)) = some r := h
  clear h
  obtain rfl := Option.some.inj H
  have hcv3 := Kd.C_string (P := Tryd.prog) (A := A0) (c := c0) Tryd.underlying22 Tryd.underlying5 Tryd.underlying9 HR0.out
  (try have hcv4 := fun n_ : Nat => Kd.C_string (P := Tryd.prog) (A := A0) (c := c0) Tryd.underlying22 Tryd.underlying5 Tryd.underlying9 (Kd.C_drewN HR0.out n_))
  have hcv5 := Kd.C_string (P := Tryd.prog) (A := A1) (c := c1) Tryd.underlying22 Tryd.underlying5 Tryd.underlying9 HR1.out
  (try have hcv6 := fun n_ : Nat => Kd.C_string (P := Tryd.prog) (A := A1) (c := c1) Tryd.underlying22 Tryd.underlying5 Tryd.underlying9 (Kd.C_drewN HR1.out n_))
  go_enter Tryd.func27, Tryd.ntmps27
  go_wp2
  go_ret
  exact ⟨by first | rfl | (simp; done) | (simp [*]; done), by repeat (first | exact Drawn0.refl _ | apply Drawn0.step)⟩

end Go.Proofs.YtjidhcepdjdceaaDoor.P
