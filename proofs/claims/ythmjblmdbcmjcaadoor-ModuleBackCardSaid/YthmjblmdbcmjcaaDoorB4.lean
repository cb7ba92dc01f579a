/- Contracts of functions of this seat. -/
import Derived.Test.YthmjblmdbcmjcaaDoorB0
namespace Go.Proofs.YthmjblmdbcmjcaaDoor.B
open Go.RowKit Go.Proofs.YthmjblmdbcmjcaaDoorW.PrintWords Go.Proofs.YthmjblmdbcmjcaaDoorW.PrintLast Go.Proofs.YthmjblmdbcmjcaaDoorW.PrintMore
attribute [local go_sem] max2_int min2_int max_two min_two max_three min_three max_four min_four
set_option linter.unusedVariables false
set_option linter.unusedSimpArgs false

/-! ### octet_cut: function 73 -/
def octet_cut.f (l0 : List Int) (a1 : Int) (a2 : Int) : Option (List Int × Int) :=
  if 0 ≤ a2 then if a2 ≤ 9223372036854775807 then if a1 < 0 then some ([], 2) else if a1 > (l0.length : Int) then some ([], 2) else if (l0.length : Int) - a1 < a2 then some ([], 10) else some ((l0.take (a1 + a2).toNat).drop a1.toNat, 0) else none else none
def octet_cut.Post (A0 : Option Addr) (n0 : Nat) (l0 : List Int) (w : World) (r1 : List Int) (r2 : Int) (e : Ending) (w' : World) : Prop :=
  ∃ A c, e = .returned (.tuple #[.slice A r1.length c, .int .i64 r2]) ∧ (∀ W, Kd.C (Kd.int .u8) W A0 n0 l0 → Kd.C (Kd.int .u8) W A r1.length r1) ∧ r1.length ≤ c ∧ w = w'
set_option maxHeartbeats 1000000 in
/-- A piece of what came in, by its own address: the world stays. -/
theorem octet_cut.calls (A0 : Option Addr) (c0 : Nat) (l0 : List Int) (a1 : Int) (a2 : Int) (r1 : List Int) (r2 : Int) (w : World) (hr0 : Kd.C (Kd.int .u8) w A0 l0.length l0) (hc0 : l0.length ≤ c0)
    (h : octet_cut.f l0 a1 a2 = some (r1, r2)) :
    Calls Tryd.prog 73 #[.slice A0 l0.length c0, .int .i64 a1, .int .i64 a2] w (octet_cut.Post A0 l0.length l0 w r1 r2) := by
  have hm : (l0.length : Int) ≤ 9223372036854775807 := by have := hr0.2.1; omega
  have HR := Aside0.mk hr0; have HC := Aside0.mk hc0; clear hr0 hc0
  by_cases h2 : 0 ≤ a2
  case neg => simp [octet_cut.f, h2] at h
  by_cases h3 : a2 ≤ 9223372036854775807
  case neg => simp [octet_cut.f, h2, h3] at h
  by_cases c1 : a1 < 0
  · simp only [octet_cut.f, if_pos h2, if_pos h3, if_pos c1, Option.some.injEq, Prod.mk.injEq] at h
    obtain ⟨rfl, rfl⟩ := h
    go_enter Tryd.func73, Tryd.ntmps73
    go_wp2
    go_ret2
    exact ⟨none, 0, rfl, fun _ _ => Kd.C_nil _ _, Nat.le_refl _, rfl⟩
  by_cases c2 : a1 > (l0.length : Int)
  · simp only [octet_cut.f, if_pos h2, if_pos h3, if_neg c1, if_pos c2, Option.some.injEq, Prod.mk.injEq] at h
    obtain ⟨rfl, rfl⟩ := h
    go_enter Tryd.func73, Tryd.ntmps73
    go_wp2
    go_ret2
    exact ⟨none, 0, rfl, fun _ _ => Kd.C_nil _ _, Nat.le_refl _, rfl⟩
  by_cases c3 : (l0.length : Int) - a1 < a2
  · simp only [octet_cut.f, if_pos h2, if_pos h3, if_neg c1, if_neg c2, if_pos c3, Option.some.injEq, Prod.mk.injEq] at h
    obtain ⟨rfl, rfl⟩ := h
    go_enter Tryd.func73, Tryd.ntmps73
    go_wp2
    go_ret2
    exact ⟨none, 0, rfl, fun _ _ => Kd.C_nil _ _, Nat.le_refl _, rfl⟩
  · simp only [octet_cut.f, if_pos h2, if_pos h3, if_neg c1, if_neg c2, if_neg c3, Option.some.injEq, Prod.mk.injEq] at h
    obtain ⟨rfl, rfl⟩ := h
    have hC := fun W (h_ : Kd.C (Kd.int .u8) W A0 l0.length l0) => Kd.C_mid (lo := a1.toNat) (hi := (a1 + a2).toNat) (c := c0) h_ (by omega) (by omega) HC.out
    have hl : ((l0.take (a1 + a2).toNat).drop a1.toNat).length = (a1 + a2).toNat - a1.toNat := by rw [List.length_drop, List.length_take, Nat.min_eq_left (by omega)]
    have hk : ((l0.take (a1 + a2).toNat).drop a1.toNat).length ≤ c0 - a1.toNat := by have := HC.out; rw [hl]; omega
    have h5 : 0 ≤ a1 + a2 := by omega
    have h6 : a1 + a2 ≤ 9223372036854775807 := by omega
    have h7 : a1 ≤ a1 + a2 := by omega
    have h8 : a1 + a2 ≤ (c0 : Int) := by have := HC.out; omega
    have hcc := HC.out; have HL := Aside0.mk hl; have HCx := Aside0.mk hC; have HK := Aside0.mk hk; clear hC hk hl
    go_enter Tryd.func73, Tryd.ntmps73
    by_cases hq : c0 = a1.toNat
    · have hA := HCx.out
      simp only [if_pos hq] at hA; have HA := Aside0.mk hA; clear hA; go_wp2
      go_ret2
      exact ⟨A0, 0, by rw [HL.out]; rfl, HA.out, by have := HK.out; omega, rfl⟩
    · have hA := HCx.out
      simp only [if_neg hq] at hA; have HA := Aside0.mk hA; clear hA; go_wp2
      go_ret2
      exact ⟨Option.map (fun x => x.add a1.toNat) A0, c0 - a1.toNat, by rw [HL.out]; rfl, by simpa [Kd.int, Kd.scalar] using HA.out, HK.out, rfl⟩

/-! ### octet_gather_uint64: function 74 -/
def octet_gather_uint64.l0 : Nat → Int → List Int → Int → Int → Option (Int)
 | 0, _, _, _, _ => none
 | k + 1, x3, x6, x7, x8 => if x8 < x7 then (if 0 ≤ x8 then (if x8 < (x6.length : Int) then (if 0 ≤ (wrap64 (8 * x8)) then (octet_gather_uint64.l0 k (Go.bits .or .u64 x3 (shl .u64 (IntKind.u64.wrap (rd x6 x8)) (wrap64 (8 * x8)))) x6 x7 (wrap64 (x8 + 1))) else (none)) else (none)) else (none)) else (some x3)
def octet_gather_uint64.f (k : Nat) (l0 : List Int) : Option (Int) := octet_gather_uint64.l0 k 0 l0 (l0.length : Int) 0
theorem octet_gather_uint64.mono_l : ∀ k, (∀ y0 y1 y2 y3, LeO (octet_gather_uint64.l0 k y0 y1 y2 y3) (octet_gather_uint64.l0 (k + 1) y0 y1 y2 y3))
 | 0 => fun _ _ _ _ r h => by simp [octet_gather_uint64.l0] at h
 | k + 1 => by
  have ih0 := octet_gather_uint64.mono_l k
  ·
   intro y0 y1 y2 y3
   unfold octet_gather_uint64.l0
   repeat' first | (with_reducible first | apply ih0 | apply LeO.refl | apply LeO.none | refine LeO.ite ?_ ?_ | refine LeO.bind ?_ (fun _ => ?_)) | apply ih0 | apply LeO.none | refine LeO.ite ?_ ?_ | refine LeO.bind ?_ (fun _ => ?_)
theorem octet_gather_uint64.mono : ∀ a0 k, LeO (octet_gather_uint64.f k a0) (octet_gather_uint64.f (k + 1) a0) := by
 intro a0 k; have ih0 := octet_gather_uint64.mono_l k
 unfold octet_gather_uint64.f
 repeat' first | (with_reducible first | apply ih0 | apply LeO.refl | apply LeO.none | refine LeO.ite ?_ ?_ | refine LeO.bind ?_ (fun _ => ?_)) | apply ih0 | apply LeO.none | refine LeO.ite ?_ ?_ | refine LeO.bind ?_ (fun _ => ?_)
set_option maxHeartbeats 8000000 in
set_option maxRecDepth 100000 in
theorem octet_gather_uint64.calls (k : Nat) (A0 : Option Addr) (c0 : Nat) (l0 : List Int) (r : Int) (w : World) (hr0 : Kd.C (Kd.int .u8) w A0 l0.length l0) (hc0 : l0.length ≤ c0) (h : octet_gather_uint64.f k l0 = some r) :
  Calls Tryd.prog 74 #[.slice A0 l0.length c0] w fun e w' => e = .returned (.int .u64 r) ∧ Drawn0 w w' := by
 have HR0 := Aside0.mk hr0; have HC0 := Aside0.mk hc0; clear hr0 hc0; have H := h; unfold octet_gather_uint64.f at H; clear h; have H' := Aside0.mk H; clear H
 go_enter Tryd.func74, Tryd.ntmps74
 go_wp2
 go_loopg [3, 8] k (fun kq v3 v8 w' => ∃ (x3_1 : Int) (x8_1 : Int), v3 = .int .u64 x3_1 ∧ v8 = .int .i64 x8_1 ∧ Aside0 (octet_gather_uint64.l0 kq x3_1 l0 (l0.length : Int) x8_1 = some r) ∧ Aside0 (kq ≤ k) ∧ Drawn0 w w')
 case atStart => exact ⟨(0), (0), (au16), (au16), H', ⟨Nat.le_refl _⟩, au30⟩
 case round =>
  clear H'; obtain ⟨x3_1, x8_1, rfl, rfl, HA, HK1, ⟨m1, rfl⟩⟩ := hrel
  cases gk with
  | zero => exact absurd HA.out (by simp [octet_gather_uint64.l0])
  | succ k1 =>
   have H := HA.out; clear HA; simp only [octet_gather_uint64.l0] at H
   by_cases c2 : x8_1 < (l0.length : Int)
   rotate_left
   · rw [if_neg c2] at H; have c2b0 : decide (x8_1 < (l0.length : Int)) = false := decide_eq_false c2; clear c2; obtain rfl := Option.some.inj H; go_wp2; go_ret; exact ⟨au16, au30⟩

   rw [if_pos c2] at H; have c2b0 : decide (x8_1 < (l0.length : Int)) = true := decide_eq_true c2; clear c2
   by_cases c3 : 0 ≤ x8_1
   rotate_left
   · rw [if_neg c3] at H; exact absurd H (by simp)
   rw [if_pos c3] at H; have c3b0 : decide (0 ≤ x8_1) = true := decide_eq_true c3; clear c3
   by_cases c4 : x8_1 < (l0.length : Int)
   rotate_left
   · rw [if_neg c4] at H; exact absurd H (by simp)
   rw [if_pos c4] at H; have c4b0 : decide (x8_1 < (l0.length : Int)) = true := decide_eq_true c4; clear c4; obtain ⟨ji5, hji5⟩ : ∃ j_ : Int, (wrap64 (8 * x8_1)) = j_ := ⟨_, rfl⟩
   replace H : (if 0 ≤ (ji5) then (octet_gather_uint64.l0 k1 (Go.bits .or .u64 x3_1 (shl .u64 (IntKind.u64.wrap (rd l0 x8_1)) (ji5))) l0 (l0.length : Int) (wrap64 (x8_1 + 1))) else (none)) = some r := by first | (rw [hji5] at H; exact H) | (simp only [hji5] at H ⊢; exact H)
   have hji5w : (IntKind.i64.wrap (8 * x8_1)) = ji5 := (i64_w _).trans hji5
   by_cases c6 : 0 ≤ (ji5)
   rotate_left
   · rw [if_neg c6] at H; exact absurd H (by simp)
   rw [if_pos c6] at H; have c6b0 := eq_true c6; have c6b1 : decide (0 ≤ (ji5)) = true := decide_eq_true c6; clear c6; obtain ⟨ji7, hji7⟩ : ∃ j_ : Int, (shl .u64 (IntKind.u64.wrap (rd l0 x8_1)) (ji5)) = j_ := ⟨_, rfl⟩
   replace H : (octet_gather_uint64.l0 k1 (Go.bits .or .u64 x3_1 (ji7)) l0 (l0.length : Int) (wrap64 (x8_1 + 1))) = some r := by first | (rw [hji7] at H; exact H) | (simp only [hji7] at H ⊢; exact H)
   have hji7_ : (IntKind.u64.wrap ((IntKind.u64.wrap (rd l0 x8_1)) * 2 ^ min (ji5).toNat 64)) = ji7 := hji7; have hji7z : (ji5) ≤ 64 → (IntKind.u64.wrap ((IntKind.u64.wrap (rd l0 x8_1)) * 2 ^ (ji5).toNat)) = ji7 := shl_small hji7; have H' := Aside0.mk H; clear H; have p101 : 0 ≤ (x8_1 : Int) := of_decide_eq_true (au9); have q101 : x8_1 < (l0.length : Int) := of_decide_eq_true (au9); obtain ⟨ad101, e101, hx101_0⟩ := Kd.at_int HR0.out x8_1 p101 q101; cases e101; replace p101 := eq_true p101; replace q101 := eq_true q101; go_wp2
   go_roundg k1
   case measure => have := HK1.out; omega
   case rel => exact ⟨(Go.bits .or .u64 x3_1 (ji7)), (wrap64 (x8_1 + 1)), (by first | rfl | (simp; done) | (simp only [← hji7] <;> (first | rfl | simp)) | (simp [*]; done)), (au16), H', ⟨by have := HK1.out; omega⟩, au30⟩
/-! ### octet_Get: function 30 -/
def octet_Get.f (k : Nat) (l0 : List Int) (a1 : Int) (a2 : Int) : Option (Int × Int × Int) :=
  if a2 < 1 then some (0, 0, 2) else if a2 > 8 then some (0, 0, 2) else (octet_cut.f l0 a1 a2).bind fun c => (octet_gather_uint64.f k c.1).bind fun u =>
    if u > 9223372036854775807 then some (0, 0, 11) else if c.2 = 0 then some (IntKind.i64.wrap u, wrap64 (a1 + a2), 0) else some (0, 0, c.2)
theorem octet_Get.mono : ∀ a0 a1 a2 k, LeO (octet_Get.f k a0 a1 a2) (octet_Get.f (k + 1) a0 a1 a2) := by
  intro a0 a1 a2 k
  unfold octet_Get.f
  refine LeO.ite (LeO.refl _) (LeO.ite (LeO.refl _) (LeO.bind (LeO.refl _) fun c => LeO.bind (octet_gather_uint64.mono _ _) fun u => LeO.refl _))
/-- Three variables in memory, one behind the other. -/
structure OctTri (B ta tb : Nat) (W : World) (v0 v1 v2 : Value) : Prop where
  b0 : W.heap[B]? = some (.cells #[v0] ta (0, 0))
  b1 : W.heap[B + 1]? = some (.cells #[v1] ta (0, 0))
  b2 : W.heap[B + 1 + 1]? = some (.cells #[v2] tb (0, 0))
theorem OctTri.c0 {B ta tb : Nat} {W : World} {v0 v1 v2 : Value} (h : OctTri B ta tb W v0 v1 v2) : W.cell? ⟨B, 0, none⟩ = some v0 := blk_cell h.b0 0
theorem OctTri.c1 {B ta tb : Nat} {W : World} {v0 v1 v2 : Value} (h : OctTri B ta tb W v0 v1 v2) : W.cell? ⟨B + 1, 0, none⟩ = some v1 := blk_cell h.b1 0
theorem OctTri.c2 {B ta tb : Nat} {W : World} {v0 v1 v2 : Value} (h : OctTri B ta tb W v0 v1 v2) : W.cell? ⟨B + 1 + 1, 0, none⟩ = some v2 := blk_cell h.b2 0
theorem OctTri.z0 {B ta tb : Nat} {W : World} {v0 v1 v2 : Value} (h : OctTri B ta tb W v0 v1 v2) : W.frozen? ⟨B, 0, none⟩ = false := blk_frozen h.b0 0
theorem OctTri.z1 {B ta tb : Nat} {W : World} {v0 v1 v2 : Value} (h : OctTri B ta tb W v0 v1 v2) : W.frozen? ⟨B + 1, 0, none⟩ = false := blk_frozen h.b1 0
theorem OctTri.z2 {B ta tb : Nat} {W : World} {v0 v1 v2 : Value} (h : OctTri B ta tb W v0 v1 v2) : W.frozen? ⟨B + 1 + 1, 0, none⟩ = false := blk_frozen h.b2 0
theorem OctTri.set0 {B ta tb : Nat} {W : World} {v0 v1 v2 : Value} (h : OctTri B ta tb W v0 v1 v2) (v : Value) : OctTri B ta tb (W.setCell ⟨B, 0, none⟩ v) v v1 v2 := ⟨blk_put h.b0 0 v rfl, blk_far h.b1 (show B + 1 ≠ B by omega) v, blk_far h.b2 (show B + 1 + 1 ≠ B by omega) v⟩
theorem OctTri.set1 {B ta tb : Nat} {W : World} {v0 v1 v2 : Value} (h : OctTri B ta tb W v0 v1 v2) (v : Value) : OctTri B ta tb (W.setCell ⟨B + 1, 0, none⟩ v) v0 v v2 := ⟨blk_far h.b0 (show B ≠ B + 1 by omega) v, blk_put h.b1 0 v rfl, blk_far h.b2 (show B + 1 + 1 ≠ B + 1 by omega) v⟩
theorem OctTri.set2 {B ta tb : Nat} {W : World} {v0 v1 v2 : Value} (h : OctTri B ta tb W v0 v1 v2) (v : Value) : OctTri B ta tb (W.setCell ⟨B + 1 + 1, 0, none⟩ v) v0 v1 v := ⟨blk_far h.b0 (show B ≠ B + 1 + 1 by omega) v, blk_far h.b1 (show B + 1 ≠ B + 1 + 1 by omega) v, blk_put h.b2 0 v rfl⟩
theorem OctTri.drew {B ta tb : Nat} {W : World} {v0 v1 v2 : Value} (h : OctTri B ta tb W v0 v1 v2) : OctTri B ta tb W.drew v0 v1 v2 := ⟨h.b0, h.b1, h.b2⟩
theorem OctTri.drewN {B ta tb : Nat} {W : World} {v0 v1 v2 : Value} (h : OctTri B ta tb W v0 v1 v2) (n : Nat) : OctTri B ta tb (W.drewN n) v0 v1 v2 := ⟨h.b0, h.b1, h.b2⟩
/-- Where the error isn't OK the two numbers become 0. -/
theorem octet_Get.closure_err (g0 g1 g2 : Nat) (n x e : Int) (w : World) (he : ¬ e = 0) (h0 : w.cell? ⟨g0, 0, none⟩ = some (.int .i64 e)) (h1 : w.cell? ⟨g1, 0, none⟩ = some (.int .i64 n)) (h2 : w.cell? ⟨g2, 0, none⟩ = some (.int .i64 x))
    (f1 : w.frozen? ⟨g1, 0, none⟩ = false) (f2 : w.frozen? ⟨g2, 0, none⟩ = false) (n12 : ¬ g1 = g2) :
    CallsD Tryd.prog 72 #[.pointer (some ⟨g0, 0, none⟩), .pointer (some ⟨g1, 0, none⟩), .pointer (some ⟨g2, 0, none⟩)] .returning w fun e_ u' w' =>
      u' = .returning ∧ (e_ = .returned (.tuple #[]) ∧ w' = (w.setCell ⟨g1, 0, none⟩ (.int .i64 0)).setCell ⟨g2, 0, none⟩ (.int .i64 0)) := by
  have hd : ((e != 0) = true) := by rw [bne_iff_ne]; exact he
  go_enter_d Tryd.func72, Tryd.ntmps72
  go_wp2
  go_end0
  exact ⟨rfl, rfl⟩
theorem octet_Get.closure_ok (g0 : Nat) (a1 a2 : Value) (w : World) (h0 : w.cell? ⟨g0, 0, none⟩ = some (.int .i64 0)) :
    CallsD Tryd.prog 72 #[.pointer (some ⟨g0, 0, none⟩), a1, a2] .returning w fun e_ u' w' =>
      u' = .returning ∧ (e_ = .returned (.tuple #[]) ∧ w' = w) := by
  go_enter_d Tryd.func72, Tryd.ntmps72
  go_wp2
  go_end0
  exact ⟨rfl, rfl⟩

set_option maxHeartbeats 8000000 in
set_option maxRecDepth 100000 in
theorem octet_Get.calls (k : Nat) (A0 : Option Addr) (c0 : Nat) (l0 : List Int) (a1 : Int) (a2 : Int) (r1 : Int) (r2 : Int) (r3 : Int) (w : World) (hr0 : Kd.C (Kd.int .u8) w A0 l0.length l0) (hc0 : l0.length ≤ c0) (h : octet_Get.f k l0 a1 a2 = some (r1, r2, r3)) :
    Calls Tryd.prog 30 #[.slice A0 l0.length c0, .int .i64 a1, .int .i64 a2] w fun e w' => e = .returned (.tuple #[.int .i64 r1, .int .i64 r2, .int .i64 r3]) ∧ Below w.heap.size w w' := by
  have HR := Aside0.mk hr0; have HC := Aside0.mk hc0; clear hr0 hc0
  have hmf : ∀ (fn : Fn) (first cap : Array Value) (w : World), (Instr.makeFunc fn first cap).run Tryd.prog w = .ok (.func fn first cap) w := fun _ _ _ _ => rfl
  have below3 : ∀ (w : World) (o1 o2 o3 : Obj), Below w.heap.size w (((w.alloc o1).alloc o2).alloc o3) := fun w o1 o2 o3 => below_alloc (below_alloc (below_alloc (Below.refl _ _) _) _) _
  by_cases c1 : a2 < 1
  · simp only [octet_Get.f, if_pos c1, Option.some.injEq, Prod.mk.injEq] at h
    obtain ⟨rfl, rfl, rfl⟩ := h
    go_enter_defers Tryd.func30, Tryd.ntmps30
    go_wp2
    simp [bodyPostD, Leaves, settle, results, Tryd.results30, go_sem, below3]
  by_cases c2 : a2 > 8
  · simp only [octet_Get.f, if_neg c1, if_pos c2, Option.some.injEq, Prod.mk.injEq] at h
    obtain ⟨rfl, rfl, rfl⟩ := h
    go_enter_defers Tryd.func30, Tryd.ntmps30
    go_wp2
    simp [bodyPostD, Leaves, settle, results, Tryd.results30, go_sem, below3]
  simp only [octet_Get.f, if_neg c1, if_neg c2] at h
  obtain ⟨⟨q1, q2⟩, hcut, h⟩ := Option.bind_eq_some_iff.mp h; obtain ⟨u, hga, h⟩ := Option.bind_eq_some_iff.mp h; have HCUT := Aside0.mk hcut; have HGA := Aside0.mk hga; have HH := Aside0.mk h; clear hcut hga h
  go_enter_defers Tryd.func30, Tryd.ntmps30
  go_wp2_with (go_at_call 73; (with_reducible refine (octet_cut.calls A0 c0 l0 a1 a2 q1 q2 _ ?s1 ?s2 HCUT.out).mono ?_); (case s1 => (repeat (first | exact HR.out | (with_reducible refine Kd.C_alloc ?_ _)))); (case s2 => exact HC.out); rintro e w' ⟨A1, c1', rfl, hC1, hK1, rfl⟩; have HC1 := Aside0.mk hC1; have HK1 := Aside0.mk hK1; clear hC1 hK1)
  refine (octet_gather_uint64.calls k A1 c1' q1 u _ ?s1 HK1.out HGA.out).mono ?_
  case s1 => exact HC1.out _ (by repeat (first | exact HR.out | (with_reducible refine Kd.C_alloc ?_ _)))
  rintro e w' ⟨rfl, ⟨nd, rfl⟩⟩; have h := HH.out; clear HH HCUT HGA HC1 HK1 HR HC; obtain ⟨W, hW⟩ : ∃ W, W = ((((w.alloc (Obj.cells #[Value.int IntKind.i64 0] 3)).alloc (Obj.cells #[Value.int IntKind.i64 0] 3)).alloc (Obj.cells #[Value.int IntKind.i64 q2] 29)).drewN nd) := ⟨_, rfl⟩
  have hb : Below w.heap.size w W := by rw [hW]; exact pw_below_drewN (below3 _ _ _ _) _
  have hT : OctTri w.heap.size 3 29 W (.int .i64 0) (.int .i64 0) (.int .i64 q2) := by
    rw [hW]; refine OctTri.drewN ⟨blk_alloc (blk_alloc (blk_new _ _) _) _, blk_alloc ?_ _, ?_⟩ _
    · have := blk_new (w.alloc (Obj.cells #[Value.int IntKind.i64 0] 3)) (Obj.cells #[Value.int IntKind.i64 0] 3)
      rwa [World.size_alloc] at this
    · have := blk_new ((w.alloc (Obj.cells #[Value.int IntKind.i64 0] 3)).alloc (Obj.cells #[Value.int IntKind.i64 0] 3)) (Obj.cells #[Value.int IntKind.i64 q2] 29)
      rwa [World.size_alloc, World.size_alloc] at this
  rw [← hW]; have k0 := hT.c0; have k1 := hT.c1; have k2 := hT.c2; have f0 := hT.z0; have f1 := hT.z1; have f2 := hT.z2; have hb := Aside0.mk hb; have hT := Aside0.mk hT; clear hW nd
  by_cases c3 : u > 9223372036854775807
  · rw [if_pos c3] at h
    simp only [Option.some.injEq, Prod.mk.injEq] at h
    obtain ⟨rfl, rfl, rfl⟩ := h; go_wp2
    go_region
    all_goals
      go_wp2; refine leaves_cons (f := 72) (args := #[.pointer (some ⟨w.heap.size + 1 + 1, 0, none⟩), .pointer (some ⟨w.heap.size, 0, none⟩), .pointer (some ⟨w.heap.size + 1, 0, none⟩)]) (by simp) (by simp [go_sem]) ?_; refine (octet_Get.closure_err _ _ _ (wrap64 u) (wrap64 (a1 + a2)) 11 _ (by omega) ?s0 ?s1 ?s2 ?s3 ?s4 (by omega)).mono ?_
      case s0 => refine OctTri.c2 (ta := 3) (tb := 29) (v0 := .int .i64 (wrap64 u)) (v1 := .int .i64 (wrap64 (a1 + a2))) (v2 := .int .i64 11) ?_; (with_reducible repeat (first | exact hT.out | apply OctTri.set0 | apply OctTri.set1 | apply OctTri.set2 | apply OctTri.drew | apply OctTri.drewN))
      case s1 => refine OctTri.c0 (ta := 3) (tb := 29) (v0 := .int .i64 (wrap64 u)) (v1 := .int .i64 (wrap64 (a1 + a2))) (v2 := .int .i64 11) ?_; (with_reducible repeat (first | exact hT.out | apply OctTri.set0 | apply OctTri.set1 | apply OctTri.set2 | apply OctTri.drew | apply OctTri.drewN))
      case s2 => refine OctTri.c1 (ta := 3) (tb := 29) (v0 := .int .i64 (wrap64 u)) (v1 := .int .i64 (wrap64 (a1 + a2))) (v2 := .int .i64 11) ?_; (with_reducible repeat (first | exact hT.out | apply OctTri.set0 | apply OctTri.set1 | apply OctTri.set2 | apply OctTri.drew | apply OctTri.drewN))
      case s3 => refine OctTri.z0 (ta := 3) (tb := 29) (v0 := .int .i64 (wrap64 u)) (v1 := .int .i64 (wrap64 (a1 + a2))) (v2 := .int .i64 11) ?_; (with_reducible repeat (first | exact hT.out | apply OctTri.set0 | apply OctTri.set1 | apply OctTri.set2 | apply OctTri.drew | apply OctTri.drewN))
      case s4 => refine OctTri.z1 (ta := 3) (tb := 29) (v0 := .int .i64 (wrap64 u)) (v1 := .int .i64 (wrap64 (a1 + a2))) (v2 := .int .i64 11) ?_; (with_reducible repeat (first | exact hT.out | apply OctTri.set0 | apply OctTri.set1 | apply OctTri.set2 | apply OctTri.drew | apply OctTri.drewN))
      rintro e u' w'' ⟨rfl, rfl, hw⟩
      have T3 : OctTri w.heap.size 3 29 w'' (.int .i64 0) (.int .i64 0) (.int .i64 11) := by
        rw [hw]
        (with_reducible repeat (first | exact hT.out | apply OctTri.set0 | apply OctTri.set1 | apply OctTri.set2 | apply OctTri.drew | apply OctTri.drewN))
      have B3 : Below w.heap.size w w'' := by
        rw [hw]
        (with_reducible repeat (first | exact hb.out | (with_reducible refine below_set ?_ (by omega)) | (with_reducible refine below_drew1 ?_)))
      have y0 := T3.c0; have y1 := T3.c1; have y2 := T3.c2; clear hw T3
      simp [Leaves, settle, results, Tryd.results30, go_sem, y0, y1, y2, B3, IntKind.wrap_i64, wrap64]
  rw [if_neg c3] at h
  by_cases c4 : q2 = 0
  · rw [if_pos c4] at h
    simp only [Option.some.injEq, Prod.mk.injEq] at h
    obtain ⟨rfl, rfl, rfl⟩ := h; subst c4; go_wp2
    go_region
    all_goals
      go_wp2; refine leaves_cons (f := 72) (args := #[.pointer (some ⟨w.heap.size + 1 + 1, 0, none⟩), .pointer (some ⟨w.heap.size, 0, none⟩), .pointer (some ⟨w.heap.size + 1, 0, none⟩)]) (by simp) (by simp [go_sem]) ?_; refine (octet_Get.closure_ok _ _ _ _ ?s0).mono ?_
      case s0 => refine OctTri.c2 (ta := 3) (tb := 29) (v0 := .int .i64 (wrap64 u)) (v1 := .int .i64 (wrap64 (a1 + a2))) (v2 := .int .i64 0) ?_; (with_reducible repeat (first | exact hT.out | apply OctTri.set0 | apply OctTri.set1 | apply OctTri.set2 | apply OctTri.drew | apply OctTri.drewN))
      rintro e u' w'' ⟨rfl, rfl, hw⟩
      have T3 : OctTri w.heap.size 3 29 w'' (.int .i64 (wrap64 u)) (.int .i64 (wrap64 (a1 + a2))) (.int .i64 0) := by
        rw [hw]
        (with_reducible repeat (first | exact hT.out | apply OctTri.set0 | apply OctTri.set1 | apply OctTri.set2 | apply OctTri.drew | apply OctTri.drewN))
      have B3 : Below w.heap.size w w'' := by
        rw [hw]
        (with_reducible repeat (first | exact hb.out | (with_reducible refine below_set ?_ (by omega)) | (with_reducible refine below_drew1 ?_)))
      have y0 := T3.c0; have y1 := T3.c1; have y2 := T3.c2; clear hw T3
      simp [Leaves, settle, results, Tryd.results30, go_sem, y0, y1, y2, B3, IntKind.wrap_i64, wrap64]
  · rw [if_neg c4] at h
    simp only [Option.some.injEq, Prod.mk.injEq] at h
    obtain ⟨rfl, rfl, rfl⟩ := h; go_wp2
    go_region
    all_goals
      go_wp2; refine leaves_cons (f := 72) (args := #[.pointer (some ⟨w.heap.size + 1 + 1, 0, none⟩), .pointer (some ⟨w.heap.size, 0, none⟩), .pointer (some ⟨w.heap.size + 1, 0, none⟩)]) (by simp) (by simp [go_sem]) ?_; refine (octet_Get.closure_err _ _ _ (wrap64 u) (wrap64 (a1 + a2)) q2 _ c4 ?s0 ?s1 ?s2 ?s3 ?s4 (by omega)).mono ?_
      case s0 => refine OctTri.c2 (ta := 3) (tb := 29) (v0 := .int .i64 (wrap64 u)) (v1 := .int .i64 (wrap64 (a1 + a2))) (v2 := .int .i64 q2) ?_; (with_reducible repeat (first | exact hT.out | apply OctTri.set0 | apply OctTri.set1 | apply OctTri.set2 | apply OctTri.drew | apply OctTri.drewN))
      case s1 => refine OctTri.c0 (ta := 3) (tb := 29) (v0 := .int .i64 (wrap64 u)) (v1 := .int .i64 (wrap64 (a1 + a2))) (v2 := .int .i64 q2) ?_; (with_reducible repeat (first | exact hT.out | apply OctTri.set0 | apply OctTri.set1 | apply OctTri.set2 | apply OctTri.drew | apply OctTri.drewN))
      case s2 => refine OctTri.c1 (ta := 3) (tb := 29) (v0 := .int .i64 (wrap64 u)) (v1 := .int .i64 (wrap64 (a1 + a2))) (v2 := .int .i64 q2) ?_; (with_reducible repeat (first | exact hT.out | apply OctTri.set0 | apply OctTri.set1 | apply OctTri.set2 | apply OctTri.drew | apply OctTri.drewN))
      case s3 => refine OctTri.z0 (ta := 3) (tb := 29) (v0 := .int .i64 (wrap64 u)) (v1 := .int .i64 (wrap64 (a1 + a2))) (v2 := .int .i64 q2) ?_; (with_reducible repeat (first | exact hT.out | apply OctTri.set0 | apply OctTri.set1 | apply OctTri.set2 | apply OctTri.drew | apply OctTri.drewN))
      case s4 => refine OctTri.z1 (ta := 3) (tb := 29) (v0 := .int .i64 (wrap64 u)) (v1 := .int .i64 (wrap64 (a1 + a2))) (v2 := .int .i64 q2) ?_; (with_reducible repeat (first | exact hT.out | apply OctTri.set0 | apply OctTri.set1 | apply OctTri.set2 | apply OctTri.drew | apply OctTri.drewN))
      rintro e u' w'' ⟨rfl, rfl, hw⟩
      have T3 : OctTri w.heap.size 3 29 w'' (.int .i64 0) (.int .i64 0) (.int .i64 q2) := by
        rw [hw]
        (with_reducible repeat (first | exact hT.out | apply OctTri.set0 | apply OctTri.set1 | apply OctTri.set2 | apply OctTri.drew | apply OctTri.drewN))
      have B3 : Below w.heap.size w w'' := by
        rw [hw]
        (with_reducible repeat (first | exact hb.out | (with_reducible refine below_set ?_ (by omega)) | (with_reducible refine below_drew1 ?_)))
      have y0 := T3.c0; have y1 := T3.c1; have y2 := T3.c2; clear hw T3
      simp [Leaves, settle, results, Tryd.results30, go_sem, y0, y1, y2, B3, IntKind.wrap_i64, wrap64]

-- NOT PRINTED: function 29 (module_Parse_1)

-- NOT PRINTED: function 31 (module_Parse_2)

/-! ### gauss_May: function 113 -/
/-- Both parts from -MaxPart to MaxPart. -/
def gauss_May.b (a b : Int) : Bool := decide (-1048576 ≤ a) && decide (a ≤ 1048576) && decide (-1048576 ≤ b) && decide (b ≤ 1048576)
set_option maxRecDepth 100000 in
set_option maxHeartbeats 1000000 in
theorem gauss_May.calls (a b : Int) (w : World) : Calls Tryd.prog 113 #[.agg #[.int .i64 a, .int .i64 b]] w fun e w' => e = .returned (.bool (gauss_May.b a b)) ∧ w' = w.alloc (.cells #[.int .i64 a, .int .i64 b] 148) := by
  have i0 : ∀ w : World, (Instr.index 148 (.agg #[.int .i64 a, .int .i64 b]) (.int .i64 0)).run Tryd.prog w = .ok (.int .i64 a) w := fun _ => by kernel_rfl
  have i1 : ∀ w : World, (Instr.index 148 (.agg #[.int .i64 a, .int .i64 b]) (.int .i64 1)).run Tryd.prog w = .ok (.int .i64 b) w := fun _ => by kernel_rfl
  go_enter Tryd.func113, Tryd.ntmps113
  go_wp2
  go_loop [4, 6] (fun v i => (i = .int .i64 0) ∨ (i = .int .i64 1 ∧ -1048576 ≤ a ∧ a ≤ 1048576) ∨ (i = .int .i64 2 ∧ -1048576 ≤ a ∧ a ≤ 1048576 ∧ -1048576 ≤ b ∧ b ≤ 1048576)) (fun _ i => 2 - (intOf i).toNat)
  case atStart => exact .inl rfl
  case round =>
    rcases hrel with rfl | ⟨rfl, h1, h2⟩ | ⟨rfl, h1, h2, h3, h4⟩
    · by_cases c1 : a < -1048576
      · have hf : gauss_May.b a b = false := by unfold gauss_May.b; simp; omega
        go_wp2; go_ret; exact ⟨rfl, rfl⟩
      by_cases c2 : a > 1048576
      · have hf : gauss_May.b a b = false := by unfold gauss_May.b; simp; omega
        go_wp2; go_ret; exact ⟨rfl, rfl⟩
      · go_wp2
        go_round
        case rel => exact .inr (.inl ⟨rfl, by omega, by omega⟩)
        case measure => simp [intOf]
    · by_cases c1 : b < -1048576
      · have hf : gauss_May.b a b = false := by unfold gauss_May.b; simp; omega
        go_wp2; go_ret; exact ⟨rfl, rfl⟩
      by_cases c2 : b > 1048576
      · have hf : gauss_May.b a b = false := by unfold gauss_May.b; simp; omega
        go_wp2; go_ret; exact ⟨rfl, rfl⟩
      · go_wp2
        go_round
        case rel => exact .inr (.inr ⟨rfl, by omega, by omega, by omega, by omega⟩)
        case measure => simp [intOf]
    · have hf : gauss_May.b a b = true := by unfold gauss_May.b; simp; omega
      go_wp2; go_ret; exact ⟨rfl, rfl⟩

/-! ### value_Pair: function 88 -/
def value_Pair.f (a0 : Int) (a1 : Int) : Option (Int × Int × Int × Bool) := if gauss_May.b a0 a1 = true then some (2, a0, a1, true) else some (0, 0, 0, false)
set_option maxHeartbeats 8000000 in
set_option maxRecDepth 100000 in
theorem value_Pair.calls (a0 : Int) (a1 : Int) (r1 : Int) (r2 : Int) (r3 : Int) (r4 : Bool) (w : World) (h : value_Pair.f a0 a1 = some (r1, r2, r3, r4)) :
    Calls Tryd.prog 88 #[.int .i64 a0, .int .i64 a1] w fun e w' => e = .returned (.tuple #[.agg #[.int .u8 r1, .int .i64 r2, .int .i64 r3], .bool r4]) ∧ Below w.heap.size w w' := by
  cases c : gauss_May.b a0 a1 with
  | true =>
    rw [value_Pair.f, if_pos c] at h
    simp only [Option.some.injEq, Prod.mk.injEq] at h
    obtain ⟨rfl, rfl, rfl, rfl⟩ := h; have HB := Aside0.mk (Below.refl w.heap.size w)
    go_enter Tryd.func88, Tryd.ntmps88
    go_wp2_with (go_at_call 113; (refine (gauss_May.calls a0 a1 _).mono ?_); rintro e w1 ⟨rfl, rfl⟩; (try simp only [c]))
    refine bodyPost_ret (v := .tuple #[.agg #[.int .u8 2, .int .i64 a0, .int .i64 a1], .bool true]) (by simp [results, Tryd.results88, go_sem]) rfl ⟨rfl, ?_⟩; exact below_alloc (below_alloc HB.out _) _
  | false =>
    rw [value_Pair.f, if_neg (by rw [c]; decide)] at h
    simp only [Option.some.injEq, Prod.mk.injEq] at h
    obtain ⟨rfl, rfl, rfl, rfl⟩ := h; have HB := Aside0.mk (Below.refl w.heap.size w)
    go_enter Tryd.func88, Tryd.ntmps88
    go_wp2_with (go_at_call 113; (refine (gauss_May.calls a0 a1 _).mono ?_); rintro e w1 ⟨rfl, rfl⟩; (try simp only [c]))
    refine bodyPost_ret (v := .tuple #[.agg #[.int .u8 0, .int .i64 0, .int .i64 0], .bool false]) (by simp [results, Tryd.results88, go_sem]) rfl ⟨rfl, ?_⟩; exact below_alloc (below_alloc HB.out _) _

/-! ### value_Int: function 89 -/
def value_Int.f (a0 : Int) : Option (Int × Int × Int) := some (1, a0, 0)
set_option maxHeartbeats 8000000 in
set_option maxRecDepth 100000 in
theorem value_Int.calls (a0 : Int) (r1 : Int) (r2 : Int) (r3 : Int) (w : World) (h : value_Int.f a0 = some (r1, r2, r3)) :
  Calls Tryd.prog 89 #[.int .i64 a0] w fun e w' => e = .returned (.agg #[.int .u8 r1, .int .i64 r2, .int .i64 r3]) ∧ Below w.heap.size w w' := by
 have hu73 := Tryd.underlying73; have HB := Aside0.mk (Below.refl w.heap.size w); have H : (some (1, a0, 0)) = some (r1, r2, r3) := h; clear h; simp only [Option.some.injEq, Prod.mk.injEq] at H; obtain ⟨rfl, rfl, rfl⟩ := H
 go_enter Tryd.func89, Tryd.ntmps89
 go_wp2_with (first | ((with_reducible refine gate_dst (N := 2) rfl ?_); refine sq_box (N := 2) (cs := #[.int .u8 0, .int .i64 0, .int .i64 0]) (t := 73) ?_; intro gb102 hg w2 hbox hb; have n_ := sq_n4 (below_step (au1) hb) hbox ((au25 : w.heap.size ≤ gb102)) ((au25 : w.heap.size ≤ gb102)); clear HB; obtain ⟨HB, BK102, GW102, GE102⟩ := n_; clear hb hbox hg; have hz3 := blk_all3 BK102.out))
 refine bodyPost_ret (results_cell_row rfl _ _ gb102 73 #[.int .u8 1, .int .i64 a0, .int .i64 0] (0, 0) _ rfl (by (with_reducible repeat (first | refine blk_drewN ?_ _ | refine blk_drew ?_ | refine blk_alloc ?_ _)); refine blk_put (cs := #[.int .u8 1, .int .i64 a0, .int .i64 0]) ?_ 2 _ rfl; (with_reducible repeat (first | refine blk_drewN ?_ _ | refine blk_drew ?_ | refine blk_alloc ?_ _)); refine blk_put (cs := #[.int .u8 1, .int .i64 0, .int .i64 0]) ?_ 1 _ rfl; (with_reducible repeat (first | refine blk_drewN ?_ _ | refine blk_drew ?_ | refine blk_alloc ?_ _)); refine blk_put (cs := #[.int .u8 0, .int .i64 0, .int .i64 0]) ?_ 0 _ rfl; (with_reducible repeat (first | refine blk_drewN ?_ _ | refine blk_drew ?_ | refine blk_alloc ?_ _)); exact BK102.out) Tryd.underlying73 rfl (by kernel_rfl)) rfl ?_; exact ⟨au7, by repeat (first | (with_reducible first | exact HB.out | apply below_alloc | apply pw_below_drewN | apply below_drew1 | refine below_set ?_ GE102.out) | exact HB.out | exact ⟨HB.out.os, HB.out.tape, HB.out.output, HB.out.size, HB.out.block⟩)⟩

/-! ### octet_gather_int64: function 118 -/
def octet_gather_int64.l0 : Nat → Int → List Int → Int → Int → Option (Int)
 | 0, _, _, _, _ => none
 | k + 1, x3, x6, x7, x8 => if x8 < x7 then (if 0 ≤ x8 then (if x8 < (x6.length : Int) then (if 0 ≤ (wrap64 (8 * x8)) then (octet_gather_int64.l0 k (Go.bits .or .i64 x3 (shl .i64 (wrap64 (rd x6 x8)) (wrap64 (8 * x8)))) x6 x7 (wrap64 (x8 + 1))) else (none)) else (none)) else (none)) else (some x3)
def octet_gather_int64.f (k : Nat) (l0 : List Int) : Option (Int) := octet_gather_int64.l0 k 0 l0 (l0.length : Int) 0
theorem octet_gather_int64.mono_l : ∀ k, (∀ y0 y1 y2 y3, LeO (octet_gather_int64.l0 k y0 y1 y2 y3) (octet_gather_int64.l0 (k + 1) y0 y1 y2 y3))
 | 0 => fun _ _ _ _ r h => by simp [octet_gather_int64.l0] at h
 | k + 1 => by
  have ih0 := octet_gather_int64.mono_l k
  ·
   intro y0 y1 y2 y3
   unfold octet_gather_int64.l0
   repeat' first | (with_reducible first | apply ih0 | apply LeO.refl | apply LeO.none | refine LeO.ite ?_ ?_ | refine LeO.bind ?_ (fun _ => ?_)) | apply ih0 | apply LeO.none | refine LeO.ite ?_ ?_ | refine LeO.bind ?_ (fun _ => ?_)
theorem octet_gather_int64.mono : ∀ a0 k, LeO (octet_gather_int64.f k a0) (octet_gather_int64.f (k + 1) a0) := by
 intro a0 k; have ih0 := octet_gather_int64.mono_l k
 unfold octet_gather_int64.f
 repeat' first | (with_reducible first | apply ih0 | apply LeO.refl | apply LeO.none | refine LeO.ite ?_ ?_ | refine LeO.bind ?_ (fun _ => ?_)) | apply ih0 | apply LeO.none | refine LeO.ite ?_ ?_ | refine LeO.bind ?_ (fun _ => ?_)
set_option maxHeartbeats 8000000 in
set_option maxRecDepth 100000 in
theorem octet_gather_int64.calls (k : Nat) (A0 : Option Addr) (c0 : Nat) (l0 : List Int) (r : Int) (w : World) (hr0 : Kd.C (Kd.int .u8) w A0 l0.length l0) (hc0 : l0.length ≤ c0) (h : octet_gather_int64.f k l0 = some r) :
  Calls Tryd.prog 118 #[.slice A0 l0.length c0] w fun e w' => e = .returned (.int .i64 r) ∧ Drawn0 w w' := by
 have HR0 := Aside0.mk hr0; have HC0 := Aside0.mk hc0; clear hr0 hc0; have H : (octet_gather_int64.l0 k 0 l0 (l0.length : Int) 0) = some r := h; clear h; have H' := Aside0.mk H; clear H
 go_enter Tryd.func118, Tryd.ntmps118
 go_wp2
 go_loopg [3, 8] k (fun kq v3 v8 w' => ∃ (x3_1 : Int) (x8_1 : Int), v3 = .int .i64 x3_1 ∧ v8 = .int .i64 x8_1 ∧ Aside0 (octet_gather_int64.l0 kq x3_1 l0 (l0.length : Int) x8_1 = some r) ∧ Aside0 (kq ≤ k) ∧ Drawn0 w w')
 case atStart => exact ⟨(0), (0), (au16), (au16), H', ⟨Nat.le_refl _⟩, au30⟩
 case round =>
  clear H'; (try clear c1); obtain ⟨x3_1, x8_1, rfl, rfl, HA, HK1, ⟨m1, rfl⟩⟩ := hrel
  cases gk with
  | zero => exact absurd HA.out (by simp [octet_gather_int64.l0])
  | succ k1 =>
   have H := HA.out; clear HA; simp only [octet_gather_int64.l0] at H
   by_cases c2 : x8_1 < (l0.length : Int)
   rotate_left
   · rw [if_neg c2] at H; have c2b0 : decide (x8_1 < (l0.length : Int)) = false := decide_eq_false c2; clear c2; obtain rfl := Option.some.inj H; go_wp2; go_ret; exact ⟨au16, au30⟩

   rw [if_pos c2] at H; have c2b0 : decide (x8_1 < (l0.length : Int)) = true := decide_eq_true c2; clear c2
   by_cases c3 : 0 ≤ x8_1
   rotate_left
   · rw [if_neg c3] at H; exact absurd H (by simp)
   rw [if_pos c3] at H; have c3b0 : decide (0 ≤ x8_1) = true := decide_eq_true c3; clear c3
   by_cases c4 : x8_1 < (l0.length : Int)
   rotate_left
   · rw [if_neg c4] at H; exact absurd H (by simp)
   rw [if_pos c4] at H; have c4b0 : decide (x8_1 < (l0.length : Int)) = true := decide_eq_true c4; clear c4; obtain ⟨ji5, hji5⟩ : ∃ j_ : Int, (wrap64 (8 * x8_1)) = j_ := ⟨_, rfl⟩
   replace H : (if 0 ≤ (ji5) then (octet_gather_int64.l0 k1 (Go.bits .or .i64 x3_1 (shl .i64 (wrap64 (rd l0 x8_1)) (ji5))) l0 (l0.length : Int) (wrap64 (x8_1 + 1))) else (none)) = some r := by first | (rw [hji5] at H; exact H) | (simp only [hji5] at H ⊢; exact H)
   have hji5w : (IntKind.i64.wrap (8 * x8_1)) = ji5 := (i64_w _).trans hji5
   by_cases c6 : 0 ≤ (ji5)
   rotate_left
   · rw [if_neg c6] at H; exact absurd H (by simp)
   rw [if_pos c6] at H; have c6b0 := eq_true c6; have c6b1 : decide (0 ≤ (ji5)) = true := decide_eq_true c6; clear c6; obtain ⟨ji7, hji7⟩ : ∃ j_ : Int, (shl .i64 (wrap64 (rd l0 x8_1)) (ji5)) = j_ := ⟨_, rfl⟩
   replace H : (octet_gather_int64.l0 k1 (Go.bits .or .i64 x3_1 (ji7)) l0 (l0.length : Int) (wrap64 (x8_1 + 1))) = some r := by first | (rw [hji7] at H; exact H) | (simp only [hji7] at H ⊢; exact H)
   have hji7_ : (IntKind.i64.wrap ((wrap64 (rd l0 x8_1)) * 2 ^ min (ji5).toNat 64)) = ji7 := hji7; have hji7z : (ji5) ≤ 64 → (IntKind.i64.wrap ((wrap64 (rd l0 x8_1)) * 2 ^ (ji5).toNat)) = ji7 := shl_small hji7; have hji7y : (wrap64 ((wrap64 (rd l0 x8_1)) * 2 ^ min (ji5).toNat 64)) = ji7 := (i64_w _).symm.trans hji7_
   have hji7x : (ji5) ≤ 64 → (wrap64 ((wrap64 (rd l0 x8_1)) * 2 ^ (ji5).toNat)) = ji7 := fun h_ => (i64_w _).symm.trans (hji7z h_)
   have H' := Aside0.mk H; clear H; have p103 : 0 ≤ (x8_1 : Int) := of_decide_eq_true (au9); have q103 : x8_1 < (l0.length : Int) := of_decide_eq_true (au9); obtain ⟨ad103, e103, hx103_0⟩ := Kd.at_int HR0.out x8_1 p103 q103; cases e103; replace p103 := eq_true p103; replace q103 := eq_true q103; go_wp2
   go_roundg k1
   case measure => have := HK1.out; omega
   case rel => exact ⟨(Go.bits .or .i64 x3_1 (ji7)), (wrap64 (x8_1 + 1)), (by first | rfl | (simp; done) | (simp only [← hji7] <;> (first | rfl | simp)) | (simp [*]; done)), (au16), H', ⟨by have := HK1.out; omega⟩, au30⟩
/-! ### octet_GetSigned: function 103 -/
def octet_GetSigned.f (k : Nat) (l0 : List Int) (a1 : Int) : Option (Int × Int × Int) :=
  (octet_cut.f l0 a1 8).bind fun c => if c.2 = 0 then (octet_gather_int64.f k c.1).bind fun u => some (u, wrap64 (a1 + 8), 0) else some (0, 0, c.2)
theorem octet_GetSigned.mono : ∀ a0 a1 k, LeO (octet_GetSigned.f k a0 a1) (octet_GetSigned.f (k + 1) a0 a1) := by
  intro a0 a1 k
  unfold octet_GetSigned.f
  exact LeO.bind (LeO.refl _) fun c => LeO.ite (LeO.bind (octet_gather_int64.mono _ _) fun u => LeO.refl _) (LeO.refl _)
set_option maxHeartbeats 8000000 in
set_option maxRecDepth 100000 in
theorem octet_GetSigned.calls (k : Nat) (A0 : Option Addr) (c0 : Nat) (l0 : List Int) (a1 : Int) (r1 : Int) (r2 : Int) (r3 : Int) (w : World) (hr0 : Kd.C (Kd.int .u8) w A0 l0.length l0) (hc0 : l0.length ≤ c0) (h : octet_GetSigned.f k l0 a1 = some (r1, r2, r3)) :
    Calls Tryd.prog 103 #[.slice A0 l0.length c0, .int .i64 a1] w fun e w' => e = .returned (.tuple #[.int .i64 r1, .int .i64 r2, .int .i64 r3]) ∧ Drawn0 w w' := by
  have HR := Aside0.mk hr0; have HC := Aside0.mk hc0; clear hr0 hc0
  simp only [octet_GetSigned.f] at h
  obtain ⟨⟨q1, q2⟩, hcut, h⟩ := Option.bind_eq_some_iff.mp h; have HCUT := Aside0.mk hcut; clear hcut
  by_cases c4 : q2 = 0
  · subst c4
    rw [if_pos rfl] at h
    obtain ⟨u, hga, h⟩ := Option.bind_eq_some_iff.mp h
    simp only [Option.some.injEq, Prod.mk.injEq] at h
    obtain ⟨rfl, rfl, rfl⟩ := h; have HGA := Aside0.mk hga; clear hga
    go_enter Tryd.func103, Tryd.ntmps103
    go_wp2_with (go_at_call 73; (with_reducible refine (octet_cut.calls A0 c0 l0 a1 8 q1 0 _ ?s1 ?s2 HCUT.out).mono ?_); (case s1 => exact HR.out); (case s2 => exact HC.out); rintro e w' ⟨A1, c1', rfl, hC1, hK1, rfl⟩; have HC1 := Aside0.mk hC1; have HK1 := Aside0.mk hK1; clear hC1 hK1)
    refine (octet_gather_int64.calls k A1 c1' q1 u _ (HC1.out _ HR.out) HK1.out HGA.out).mono ?_; rintro e w' ⟨rfl, ⟨nd, rfl⟩⟩; go_wp2
    go_ret3
    exact ⟨rfl, ⟨_, rfl⟩⟩
  · rw [if_neg c4] at h
    simp only [Option.some.injEq, Prod.mk.injEq] at h
    obtain ⟨rfl, rfl, rfl⟩ := h
    have c5 : (q2 != 0) = true := by rw [bne_iff_ne]; exact c4
    go_enter Tryd.func103, Tryd.ntmps103
    go_wp2_with (go_at_call 73; (with_reducible refine (octet_cut.calls A0 c0 l0 a1 8 q1 q2 _ ?s1 ?s2 HCUT.out).mono ?_); (case s1 => exact HR.out); (case s2 => exact HC.out); rintro e w' ⟨A1, c1', rfl, hC1, hK1, rfl⟩; have HC1 := Aside0.mk hC1; have HK1 := Aside0.mk hK1; clear hC1 hK1)
    go_ret3
    exact ⟨rfl, ⟨0, rfl⟩⟩

end Go.Proofs.YthmjblmdbcmjcaaDoor.B
