/- Contracts of the functions of this seat (each: the call of the function does what the plain Lean function of the same name tells; the conditions stand in each statement). Written by a program of this session and by hand; checked by Lean. -/
import Derived.Test.YtkmnachdibhdhaaU0
import Derived.Test.YtkmnachdibhdhaaU5
import Derived.Test.YtkmnachdibhdhaaU6
namespace Go.Proofs.Ytkmnachdibhdhaa.U
open Go.RowKit Go.Proofs.YtkmnachdibhdhaaW.PrintWords Go.Proofs.YtkmnachdibhdhaaW.PrintLast Go.Proofs.YtkmnachdibhdhaaW.PrintMore
attribute [local go_sem] max2_int min2_int max_two min_two max_three min_three max_four min_four   -- for this text's walks alone
set_option linter.unusedVariables false
set_option linter.unusedSimpArgs false

/-! ### capstanref13_Pure: function 14 -/
mutual
def capstanref13_Pure.l0 : Nat → List Bool → Int → List (S86) → List (S86) → List (S52) → Int → Option (List Bool × Int)
 | 0, _, _, _, _, _, _ => none
 | k + 1, x4, x5, x159000, x159001, x159002, x159003 => if x5 < (x4.length : Int) then ((capstanref11_Whom.f k x159000 x159001 x159002 x159003 x5).bind fun bt162 => (if bt162.2 = 0 then ((capstanref13_Stores.f k x159000 x159001 x159002 x159003 x5).bind fun bt166 => (capstanref13_Pure.j1 k x4 x5 bt166.1 x159000 x159001 x159002 x159003)) else (some (([] : List Bool), bt162.2)))) else (capstanref13_Pure.l1 k x4 0 x159000 x159001 x159002 x159003)
def capstanref13_Pure.j1 : Nat → List Bool → Int → Bool → List (S86) → List (S86) → List (S52) → Int → Option (List Bool × Int)
 | 0, _, _, _, _, _, _, _ => none
 | k + 1, x4, x5, x8, x159000, x159001, x159002, x159003 => if 0 ≤ x5 then (if x5 < (x4.length : Int) then (capstanref13_Pure.l0 k (x4.set (x5 : Int).toNat (!x8)) (wrap64 (x5 + 1)) x159000 x159001 x159002 x159003) else (none)) else (none)
def capstanref13_Pure.l1 : Nat → List Bool → Int → List (S86) → List (S86) → List (S52) → Int → Option (List Bool × Int)
 | 0, _, _, _, _, _, _ => none
 | k + 1, x4, x10, x159000, x159001, x159002, x159003 => if x10 ≤ (x4.length : Int) then (capstanref13_Pure.l2 k x4 x10 0 x159000 x159001 x159002 x159003) else (some (x4, 0))
def capstanref13_Pure.l2 : Nat → List Bool → Int → Int → List (S86) → List (S86) → List (S52) → Int → Option (List Bool × Int)
 | 0, _, _, _, _, _, _, _ => none
 | k + 1, x4, x10, x11, x159000, x159001, x159002, x159003 => if x11 < (x4.length : Int) then ((capstanref11_Whom.f k x159000 x159001 x159002 x159003 x11).bind fun bt169 => (capstanref13_Pure.l3 k x4 x10 x11 bt169.1 0 x159000 x159001 x159002 x159003)) else (capstanref13_Pure.l1 k x4 (wrap64 (x10 + 1)) x159000 x159001 x159002 x159003)
def capstanref13_Pure.l3 : Nat → List Bool → Int → Int → List Int → Int → List (S86) → List (S86) → List (S52) → Int → Option (List Bool × Int)
 | 0, _, _, _, _, _, _, _, _, _ => none
 | k + 1, x4, x10, x11, x12, x14, x159000, x159001, x159002, x159003 => if x14 < (x12.length : Int) then (if 0 ≤ x11 then (if x11 < (x4.length : Int) then (if rdOf false x4 x11 = true then (if 0 ≤ x14 then (if 0 ≤ (rd x12 x14) then (if (rd x12 x14) < (x4.length : Int) then (capstanref13_Pure.l3 k (x4.set (x11 : Int).toNat (rdOf false x4 (rd x12 x14))) x10 x11 x12 (wrap64 (x14 + 1)) x159000 x159001 x159002 x159003) else (none)) else (none)) else (none)) else (capstanref13_Pure.l3 k (x4.set (x11 : Int).toNat false) x10 x11 x12 (wrap64 (x14 + 1)) x159000 x159001 x159002 x159003)) else (none)) else (none)) else (capstanref13_Pure.l2 k x4 x10 (wrap64 (x11 + 1)) x159000 x159001 x159002 x159003)
end
def capstanref13_Pure.f (k : Nat) (l0_0 : List (S86)) (l0_1 : List (S86)) (l0_2 : List (S52)) (a0_3 : Int) : Option (List Bool × Int) := if 0 ≤ (l0_2.length : Int) then (if ((l0_2.length : Int) : Int).toNat ≤ 281474976710656 then (capstanref13_Pure.l0 k (List.replicate ((l0_2.length : Int) : Int).toNat false) 0 l0_0 l0_1 l0_2 a0_3) else (none)) else (none)
theorem capstanref13_Pure.mono_l : ∀ k, (∀ y0 y1 y2 y3 y4 y5, LeO (capstanref13_Pure.l0 k y0 y1 y2 y3 y4 y5) (capstanref13_Pure.l0 (k + 1) y0 y1 y2 y3 y4 y5)) ∧ (∀ y0 y1 y2 y3 y4 y5 y6, LeO (capstanref13_Pure.j1 k y0 y1 y2 y3 y4 y5 y6) (capstanref13_Pure.j1 (k + 1) y0 y1 y2 y3 y4 y5 y6)) ∧ (∀ y0 y1 y2 y3 y4 y5, LeO (capstanref13_Pure.l1 k y0 y1 y2 y3 y4 y5) (capstanref13_Pure.l1 (k + 1) y0 y1 y2 y3 y4 y5)) ∧ (∀ y0 y1 y2 y3 y4 y5 y6, LeO (capstanref13_Pure.l2 k y0 y1 y2 y3 y4 y5 y6) (capstanref13_Pure.l2 (k + 1) y0 y1 y2 y3 y4 y5 y6)) ∧ (∀ y0 y1 y2 y3 y4 y5 y6 y7 y8, LeO (capstanref13_Pure.l3 k y0 y1 y2 y3 y4 y5 y6 y7 y8) (capstanref13_Pure.l3 (k + 1) y0 y1 y2 y3 y4 y5 y6 y7 y8))
 | 0 => ⟨fun _ _ _ _ _ _ r h => by simp [capstanref13_Pure.l0] at h, fun _ _ _ _ _ _ _ r h => by simp [capstanref13_Pure.j1] at h, fun _ _ _ _ _ _ r h => by simp [capstanref13_Pure.l1] at h, fun _ _ _ _ _ _ _ r h => by simp [capstanref13_Pure.l2] at h, fun _ _ _ _ _ _ _ _ _ r h => by simp [capstanref13_Pure.l3] at h⟩
 | k + 1 => by
  obtain ⟨ih0, ih1, ih2, ih3, ih4⟩ := capstanref13_Pure.mono_l k; refine ⟨?_, ?_, ?_, ?_, ?_⟩
  ·
   intro y0 y1 y2 y3 y4 y5
   unfold capstanref13_Pure.l0
   repeat' first
   | (with_reducible exact ih0 _ _ _ _ _ _)
   | (with_reducible exact ih1 _ _ _ _ _ _ _)
   | (with_reducible exact ih2 _ _ _ _ _ _)
   | (with_reducible exact ih3 _ _ _ _ _ _ _)
   | (with_reducible exact ih4 _ _ _ _ _ _ _ _ _)
   | (with_reducible exact capstanref11_Whom.mono _ _ _ _ _ _)
   | (with_reducible exact capstanref13_Stores.mono _ _ _ _ _ _)
   | (with_reducible exact LeO.refl _)
   | (with_reducible exact LeO.none _)
   | (with_reducible refine LeO.ite ?_ ?_)
   | (with_reducible refine LeO.bind ?_ (fun _ => ?_))
   | exact ih0 _ _ _ _ _ _
   | exact ih1 _ _ _ _ _ _ _
   | exact ih2 _ _ _ _ _ _
   | exact ih3 _ _ _ _ _ _ _
   | exact ih4 _ _ _ _ _ _ _ _ _
   | exact capstanref11_Whom.mono _ _ _ _ _ _
   | exact capstanref13_Stores.mono _ _ _ _ _ _
   | exact LeO.none _
   | refine LeO.ite ?_ ?_
   | refine LeO.bind ?_ (fun _ => ?_)
  ·
   intro y0 y1 y2 y3 y4 y5 y6
   unfold capstanref13_Pure.j1
   repeat' first
   | (with_reducible exact ih0 _ _ _ _ _ _)
   | (with_reducible exact ih1 _ _ _ _ _ _ _)
   | (with_reducible exact ih2 _ _ _ _ _ _)
   | (with_reducible exact ih3 _ _ _ _ _ _ _)
   | (with_reducible exact ih4 _ _ _ _ _ _ _ _ _)
   | (with_reducible exact capstanref11_Whom.mono _ _ _ _ _ _)
   | (with_reducible exact capstanref13_Stores.mono _ _ _ _ _ _)
   | (with_reducible exact LeO.refl _)
   | (with_reducible exact LeO.none _)
   | (with_reducible refine LeO.ite ?_ ?_)
   | (with_reducible refine LeO.bind ?_ (fun _ => ?_))
   | exact ih0 _ _ _ _ _ _
   | exact ih1 _ _ _ _ _ _ _
   | exact ih2 _ _ _ _ _ _
   | exact ih3 _ _ _ _ _ _ _
   | exact ih4 _ _ _ _ _ _ _ _ _
   | exact capstanref11_Whom.mono _ _ _ _ _ _
   | exact capstanref13_Stores.mono _ _ _ _ _ _
   | exact LeO.none _
   | refine LeO.ite ?_ ?_
   | refine LeO.bind ?_ (fun _ => ?_)
  ·
   intro y0 y1 y2 y3 y4 y5
   unfold capstanref13_Pure.l1
   repeat' first
   | (with_reducible exact ih0 _ _ _ _ _ _)
   | (with_reducible exact ih1 _ _ _ _ _ _ _)
   | (with_reducible exact ih2 _ _ _ _ _ _)
   | (with_reducible exact ih3 _ _ _ _ _ _ _)
   | (with_reducible exact ih4 _ _ _ _ _ _ _ _ _)
   | (with_reducible exact capstanref11_Whom.mono _ _ _ _ _ _)
   | (with_reducible exact capstanref13_Stores.mono _ _ _ _ _ _)
   | (with_reducible exact LeO.refl _)
   | (with_reducible exact LeO.none _)
   | (with_reducible refine LeO.ite ?_ ?_)
   | (with_reducible refine LeO.bind ?_ (fun _ => ?_))
   | exact ih0 _ _ _ _ _ _
   | exact ih1 _ _ _ _ _ _ _
   | exact ih2 _ _ _ _ _ _
   | exact ih3 _ _ _ _ _ _ _
   | exact ih4 _ _ _ _ _ _ _ _ _
   | exact capstanref11_Whom.mono _ _ _ _ _ _
   | exact capstanref13_Stores.mono _ _ _ _ _ _
   | exact LeO.none _
   | refine LeO.ite ?_ ?_
   | refine LeO.bind ?_ (fun _ => ?_)
  ·
   intro y0 y1 y2 y3 y4 y5 y6
   unfold capstanref13_Pure.l2
   repeat' first
   | (with_reducible exact ih0 _ _ _ _ _ _)
   | (with_reducible exact ih1 _ _ _ _ _ _ _)
   | (with_reducible exact ih2 _ _ _ _ _ _)
   | (with_reducible exact ih3 _ _ _ _ _ _ _)
   | (with_reducible exact ih4 _ _ _ _ _ _ _ _ _)
   | (with_reducible exact capstanref11_Whom.mono _ _ _ _ _ _)
   | (with_reducible exact capstanref13_Stores.mono _ _ _ _ _ _)
   | (with_reducible exact LeO.refl _)
   | (with_reducible exact LeO.none _)
   | (with_reducible refine LeO.ite ?_ ?_)
   | (with_reducible refine LeO.bind ?_ (fun _ => ?_))
   | exact ih0 _ _ _ _ _ _
   | exact ih1 _ _ _ _ _ _ _
   | exact ih2 _ _ _ _ _ _
   | exact ih3 _ _ _ _ _ _ _
   | exact ih4 _ _ _ _ _ _ _ _ _
   | exact capstanref11_Whom.mono _ _ _ _ _ _
   | exact capstanref13_Stores.mono _ _ _ _ _ _
   | exact LeO.none _
   | refine LeO.ite ?_ ?_
   | refine LeO.bind ?_ (fun _ => ?_)
  ·
   intro y0 y1 y2 y3 y4 y5 y6 y7 y8
   unfold capstanref13_Pure.l3
   repeat' first
   | (with_reducible exact ih0 _ _ _ _ _ _)
   | (with_reducible exact ih1 _ _ _ _ _ _ _)
   | (with_reducible exact ih2 _ _ _ _ _ _)
   | (with_reducible exact ih3 _ _ _ _ _ _ _)
   | (with_reducible exact ih4 _ _ _ _ _ _ _ _ _)
   | (with_reducible exact capstanref11_Whom.mono _ _ _ _ _ _)
   | (with_reducible exact capstanref13_Stores.mono _ _ _ _ _ _)
   | (with_reducible exact LeO.refl _)
   | (with_reducible exact LeO.none _)
   | (with_reducible refine LeO.ite ?_ ?_)
   | (with_reducible refine LeO.bind ?_ (fun _ => ?_))
   | exact ih0 _ _ _ _ _ _
   | exact ih1 _ _ _ _ _ _ _
   | exact ih2 _ _ _ _ _ _
   | exact ih3 _ _ _ _ _ _ _
   | exact ih4 _ _ _ _ _ _ _ _ _
   | exact capstanref11_Whom.mono _ _ _ _ _ _
   | exact capstanref13_Stores.mono _ _ _ _ _ _
   | exact LeO.none _
   | refine LeO.ite ?_ ?_
   | refine LeO.bind ?_ (fun _ => ?_)
theorem capstanref13_Pure.mono : ∀ a0 a1 a2 a3 k, LeO (capstanref13_Pure.f k a0 a1 a2 a3) (capstanref13_Pure.f (k + 1) a0 a1 a2 a3) := by
 intro a0 a1 a2 a3 k; obtain ⟨ih0, ih1, ih2, ih3, ih4⟩ := capstanref13_Pure.mono_l k
 unfold capstanref13_Pure.f
 repeat' first
   | (with_reducible exact ih0 _ _ _ _ _ _)
   | (with_reducible exact ih1 _ _ _ _ _ _ _)
   | (with_reducible exact ih2 _ _ _ _ _ _)
   | (with_reducible exact ih3 _ _ _ _ _ _ _)
   | (with_reducible exact ih4 _ _ _ _ _ _ _ _ _)
   | (with_reducible exact capstanref11_Whom.mono _ _ _ _ _ _)
   | (with_reducible exact capstanref13_Stores.mono _ _ _ _ _ _)
   | (with_reducible exact LeO.refl _)
   | (with_reducible exact LeO.none _)
   | (with_reducible refine LeO.ite ?_ ?_)
   | (with_reducible refine LeO.bind ?_ (fun _ => ?_))
   | exact ih0 _ _ _ _ _ _
   | exact ih1 _ _ _ _ _ _ _
   | exact ih2 _ _ _ _ _ _
   | exact ih3 _ _ _ _ _ _ _
   | exact ih4 _ _ _ _ _ _ _ _ _
   | exact capstanref11_Whom.mono _ _ _ _ _ _
   | exact capstanref13_Stores.mono _ _ _ _ _ _
   | exact LeO.none _
   | refine LeO.ite ?_ ?_
   | refine LeO.bind ?_ (fun _ => ?_)
set_option maxHeartbeats 8000000 in
set_option maxRecDepth 100000 in
theorem capstanref13_Pure.calls (k : Nat) (A0_0 : Option Addr) (c0_0 : Nat) (l0_0 : List (S86)) (A0_1 : Option Addr) (c0_1 : Nat) (l0_1 : List (S86)) (A0_2 : Option Addr) (c0_2 : Nat) (l0_2 : List (S52)) (a0_3 : Int) (r1 : List Bool) (r2 : Int) (w : World) (hr0_0 : Kd.C k86 w A0_0 l0_0.length l0_0) (hc0_0 : l0_0.length ≤ c0_0) (hr0_1 : Kd.C k86 w A0_1 l0_1.length l0_1) (hc0_1 : l0_1.length ≤ c0_1) (hr0_2 : Kd.C k52 w A0_2 l0_2.length l0_2) (hc0_2 : l0_2.length ≤ c0_2) (h : capstanref13_Pure.f k l0_0 l0_1 l0_2 a0_3 = some (r1, r2)) :
  Calls Try.prog 14 #[.agg #[.slice A0_0 l0_0.length c0_0, .slice A0_1 l0_1.length c0_1, .slice A0_2 l0_2.length c0_2, .int .i64 a0_3]] w fun e w' => ∃ v0_ : Value, e = .returned (.tuple #[v0_, .int .i64 r2]) ∧ Kd.R Kd.bool 4 w' w.heap.size (fun _ => True) v0_ r1 ∧ Below w.heap.size w w' := by
 have hu25 := Try.underlying25; have HR0_0 := Aside0.mk hr0_0; have HC0_0 := Aside0.mk hc0_0; clear hr0_0 hc0_0; have HR0_1 := Aside0.mk hr0_1; have HC0_1 := Aside0.mk hc0_1; clear hr0_1 hc0_1; have HR0_2 := Aside0.mk hr0_2; have HC0_2 := Aside0.mk hc0_2; clear hr0_2 hc0_2; have HB := Aside0.mk (Below.refl w.heap.size w); have H : (if 0 ≤ (l0_2.length : Int) then (if ((l0_2.length : Int) : Int).toNat ≤ 281474976710656 then (capstanref13_Pure.l0 k (List.replicate ((l0_2.length : Int) : Int).toNat false) 0 l0_0 l0_1 l0_2 a0_3) else (none)) else (none)) = some (r1, r2) := h; clear h
 by_cases c2 : 0 ≤ (l0_2.length : Int)
 rotate_left
 · rw [if_neg c2] at H; exact absurd H (by simp)

 rw [if_pos c2] at H; have c2b0 := eq_true c2; have c2b1 : decide (0 ≤ (l0_2.length : Int)) = true := decide_eq_true c2; clear c2
 by_cases c3 : ((l0_2.length : Int) : Int).toNat ≤ 281474976710656
 rotate_left
 · rw [if_neg c3] at H; exact absurd H (by simp)
 rw [if_pos c3] at H; have c3b0 := eq_true c3; have c3b1 : decide (((l0_2.length : Int) : Int).toNat ≤ 281474976710656) = true := decide_eq_true c3; clear c3; obtain ⟨y159, hy159⟩ : ∃ y_ : List Bool, y_ = (List.replicate ((l0_2.length : Int) : Int).toNat false) := ⟨_, rfl⟩
 replace H : (capstanref13_Pure.l0 k y159 0 l0_0 l0_1 l0_2 a0_3) = some (r1, r2) := by first | (rw [hy159]; with_reducible exact H) | (have H2_ := (Option.bind_some _ _).symm.trans H; rw [hy159]; with_reducible exact H2_) | (have H2_ := (Option.bind_some _ _).symm.trans H; with_reducible exact H2_) | with_reducible exact H | (rw [hy159]; exact H) | exact H
 have Ny159 := Aside0.mk hy159; clear hy159; have H' := Aside0.mk H; clear H
 go_enter Try.func14, Try.ntmps14
 go_wp2_with (first | ((with_reducible refine gate_dst (N := 1) rfl ?_); refine box_event ?hg (N := 1) ?hd (cs := #[.slice A0_0 l0_0.length c0_0, .slice A0_1 l0_1.length c0_1, .slice A0_2 l0_2.length c0_2, .int .i64 a0_3]) (t := 25) ?hr ?_; (case hd => rfl); (case hg => rfl); (case hr => first | (go_simp; done) | (go_simp; rfl)); intro gb158 hg w4 hbox hb; have n0_ := Aside0.mk (below_step (au1) hb); have n1_ := Aside0.mk (hbox); have n2_ := Aside0.mk ((au28 : w.heap.size ≤ gb158)); have n3_ := Aside0.mk ((au28 : w.heap.size ≤ gb158)); clear HB; have HB := n0_; have BK158 := n1_; have GW158 := n2_; have GE158 := n3_; clear n0_ n1_ n2_ n3_; clear hb hbox hg; obtain ⟨hcz5_0, hcz5_1, hcz5_2, hcz5_3, hfz5_0, hfz5_1, hfz5_2, hfz5_3⟩ := blk_all4 BK158.out) | ((with_reducible refine gate_dst (N := 18) rfl ?_); refine Kd.R_make Kd.bool _ 4 rfl (N := 18) rfl 30 _ _ rfl (l0_2.length : Int) rfl rfl Try.underlying30 (.bool false) 1 info4 rfl (by decide) (by omega) false (ok := fun _ => True) (okp := fun _ => True) rfl (fun _ hk => hk) trivial (of_decide_eq_true (au3)) (Nat.le_trans (Nat.mul_le_mul_right _ (of_decide_eq_true (au3) : (l0_2.length : Int).toNat ≤ 281474976710656)) (by omega)) (Below.refl _ _) (Nat.le_refl _) ?_; intro v160 w6 ho7 hb hg_ hnew_; clear hg_ hnew_; (first | rw [← Ny159.out] at ho7 | (simp only [Int.reduceToNat] at ho7; rw [← Ny159.out] at ho7)); have n0_ := Aside0.mk (Kd.R_lower ho7 (below_size (au8))); have n1_ := Aside0.mk (blk_below (g := gb158) (o := .cells #[.slice A0_0 l0_0.length c0_0, .slice A0_1 l0_1.length c0_1, .slice A0_2 l0_2.length c0_2, .int .i64 a0_3] 25 (0, 0)) (au40) hb); have n2_ := Aside0.mk (below_step (au8) hb); clear BK158; clear HB; have HO161 := n0_; have BK158 := n1_; have HB := n2_; clear n0_ n1_ n2_; clear hb ho7))
 go_loopg [5] k (fun kq v5 w' => ∃ (x4_1 : List Bool) (x5_1 : Int), v5 = .int .i64 x5_1 ∧ Aside0 (capstanref13_Pure.l0 kq x4_1 x5_1 l0_0 l0_1 l0_2 a0_3 = some (r1, r2)) ∧ Aside0 (kq ≤ k) ∧ Aside0 (Kd.R Kd.bool 4 w' w.heap.size (fun _ => True) v160 x4_1) ∧ Aside0 (w'.heap[gb158]? = some (.cells #[(.slice A0_0 l0_0.length c0_0), (.slice A0_1 l0_1.length c0_1), (.slice A0_2 l0_2.length c0_2), .int .i64 a0_3] 25 (0, 0))) ∧ Aside0 (Below w.heap.size w w'))
 case atStart => exact ⟨(y159), (0), (au17), H', ⟨Nat.le_refl _⟩, ⟨by (with_reducible repeat (first | apply Kd.R_alloc | apply Kd.R_drewN | apply Kd.R_drew)); first | exact HO161.out | exact Kd.R_mono (HO161.out) (fun _ h_ => h_.2)⟩, ⟨au40⟩, ⟨au8⟩⟩
 case round =>
  clear H'; (try clear c1); (try clear c2); (try clear c2b0); (try clear c2b1); (try clear p2); (try clear c3); (try clear c3b0); (try clear c3b1); (try clear hcz5_0); (try clear hcz5_1); (try clear hcz5_2); (try clear hcz5_3); (try clear hfz5_0); (try clear hfz5_1); (try clear hfz5_2); (try clear hfz5_3); obtain ⟨x4_1, x5_1, rfl, HA, HK1, HO_4, BK158, HB⟩ := hrel
  cases gk with
  | zero => exact absurd HA.out (by simp [capstanref13_Pure.l0])
  | succ k1 =>
   have H := HA.out; clear HA; simp only [capstanref13_Pure.l0] at H
   by_cases c8 : x5_1 < (x4_1.length : Int)
   ·
    rw [if_pos c8] at H; have c8b0 : decide (x5_1 < (x4_1.length : Int)) = true := decide_eq_true c8; clear c8; replace H := Option.bind_eq_some_iff.mp H; obtain ⟨⟨t162, t165⟩, A90, H⟩ := H; replace H : (if t165 = 0 then ((capstanref13_Stores.f k1 l0_0 l0_1 l0_2 a0_3 x5_1).bind fun bt166 => (capstanref13_Pure.j1 k1 x4_1 x5_1 bt166.1 l0_0 l0_1 l0_2 a0_3)) else (some (([] : List Bool), t165))) = some (r1, r2) := H; have A9 := Aside0.mk A90; clear A90
    by_cases c10 : t165 = 0
    rotate_left
    ·
     rw [if_neg c10] at H; have c10b0 : (t165 == 0) = false := beq_eq_false_iff_ne.mpr c10; have c10b1 : (t165 != 0) = true := bne_iff_ne.mpr c10; simp only [Option.some.injEq, Prod.mk.injEq] at H; obtain ⟨rfl, rfl⟩ := H; obtain ⟨Ao23, co23, eo23⟩ := Kd.R_slice HO_4.out; subst eo23; obtain ⟨hcz24_0, hcz24_1, hcz24_2, hcz24_3, hfz24_0, hfz24_1, hfz24_2, hfz24_3⟩ := blk_all4 BK158.out
     go_wp2_with (first | ((with_reducible refine gate_callee (f := 25) rfl ?_); refine goesL_ (some 28) rfl rfl Try.func25 (by kernel_rfl) rfl #[.agg #[.slice A0_0 l0_0.length c0_0, .slice A0_1 l0_1.length c0_1, .slice A0_2 l0_2.length c0_2, .int .i64 a0_3], .int .i64 x5_1] rfl (au10) ?_; (with_reducible refine (capstanref11_Whom.calls k1 _ _ l0_0 _ _ l0_1 _ _ l0_2 a0_3 x5_1 t162 t165 _ ?side1 ?side2 ?side3 ?side4 ?side5 ?side6 A9.out).mono ?_); (case side1 => exact au4); (case side2 => exact HC0_0.out); (case side3 => exact au12); (case side4 => exact HC0_1.out); (case side5 => exact au14); (case side6 => exact HC0_2.out); rintro e w25 ⟨v163, rfl, ho0, hb⟩; refine ⟨_, rfl, ?_⟩; have n0_ := Aside0.mk (Kd.R_below (au36) hb); have n1_ := Aside0.mk (Kd.R_lower ho0 (below_size (au8))); have n2_ := Aside0.mk (blk_below (g := gb158) (o := .cells #[.slice A0_0 l0_0.length c0_0, .slice A0_1 l0_1.length c0_1, .slice A0_2 l0_2.length c0_2, .int .i64 a0_3] 25 (0, 0)) (au40) hb); have n3_ := Aside0.mk (below_step (au8) hb); clear HO_4; clear BK158; clear HB; have HO_4 := n0_; have HO164 := n1_; have BK158 := n2_; have HB := n3_; clear n0_ n1_ n2_ n3_; (try clear hb); (try clear hb2); (try clear hk); (try clear hi); (try clear ho0)))
     go_ret2
     exact ⟨_, au13, au45, au8⟩
    rw [if_pos c10] at H; have c10b0 : (t165 == 0) = true := beq_iff_eq.mpr c10; have c10b1 : (t165 != 0) = false := bne_eq_false_iff_eq.mpr c10; clear c10; have HC11 := Aside0.mk H; clear H; obtain ⟨Ao12, co12, eo12⟩ := Kd.R_slice HO_4.out; subst eo12; obtain ⟨hcz13_0, hcz13_1, hcz13_2, hcz13_3, hfz13_0, hfz13_1, hfz13_2, hfz13_3⟩ := blk_all4 BK158.out
    go_upto_region 8 with (first | ((with_reducible refine gate_callee (f := 25) rfl ?_); refine goesL_ (some 28) rfl rfl Try.func25 (by kernel_rfl) rfl #[.agg #[.slice A0_0 l0_0.length c0_0, .slice A0_1 l0_1.length c0_1, .slice A0_2 l0_2.length c0_2, .int .i64 a0_3], .int .i64 x5_1] rfl (au10) ?_; (with_reducible refine (capstanref11_Whom.calls k1 _ _ l0_0 _ _ l0_1 _ _ l0_2 a0_3 x5_1 t162 t165 _ ?side1 ?side2 ?side3 ?side4 ?side5 ?side6 A9.out).mono ?_); (case side1 => exact au4); (case side2 => exact HC0_0.out); (case side3 => exact au12); (case side4 => exact HC0_1.out); (case side5 => exact au14); (case side6 => exact HC0_2.out); rintro e w14 ⟨v163, rfl, ho0, hb⟩; refine ⟨_, rfl, ?_⟩; have n0_ := Aside0.mk (Kd.R_below (au36) hb); have n1_ := Aside0.mk (Kd.R_lower ho0 (below_size (au8))); have n2_ := Aside0.mk (blk_below (g := gb158) (o := .cells #[.slice A0_0 l0_0.length c0_0, .slice A0_1 l0_1.length c0_1, .slice A0_2 l0_2.length c0_2, .int .i64 a0_3] 25 (0, 0)) (au40) hb); have n3_ := Aside0.mk (below_step (au8) hb); clear HO_4; clear BK158; clear HB; have HO_4 := n0_; have HO164 := n1_; have BK158 := n2_; have HB := n3_; clear n0_ n1_ n2_ n3_; (try clear hb); (try clear hb2); (try clear hk); (try clear hi); (try clear ho0)))
    (try simp only [Act.put, List.setIfInBounds_toArray, List.set_cons_zero, List.set_cons_succ])
    go_cut [8] (fun v8 wc => ∃ (kq : Nat) (x8_10 : Bool), v8 = .bool x8_10 ∧ Aside0 (capstanref13_Pure.j1 kq x4_1 x5_1 x8_10 l0_0 l0_1 l0_2 a0_3 = some (r1, r2)) ∧ Aside0 (kq ≤ k1) ∧ Aside0 (Kd.R Kd.bool 4 wc w.heap.size (fun _ => True) (.slice Ao12 x4_1.length co12) x4_1) ∧ Aside0 (wc.heap[gb158]? = some (.cells #[(.slice A0_0 l0_0.length c0_0), (.slice A0_1 l0_1.length c0_1), (.slice A0_2 l0_2.length c0_2), .int .i64 a0_3] 25 (0, 0))) ∧ Aside0 (Below w.heap.size w wc))
    case first =>
     have H := HC11.out; clear HC11; replace H := Option.bind_eq_some_iff.mp H; obtain ⟨⟨t166, t167⟩, A150, H⟩ := H; replace H : (capstanref13_Pure.j1 k1 x4_1 x5_1 t166 l0_0 l0_1 l0_2 a0_3) = some (r1, r2) := H; have A15 := Aside0.mk A150; clear A150; have H' := Aside0.mk H; clear H; obtain ⟨hcz16_0, hcz16_1, hcz16_2, hcz16_3, hfz16_0, hfz16_1, hfz16_2, hfz16_3⟩ := blk_all4 BK158.out
     go_wp2_with (first | ((with_reducible refine gate_callee (f := 13) rfl ?_); refine goesL_ (some 37) rfl rfl Try.func13 (by kernel_rfl) rfl #[.agg #[.slice A0_0 l0_0.length c0_0, .slice A0_1 l0_1.length c0_1, .slice A0_2 l0_2.length c0_2, .int .i64 a0_3], .int .i64 x5_1] rfl (au10) ?_; (with_reducible refine (capstanref13_Stores.calls k1 _ _ l0_0 _ _ l0_1 _ _ l0_2 a0_3 x5_1 t166 t167 _ ?side1 ?side2 ?side3 ?side4 ?side5 ?side6 A15.out).mono ?_); (case side1 => exact au4); (case side2 => exact HC0_0.out); (case side3 => exact au12); (case side4 => exact HC0_1.out); (case side5 => exact au14); (case side6 => exact HC0_2.out); rintro e w17 ⟨rfl, hb⟩; refine ⟨_, rfl, ?_⟩; have n0_ := Aside0.mk (Kd.R_below (au36) hb); have n1_ := Aside0.mk (Kd.R_below (by (with_reducible repeat (first | apply Kd.R_alloc | apply Kd.R_drewN | apply Kd.R_drew)); first | exact HO164.out | exact Kd.R_mono (HO164.out) (fun _ h_ => h_.2)) hb); have n2_ := Aside0.mk (blk_below (g := gb158) (o := .cells #[.slice A0_0 l0_0.length c0_0, .slice A0_1 l0_1.length c0_1, .slice A0_2 l0_2.length c0_2, .int .i64 a0_3] 25 (0, 0)) (au40) hb); have n3_ := Aside0.mk (below_step (au8) hb); clear HO_4; clear HO164; clear BK158; clear HB; have HO_4 := n0_; have HO164 := n1_; have BK158 := n2_; have HB := n3_; clear n0_ n1_ n2_ n3_; (try clear hb); (try clear hb2); (try clear hk); (try clear hi)))
     go_meet
     case rel => exact ⟨_, (t166), (au17), H', ⟨by have := HK1.out; first | omega | exact Nat.le_refl _⟩, ⟨au36⟩, ⟨au40⟩, ⟨au8⟩⟩
    case rest =>
     clear HC11; (try clear c1); (try clear c2); (try clear c2b0); (try clear c2b1); (try clear p2); (try clear c3); (try clear c3b0); (try clear c3b1); (try clear c8); (try clear c8b0); (try clear c10); (try clear c10b0); (try clear c10b1); (try clear c13); (try clear c14); (try clear hcz13_0); (try clear hcz13_1); (try clear hcz13_2); (try clear hcz13_3); (try clear hcz16_0); (try clear hcz16_1); (try clear hcz16_2); (try clear hcz16_3); (try clear hcz5_0); (try clear hcz5_1); (try clear hcz5_2); (try clear hcz5_3); (try clear hfz13_0); (try clear hfz13_1); (try clear hfz13_2); (try clear hfz13_3); (try clear hfz16_0); (try clear hfz16_1); (try clear hfz16_2); (try clear hfz16_3); (try clear hfz5_0); (try clear hfz5_1); (try clear hfz5_2); (try clear hfz5_3); (try clear p2); obtain ⟨kq, x8_10, rfl, HA, HJ10, HO_4, BK158, HB⟩ := hcut
     cases kq with
     | zero => exact absurd HA.out (by simp [capstanref13_Pure.j1])
     | succ kj10 =>
      have H := HA.out; clear HA; simp only [capstanref13_Pure.j1] at H
      by_cases c18 : 0 ≤ x5_1
      rotate_left
      · rw [if_neg c18] at H; exact absurd H (by simp)
      rw [if_pos c18] at H; have c18b0 : decide (0 ≤ x5_1) = true := decide_eq_true c18; clear c18
      by_cases c19 : x5_1 < (x4_1.length : Int)
      rotate_left
      · rw [if_neg c19] at H; exact absurd H (by simp)
      rw [if_pos c19] at H; have c19b0 : decide (x5_1 < (x4_1.length : Int)) = true := decide_eq_true c19; clear c19; obtain ⟨y168, hy168⟩ : ∃ y_ : List Bool, y_ = (x4_1.set (x5_1 : Int).toNat (!x8_10)) := ⟨_, rfl⟩
      replace H : (capstanref13_Pure.l0 kj10 y168 (wrap64 (x5_1 + 1)) l0_0 l0_1 l0_2 a0_3) = some (r1, r2) := by first | (rw [hy168]; with_reducible exact H) | (have H2_ := (Option.bind_some _ _).symm.trans H; rw [hy168]; with_reducible exact H2_) | (have H2_ := (Option.bind_some _ _).symm.trans H; with_reducible exact H2_) | with_reducible exact H | (rw [hy168]; exact H) | exact H
      have Ny168 := Aside0.mk hy168; clear hy168; have H' := Aside0.mk H; clear H; have p20 : 0 ≤ (x5_1 : Int) := of_decide_eq_true (au3); have q20 : (x5_1 : Int) < ((x4_1.length : Int) : Int) := of_decide_eq_true (au3); obtain ⟨go20, co20, eo20, gb20, gl20, cl20, HG20⟩ := Kd.R_form HO_4.out (by omega)
      (first | cases eo20 | (injection eo20 with ea_ en_ ec_; (first | subst ea_ | (injection ea_ with ea_; subst ea_)); subst ec_; clear en_))
      have GB20 := Aside0.mk gb20; have GG20 := Aside0.mk HG20; clear gb20 gl20 HG20; obtain ⟨hx20_0, hf20_0⟩ := Kd.R_celln false HO_4.out (x5_1 : Int) p20 q20; replace p20 := eq_true p20; replace q20 := eq_true q20; have HP21 := Kd.R_putg HO_4.out (x5_1 : Int) (!x8_10)
      go_wp2_with (first | ((with_reducible refine gate_store (t := 4) (p := 44) rfl ?_); refine store_event (t := 4) (p := 44) (v := ?vo_w22) (w1 := (wc.setCell ⟨go20, (x5_1 : Int).toNat, none⟩ (.bool (!x8_10)))) ?hg ?ho ?hn ?hr ?_; (case ho => rfl); (case hg => rfl); (case hn => rfl); (case hr => first | (go_simp; done) | (go_simp; rfl)); intro w22 hw; have hg : wc.grownBy w22 (some go20) := (by rw [hw]; exact HP21.2); have hp_ : Kd.R Kd.bool 4 w22 w.heap.size (fun _ => True) (.slice (some ⟨go20, 0, none⟩) x4_1.length co12) y168 := (by rw [hw, Ny168.out]; exact HP21.1); clear HP21; have n0_ := Aside0.mk (hp_); have n1_ := Aside0.mk (blk_grown (g := gb158) (o := .cells #[.slice A0_0 l0_0.length c0_0, .slice A0_1 l0_1.length c0_1, .slice A0_2 l0_2.length c0_2, .int .i64 a0_3] 25 (0, 0)) (au40) hg (Kd.R_ne HO_4.out BK158.out (by decide))); have n2_ := Aside0.mk ((by rw [hw]; exact below_set (HB.out) GB20.out : Below w.heap.size w w22)); clear HO_4; clear BK158; clear HB; have HO_4 := n0_; have BK158 := n1_; have HB := n2_; clear n0_ n1_ n2_; clear hg hw hp_))
      go_roundg kj10
      case measure => have := HK1.out; have := HJ10.out; omega
      case rel => exact ⟨(y168), (wrap64 (x5_1 + 1)), (au17), H', ⟨by have := HK1.out; have := HJ10.out; omega⟩, ⟨au36⟩, ⟨au40⟩, ⟨au8⟩⟩
   ·
    rw [if_neg c8] at H; have c8b0 : decide (x5_1 < (x4_1.length : Int)) = false := decide_eq_false c8; clear c8; have H' := Aside0.mk H; clear H; obtain ⟨Ao26, co26, eo26⟩ := Kd.R_slice HO_4.out; subst eo26; go_wp2
    go_loopg [10] k1 (fun kq v10 w' => ∃ (x4_2 : List Bool) (x10_2 : Int), v10 = .int .i64 x10_2 ∧ Aside0 (capstanref13_Pure.l1 kq x4_2 x10_2 l0_0 l0_1 l0_2 a0_3 = some (r1, r2)) ∧ Aside0 (kq ≤ k1) ∧ Aside0 (Kd.R Kd.bool 4 w' w.heap.size (fun _ => True) (.slice Ao26 x4_1.length co26) x4_2) ∧ Aside0 (w'.heap[gb158]? = some (.cells #[(.slice A0_0 l0_0.length c0_0), (.slice A0_1 l0_1.length c0_1), (.slice A0_2 l0_2.length c0_2), .int .i64 a0_3] 25 (0, 0))) ∧ Aside0 (Below w.heap.size w w'))
    case atStart => exact ⟨(x4_1), (0), (au17), H', ⟨Nat.le_refl _⟩, ⟨au36⟩, ⟨au40⟩, ⟨au8⟩⟩
    case round =>
     clear H'; (try clear c1); (try clear c2); (try clear c2b0); (try clear c2b1); (try clear p2); (try clear q2); (try clear hx2); (try clear hf2); (try clear c3); (try clear c3b0); (try clear c3b1); (try clear p6); (try clear c8); (try clear c8b0); (try clear c10); (try clear c10b0); (try clear c10b1); (try clear c13); (try clear c14); (try clear c18); (try clear c18b0); (try clear c19); (try clear c19b0); (try clear p20); (try clear q20); (try clear hx20); (try clear hf20); (try clear c25); (try clear hcz13_0); (try clear hcz13_1); (try clear hcz13_2); (try clear hcz13_3); (try clear hcz16_0); (try clear hcz16_1); (try clear hcz16_2); (try clear hcz16_3); (try clear hcz24_0); (try clear hcz24_1); (try clear hcz24_2); (try clear hcz24_3); (try clear hcz5_0); (try clear hcz5_1); (try clear hcz5_2); (try clear hcz5_3); (try clear hfz13_0); (try clear hfz13_1); (try clear hfz13_2); (try clear hfz13_3); (try clear hfz16_0); (try clear hfz16_1); (try clear hfz16_2); (try clear hfz16_3); (try clear hfz24_0); (try clear hfz24_1); (try clear hfz24_2); (try clear hfz24_3); (try clear hfz5_0); (try clear hfz5_1); (try clear hfz5_2); (try clear hfz5_3); (try clear hx20_0); (try clear p2); (try clear p20); (try clear q20); obtain ⟨x4_2, x10_2, rfl, HA, HK2, HO_4, BK158, HB⟩ := hrel; have hl4_2 := (Kd.R_reads' HO_4.out).1; rw [hl4_2] at HO_4; (try simp only [hl4_2]); (try simp only [hl4_2] at BK158)
     cases gk with
     | zero => exact absurd HA.out (by simp [capstanref13_Pure.l1])
     | succ k2 =>
      have H := HA.out; clear HA; simp only [capstanref13_Pure.l1] at H
      by_cases c27 : x10_2 ≤ (x4_2.length : Int)
      rotate_left
      ·
       rw [if_neg c27] at H; have c27b0 : decide (x10_2 ≤ (x4_2.length : Int)) = false := decide_eq_false c27; clear c27; (try simp only [hl4_2] at c27b0); simp only [Option.some.injEq, Prod.mk.injEq] at H; obtain ⟨rfl, rfl⟩ := H; go_wp2
       go_ret2
       exact ⟨_, au13, au36, au8⟩
      rw [if_pos c27] at H; have c27b0 : decide (x10_2 ≤ (x4_2.length : Int)) = true := decide_eq_true c27; clear c27; (try simp only [hl4_2] at c27b0); have H' := Aside0.mk H; clear H; go_wp2
      go_loopg [11] k2 (fun kq v11 w' => ∃ (x4_3 : List Bool) (x11_3 : Int), v11 = .int .i64 x11_3 ∧ Aside0 (capstanref13_Pure.l2 kq x4_3 x10_2 x11_3 l0_0 l0_1 l0_2 a0_3 = some (r1, r2)) ∧ Aside0 (kq ≤ k2) ∧ Aside0 (Kd.R Kd.bool 4 w' w.heap.size (fun _ => True) (.slice Ao26 x4_2.length co26) x4_3) ∧ Aside0 (w'.heap[gb158]? = some (.cells #[(.slice A0_0 l0_0.length c0_0), (.slice A0_1 l0_1.length c0_1), (.slice A0_2 l0_2.length c0_2), .int .i64 a0_3] 25 (0, 0))) ∧ Aside0 (Below w.heap.size w w'))
      case atStart => exact ⟨(x4_2), (0), (au17), H', ⟨Nat.le_refl _⟩, ⟨by (try simp only [hl4_2]); (with_reducible repeat (first | apply Kd.R_alloc | apply Kd.R_drewN | apply Kd.R_drew)); first | exact HO_4.out | exact Kd.R_mono (HO_4.out) (fun _ h_ => h_.2)⟩, ⟨by (try simp only [hl4_2]); (with_reducible repeat (first | refine blk_drewN ?_ _ | refine blk_drew ?_ | refine blk_alloc ?_ _)); exact BK158.out⟩, ⟨au8⟩⟩
      case round =>
       clear H'; (try clear c1); (try clear c2); (try clear c2b0); (try clear c2b1); (try clear p2); (try clear q2); (try clear hx2); (try clear hf2); (try clear c3); (try clear c3b0); (try clear c3b1); (try clear p6); (try clear c8); (try clear c8b0); (try clear c10); (try clear c10b0); (try clear c10b1); (try clear c13); (try clear c14); (try clear c18); (try clear c18b0); (try clear c19); (try clear c19b0); (try clear p20); (try clear q20); (try clear hx20); (try clear hf20); (try clear c25); (try clear c27); (try clear c27b0); (try clear hcz13_0); (try clear hcz13_1); (try clear hcz13_2); (try clear hcz13_3); (try clear hcz16_0); (try clear hcz16_1); (try clear hcz16_2); (try clear hcz16_3); (try clear hcz24_0); (try clear hcz24_1); (try clear hcz24_2); (try clear hcz24_3); (try clear hcz5_0); (try clear hcz5_1); (try clear hcz5_2); (try clear hcz5_3); (try clear hfz13_0); (try clear hfz13_1); (try clear hfz13_2); (try clear hfz13_3); (try clear hfz16_0); (try clear hfz16_1); (try clear hfz16_2); (try clear hfz16_3); (try clear hfz24_0); (try clear hfz24_1); (try clear hfz24_2); (try clear hfz24_3); (try clear hfz5_0); (try clear hfz5_1); (try clear hfz5_2); (try clear hfz5_3); (try clear hx20_0); (try clear p2); (try clear p20); (try clear p6); (try clear q2); (try clear q20); obtain ⟨x4_3, x11_3, rfl, HA, HK3, HO_4, BK158, HB⟩ := hrel; have hl4_3 := (Kd.R_reads' HO_4.out).1; rw [hl4_3] at HO_4; (try simp only [hl4_3]); (try simp only [hl4_3] at BK158)
       cases gk with
       | zero => exact absurd HA.out (by simp [capstanref13_Pure.l2])
       | succ k3 =>
        have H := HA.out; clear HA; simp only [capstanref13_Pure.l2] at H
        by_cases c28 : x11_3 < (x4_3.length : Int)
        rotate_left
        ·
         rw [if_neg c28] at H; have c28b0 : decide (x11_3 < (x4_3.length : Int)) = false := decide_eq_false c28; clear c28; (try simp only [hl4_2, hl4_3] at c28b0); have H' := Aside0.mk H; clear H; go_wp2; (try simp only [← hl4_2, ← hl4_3])
         go_roundg k3
         case measure => have := HK1.out; have := HK2.out; have := HK3.out; omega
         case rel => exact ⟨(x4_3), (wrap64 (x10_2 + 1)), (au17), H', ⟨by have := HK1.out; have := HK2.out; have := HK3.out; omega⟩, ⟨by (try simp only [hl4_2]); (try simp only [hl4_3]); (with_reducible repeat (first | apply Kd.R_alloc | apply Kd.R_drewN | apply Kd.R_drew)); first | exact HO_4.out | exact Kd.R_mono (HO_4.out) (fun _ h_ => h_.2)⟩, ⟨by (try simp only [hl4_2]); (try simp only [hl4_3]); (with_reducible repeat (first | refine blk_drewN ?_ _ | refine blk_drew ?_ | refine blk_alloc ?_ _)); exact BK158.out⟩, ⟨au8⟩⟩
        rw [if_pos c28] at H; have c28b0 : decide (x11_3 < (x4_3.length : Int)) = true := decide_eq_true c28; clear c28; (try simp only [hl4_2, hl4_3] at c28b0); replace H := Option.bind_eq_some_iff.mp H; obtain ⟨⟨t169, t172⟩, A290, H⟩ := H; replace H : (capstanref13_Pure.l3 k3 x4_3 x10_2 x11_3 t169 0 l0_0 l0_1 l0_2 a0_3) = some (r1, r2) := H; have A29 := Aside0.mk A290; clear A290; have H' := Aside0.mk H; clear H; obtain ⟨hcz30_0, hcz30_1, hcz30_2, hcz30_3, hfz30_0, hfz30_1, hfz30_2, hfz30_3⟩ := blk_all4 BK158.out
        go_wp2_with (first | ((with_reducible refine gate_callee (f := 25) rfl ?_); refine goesL_ (some 60) rfl rfl Try.func25 (by kernel_rfl) rfl #[.agg #[.slice A0_0 l0_0.length c0_0, .slice A0_1 l0_1.length c0_1, .slice A0_2 l0_2.length c0_2, .int .i64 a0_3], .int .i64 x11_3] rfl (au10) ?_; (with_reducible refine (capstanref11_Whom.calls k3 _ _ l0_0 _ _ l0_1 _ _ l0_2 a0_3 x11_3 t169 t172 _ ?side1 ?side2 ?side3 ?side4 ?side5 ?side6 A29.out).mono ?_); (case side1 => exact au4); (case side2 => exact HC0_0.out); (case side3 => exact au12); (case side4 => exact HC0_1.out); (case side5 => exact au14); (case side6 => exact HC0_2.out); rintro e w31 ⟨v170, rfl, ho0, hb⟩; refine ⟨_, rfl, ?_⟩; have n0_ := Aside0.mk (Kd.R_below (au36) hb); have n1_ := Aside0.mk (Kd.R_lower ho0 (below_size (au8))); have n2_ := Aside0.mk (blk_below (g := gb158) (o := .cells #[.slice A0_0 l0_0.length c0_0, .slice A0_1 l0_1.length c0_1, .slice A0_2 l0_2.length c0_2, .int .i64 a0_3] 25 (0, 0)) (au40) hb); have n3_ := Aside0.mk (below_step (au8) hb); clear HO_4; clear BK158; clear HB; have HO_4 := n0_; have HO171 := n1_; have BK158 := n2_; have HB := n3_; clear n0_ n1_ n2_ n3_; (try clear hb); (try clear hb2); (try clear hk); (try clear hi); (try clear ho0)))
        go_loopg [14] k3 (fun kq v14 w' => ∃ (x4_4 : List Bool) (x14_4 : Int), v14 = .int .i64 x14_4 ∧ Aside0 (capstanref13_Pure.l3 kq x4_4 x10_2 x11_3 t169 x14_4 l0_0 l0_1 l0_2 a0_3 = some (r1, r2)) ∧ Aside0 (kq ≤ k3) ∧ Aside0 (Kd.R Kd.bool 4 w' w.heap.size (fun _ => True) (.slice Ao26 x4_3.length co26) x4_4) ∧ Aside0 (Kd.R (Kd.int .i64) 3 w' w.heap.size (fun _ => True) v170 t169) ∧ Aside0 (w'.heap[gb158]? = some (.cells #[(.slice A0_0 l0_0.length c0_0), (.slice A0_1 l0_1.length c0_1), (.slice A0_2 l0_2.length c0_2), .int .i64 a0_3] 25 (0, 0))) ∧ Aside0 (Below w.heap.size w w'))
        case atStart => exact ⟨(x4_3), (0), (au17), H', ⟨Nat.le_refl _⟩, ⟨by (try simp only [hl4_2]); (try simp only [hl4_3]); (with_reducible repeat (first | apply Kd.R_alloc | apply Kd.R_drewN | apply Kd.R_drew)); first | exact HO_4.out | exact Kd.R_mono (HO_4.out) (fun _ h_ => h_.2)⟩, ⟨by (try simp only [hl4_2]); (try simp only [hl4_3]); (with_reducible repeat (first | apply Kd.R_alloc | apply Kd.R_drewN | apply Kd.R_drew)); first | exact HO171.out | exact Kd.R_mono (HO171.out) (fun _ h_ => h_.2)⟩, ⟨by (try simp only [hl4_2]); (try simp only [hl4_3]); (with_reducible repeat (first | refine blk_drewN ?_ _ | refine blk_drew ?_ | refine blk_alloc ?_ _)); exact BK158.out⟩, ⟨au8⟩⟩
        case round =>
         clear H'; (try clear c1); (try clear c2); (try clear c2b0); (try clear c2b1); (try clear p2); (try clear q2); (try clear hx2); (try clear hf2); (try clear c3); (try clear c3b0); (try clear c3b1); (try clear p6); (try clear c8); (try clear c8b0); (try clear c10); (try clear c10b0); (try clear c10b1); (try clear c13); (try clear c14); (try clear c18); (try clear c18b0); (try clear c19); (try clear c19b0); (try clear p20); (try clear q20); (try clear hx20); (try clear hf20); (try clear c25); (try clear c27); (try clear c27b0); (try clear c28); (try clear c28b0); (try clear hcz13_0); (try clear hcz13_1); (try clear hcz13_2); (try clear hcz13_3); (try clear hcz16_0); (try clear hcz16_1); (try clear hcz16_2); (try clear hcz16_3); (try clear hcz24_0); (try clear hcz24_1); (try clear hcz24_2); (try clear hcz24_3); (try clear hcz30_0); (try clear hcz30_1); (try clear hcz30_2); (try clear hcz30_3); (try clear hcz5_0); (try clear hcz5_1); (try clear hcz5_2); (try clear hcz5_3); (try clear hfz13_0); (try clear hfz13_1); (try clear hfz13_2); (try clear hfz13_3); (try clear hfz16_0); (try clear hfz16_1); (try clear hfz16_2); (try clear hfz16_3); (try clear hfz24_0); (try clear hfz24_1); (try clear hfz24_2); (try clear hfz24_3); (try clear hfz30_0); (try clear hfz30_1); (try clear hfz30_2); (try clear hfz30_3); (try clear hfz5_0); (try clear hfz5_1); (try clear hfz5_2); (try clear hfz5_3); (try clear hx20_0); (try clear p2); (try clear p20); (try clear p6); (try clear q2); (try clear q20); obtain ⟨x4_4, x14_4, rfl, HA, HK4, HO_4, HO_12, BK158, HB⟩ := hrel; have hl4_4 := (Kd.R_reads' HO_4.out).1; rw [hl4_4] at HO_4; (try simp only [hl4_4]); (try simp only [hl4_4] at BK158)
         (try simp only [hl4_4] at HO_12)
         cases gk with
         | zero => exact absurd HA.out (by simp [capstanref13_Pure.l3])
         | succ k4 =>
          have H := HA.out; clear HA; simp only [capstanref13_Pure.l3] at H
          by_cases c32 : x14_4 < (t169.length : Int)
          rotate_left
          ·
           rw [if_neg c32] at H; have c32b0 : decide (x14_4 < (t169.length : Int)) = false := decide_eq_false c32; clear c32; (try simp only [hl4_2, hl4_3, hl4_4] at c32b0); have H' := Aside0.mk H; clear H; obtain ⟨Ao48, co48, eo48⟩ := Kd.R_slice HO_12.out; subst eo48; go_wp2; (try simp only [← hl4_3, ← hl4_4])
           go_roundg k4
           case measure => have := HK1.out; have := HK2.out; have := HK3.out; have := HK4.out; omega
           case rel => exact ⟨(x4_4), (wrap64 (x11_3 + 1)), (au17), H', ⟨by have := HK1.out; have := HK2.out; have := HK3.out; have := HK4.out; omega⟩, ⟨au72⟩, ⟨au81⟩, ⟨au8⟩⟩
          rw [if_pos c32] at H; have c32b0 : decide (x14_4 < (t169.length : Int)) = true := decide_eq_true c32; clear c32; (try simp only [hl4_2, hl4_3, hl4_4] at c32b0)
          by_cases c33 : 0 ≤ x11_3
          rotate_left
          · rw [if_neg c33] at H; exact absurd H (by simp)
          rw [if_pos c33] at H; have c33b0 : decide (0 ≤ x11_3) = true := decide_eq_true c33; clear c33; (try simp only [hl4_2, hl4_3, hl4_4] at c33b0)
          by_cases c34 : x11_3 < (x4_4.length : Int)
          rotate_left
          · rw [if_neg c34] at H; exact absurd H (by simp)
          rw [if_pos c34] at H; have c34b0 : decide (x11_3 < (x4_4.length : Int)) = true := decide_eq_true c34; clear c34; (try simp only [hl4_2, hl4_3, hl4_4] at c34b0); obtain ⟨bq35, hbq35⟩ : ∃ b_ : Bool, b_ = (rdOf false x4_4 x11_3) := ⟨_, rfl⟩
          replace H : (if bq35 = true then (if 0 ≤ x14_4 then (if 0 ≤ (rd t169 x14_4) then (if (rd t169 x14_4) < (x4_4.length : Int) then (capstanref13_Pure.l3 k4 (x4_4.set (x11_3 : Int).toNat (rdOf false x4_4 (rd t169 x14_4))) x10_2 x11_3 t169 (wrap64 (x14_4 + 1)) l0_0 l0_1 l0_2 a0_3) else (none)) else (none)) else (none)) else (capstanref13_Pure.l3 k4 (x4_4.set (x11_3 : Int).toNat false) x10_2 x11_3 t169 (wrap64 (x14_4 + 1)) l0_0 l0_1 l0_2 a0_3)) = some (r1, r2) := by rw [← hbq35] at H; exact H
          have Nbq35 := Aside0.mk hbq35; clear hbq35
          by_cases c36 : bq35 = true
          rotate_left
          ·
           replace c36 := Bool.eq_false_iff.mpr c36; subst c36
           have H1 : (capstanref13_Pure.l3 k4 (x4_4.set (x11_3 : Int).toNat false) x10_2 x11_3 t169 (wrap64 (x14_4 + 1)) l0_0 l0_1 l0_2 a0_3) = some (r1, r2) := by rw [if_neg (show ¬ (false = true) by decide)] at H; exact H
           clear H; have H := H1; clear H1; obtain ⟨y177, hy177⟩ : ∃ y_ : List Bool, y_ = (x4_4.set (x11_3 : Int).toNat false) := ⟨_, rfl⟩
           replace H : (capstanref13_Pure.l3 k4 y177 x10_2 x11_3 t169 (wrap64 (x14_4 + 1)) l0_0 l0_1 l0_2 a0_3) = some (r1, r2) := by first | (rw [hy177]; with_reducible exact H) | (have H2_ := (Option.bind_some _ _).symm.trans H; rw [hy177]; with_reducible exact H2_) | (have H2_ := (Option.bind_some _ _).symm.trans H; with_reducible exact H2_) | with_reducible exact H | (rw [hy177]; exact H) | exact H
           have Ny177 := Aside0.mk hy177; clear hy177; have H' := Aside0.mk H; clear H; obtain ⟨Ao45, co45, eo45⟩ := Kd.R_slice HO_12.out; subst eo45; have p173 : 0 ≤ (x11_3 : Int) := of_decide_eq_true (au3); have q173 : x11_3 < (x4_4.length : Int) := of_decide_eq_true (au3); obtain ⟨ad173, e173, hx173_0⟩ := Kd.at_bool (Kd.R_reads' HO_4.out).2.2 x11_3 p173 q173; (try rw [← Nbq35.out] at hx173_0); cases e173; replace p173 := eq_true p173; replace q173 := eq_true q173; have p44 : 0 ≤ (x11_3 : Int) := of_decide_eq_true (au3); have q44 : (x11_3 : Int) < ((x4_4.length : Int) : Int) := of_decide_eq_true (au3); obtain ⟨go44, co44, eo44, gb44, gl44, cl44, HG44⟩ := Kd.R_form HO_4.out (by omega)
           (first | cases eo44 | (injection eo44 with ea_ en_ ec_; (first | subst ea_ | (injection ea_ with ea_; subst ea_)); subst ec_; clear en_))
           have GB44 := Aside0.mk gb44; have GG44 := Aside0.mk HG44; clear gb44 gl44 HG44
           (first | simp only [add_plain] at hx173_0 | skip)
           obtain ⟨hx44_0, hf44_0⟩ := Kd.R_celln false HO_4.out (x11_3 : Int) p44 q44; replace p44 := eq_true p44; replace q44 := eq_true q44; have HP46 := Kd.R_putg HO_4.out (x11_3 : Int) false
           go_wp2_with (first | ((with_reducible refine gate_store (t := 4) (p := 84) rfl ?_); refine store_event (t := 4) (p := 84) (v := ?vo_w47) (w1 := (wr.setCell ⟨go44, (x11_3 : Int).toNat, none⟩ (.bool false))) ?hg ?ho ?hn ?hr ?_; (case ho => rfl); (case hg => rfl); (case hn => rfl); (case hr => first | (go_simp; done) | (go_simp; rfl)); intro w47 hw; have hg : wr.grownBy w47 (some go44) := (by rw [hw]; exact HP46.2); have hp_ : Kd.R Kd.bool 4 w47 w.heap.size (fun _ => True) (.slice (some ⟨go44, 0, none⟩) x4_4.length co26) y177 := (by rw [hw, Ny177.out]; exact HP46.1); clear HP46; have n0_ := Aside0.mk (hp_); have n1_ := Aside0.mk (Kd.R_over' (v := (.slice (some ⟨go44, 0, none⟩) x4_4.length co26)) (by (with_reducible repeat (first | apply Kd.R_alloc | apply Kd.R_drewN | apply Kd.R_drew)); first | exact HO_12.out | exact Kd.R_mono (HO_12.out) (fun _ h_ => h_.2)) (Kd.R_typed HO_4.out) (by decide) hg); have n2_ := Aside0.mk (blk_grown (g := gb158) (o := .cells #[.slice A0_0 l0_0.length c0_0, .slice A0_1 l0_1.length c0_1, .slice A0_2 l0_2.length c0_2, .int .i64 a0_3] 25 (0, 0)) (au40) hg (Kd.R_ne HO_4.out BK158.out (by decide))); have n3_ := Aside0.mk ((by rw [hw]; exact below_set (HB.out) GB44.out : Below w.heap.size w w47)); clear HO_4; clear HO_12; clear BK158; clear HB; have HO_4 := n0_; have HO_12 := n1_; have BK158 := n2_; have HB := n3_; clear n0_ n1_ n2_ n3_; clear hg hw hp_))
           (try simp only [← hl4_4])
           go_roundg k4
           case measure => have := HK1.out; have := HK2.out; have := HK3.out; have := HK4.out; omega
           case rel => exact ⟨(y177), (wrap64 (x14_4 + 1)), (au17), H', ⟨by have := HK1.out; have := HK2.out; have := HK3.out; have := HK4.out; omega⟩, ⟨au72⟩, ⟨by (try simp only [hl4_2]); (try simp only [hl4_3]); (try simp only [hl4_4]); (with_reducible repeat (first | apply Kd.R_alloc | apply Kd.R_drewN | apply Kd.R_drew)); first | exact HO_12.out | exact Kd.R_mono (HO_12.out) (fun _ h_ => h_.2)⟩, ⟨au81⟩, ⟨au8⟩⟩
          subst c36
          have H1 : (if 0 ≤ x14_4 then (if 0 ≤ (rd t169 x14_4) then (if (rd t169 x14_4) < (x4_4.length : Int) then (capstanref13_Pure.l3 k4 (x4_4.set (x11_3 : Int).toNat (rdOf false x4_4 (rd t169 x14_4))) x10_2 x11_3 t169 (wrap64 (x14_4 + 1)) l0_0 l0_1 l0_2 a0_3) else (none)) else (none)) else (none)) = some (r1, r2) := by rw [if_pos rfl] at H; exact H
          clear H; have H := H1; clear H1
          by_cases c37 : 0 ≤ x14_4
          rotate_left
          · rw [if_neg c37] at H; exact absurd H (by simp)
          rw [if_pos c37] at H; have c37b0 : decide (0 ≤ x14_4) = true := decide_eq_true c37; clear c37; (try simp only [hl4_2, hl4_3, hl4_4] at c37b0)
          by_cases c38 : 0 ≤ (rd t169 x14_4)
          rotate_left
          · rw [if_neg c38] at H; exact absurd H (by simp)
          rw [if_pos c38] at H; have c38b0 : decide (0 ≤ (rd t169 x14_4)) = true := decide_eq_true c38; clear c38; (try simp only [hl4_2, hl4_3, hl4_4] at c38b0)
          by_cases c39 : (rd t169 x14_4) < (x4_4.length : Int)
          rotate_left
          · rw [if_neg c39] at H; exact absurd H (by simp)
          rw [if_pos c39] at H; have c39b0 : decide ((rd t169 x14_4) < (x4_4.length : Int)) = true := decide_eq_true c39; clear c39; (try simp only [hl4_2, hl4_3, hl4_4] at c39b0); obtain ⟨y176, hy176⟩ : ∃ y_ : List Bool, y_ = (x4_4.set (x11_3 : Int).toNat (rdOf false x4_4 (rd t169 x14_4))) := ⟨_, rfl⟩
          replace H : (capstanref13_Pure.l3 k4 y176 x10_2 x11_3 t169 (wrap64 (x14_4 + 1)) l0_0 l0_1 l0_2 a0_3) = some (r1, r2) := by first | (rw [hy176]; with_reducible exact H) | (have H2_ := (Option.bind_some _ _).symm.trans H; rw [hy176]; with_reducible exact H2_) | (have H2_ := (Option.bind_some _ _).symm.trans H; with_reducible exact H2_) | with_reducible exact H | (rw [hy176]; exact H) | exact H
          have Ny176 := Aside0.mk hy176; clear hy176; have H' := Aside0.mk H; clear H; obtain ⟨Ao41, co41, eo41⟩ := Kd.R_slice HO_12.out; subst eo41; have p173 : 0 ≤ (x11_3 : Int) := of_decide_eq_true (au3); have q173 : x11_3 < (x4_4.length : Int) := of_decide_eq_true (au3); obtain ⟨ad173, e173, hx173_0⟩ := Kd.at_bool (Kd.R_reads' HO_4.out).2.2 x11_3 p173 q173; (try rw [← Nbq35.out] at hx173_0); cases e173; replace p173 := eq_true p173; replace q173 := eq_true q173; have p174 : 0 ≤ (x14_4 : Int) := of_decide_eq_true (au3); have q174 : x14_4 < (t169.length : Int) := of_decide_eq_true (au3); obtain ⟨ad174, e174, hx174_0⟩ := Kd.at_int (Kd.R_reads' HO_12.out).2.2 x14_4 p174 q174; cases e174; replace p174 := eq_true p174; replace q174 := eq_true q174; have p175 : 0 ≤ ((rd t169 x14_4) : Int) := of_decide_eq_true (au3); have q175 : (rd t169 x14_4) < (x4_4.length : Int) := of_decide_eq_true (au3); obtain ⟨ad175, e175, hx175_0⟩ := Kd.at_bool (Kd.R_reads' HO_4.out).2.2 (rd t169 x14_4) p175 q175; (try rw [← Nbq35.out] at hx175_0); obtain rfl : ad173 = ad175 := (by injection e175); replace p175 := eq_true p175; replace q175 := eq_true q175; have p40 : 0 ≤ (x11_3 : Int) := of_decide_eq_true (au3); have q40 : (x11_3 : Int) < ((x4_4.length : Int) : Int) := of_decide_eq_true (au3); obtain ⟨go40, co40, eo40, gb40, gl40, cl40, HG40⟩ := Kd.R_form HO_4.out (by omega)
          (first | cases eo40 | (injection eo40 with ea_ en_ ec_; (first | subst ea_ | (injection ea_ with ea_; subst ea_)); subst ec_; clear en_))
          have GB40 := Aside0.mk gb40; have GG40 := Aside0.mk HG40; clear gb40 gl40 HG40
          (first | simp only [add_plain] at hx173_0 | skip)
          (first | simp only [add_plain] at hx175_0 | skip)
          obtain ⟨hx40_0, hf40_0⟩ := Kd.R_celln false HO_4.out (x11_3 : Int) p40 q40; replace p40 := eq_true p40; replace q40 := eq_true q40; have HP42 := Kd.R_putg HO_4.out (x11_3 : Int) (rdOf false x4_4 (rd t169 x14_4))
          go_wp2_with (first | ((with_reducible refine gate_store (t := 4) (p := 84) rfl ?_); refine store_event (t := 4) (p := 84) (v := ?vo_w43) (w1 := (wr.setCell ⟨go40, (x11_3 : Int).toNat, none⟩ (.bool (rdOf false x4_4 (rd t169 x14_4))))) ?hg ?ho ?hn ?hr ?_; (case ho => rfl); (case hg => rfl); (case hn => rfl); (case hr => first | (go_simp; done) | (go_simp; rfl)); intro w43 hw; have hg : wr.grownBy w43 (some go40) := (by rw [hw]; exact HP42.2); have hp_ : Kd.R Kd.bool 4 w43 w.heap.size (fun _ => True) (.slice (some ⟨go40, 0, none⟩) x4_4.length co26) y176 := (by rw [hw, Ny176.out]; exact HP42.1); clear HP42; have n0_ := Aside0.mk (hp_); have n1_ := Aside0.mk (Kd.R_over' (v := (.slice (some ⟨go40, 0, none⟩) x4_4.length co26)) (by (with_reducible repeat (first | apply Kd.R_alloc | apply Kd.R_drewN | apply Kd.R_drew)); first | exact HO_12.out | exact Kd.R_mono (HO_12.out) (fun _ h_ => h_.2)) (Kd.R_typed HO_4.out) (by decide) hg); have n2_ := Aside0.mk (blk_grown (g := gb158) (o := .cells #[.slice A0_0 l0_0.length c0_0, .slice A0_1 l0_1.length c0_1, .slice A0_2 l0_2.length c0_2, .int .i64 a0_3] 25 (0, 0)) (au40) hg (Kd.R_ne HO_4.out BK158.out (by decide))); have n3_ := Aside0.mk ((by rw [hw]; exact below_set (HB.out) GB40.out : Below w.heap.size w w43)); clear HO_4; clear HO_12; clear BK158; clear HB; have HO_4 := n0_; have HO_12 := n1_; have BK158 := n2_; have HB := n3_; clear n0_ n1_ n2_ n3_; clear hg hw hp_))
          (try simp only [← hl4_4])
          go_roundg k4
          case measure => have := HK1.out; have := HK2.out; have := HK3.out; have := HK4.out; omega
          case rel => exact ⟨(y176), (wrap64 (x14_4 + 1)), (au17), H', ⟨by have := HK1.out; have := HK2.out; have := HK3.out; have := HK4.out; omega⟩, ⟨au72⟩, ⟨by (try simp only [hl4_2]); (try simp only [hl4_3]); (try simp only [hl4_4]); (with_reducible repeat (first | apply Kd.R_alloc | apply Kd.R_drewN | apply Kd.R_drew)); first | exact HO_12.out | exact Kd.R_mono (HO_12.out) (fun _ h_ => h_.2)⟩, ⟨au81⟩, ⟨au8⟩⟩
end Go.Proofs.Ytkmnachdibhdhaa.U
