/- Contracts of the functions of this seat (each: the call of the function does what the plain Lean function of the same name tells; the conditions stand in each statement). Written by a program of this session and by hand; checked by Lean. -/
import Derived.Test.YtkmnachdibhdhaaQ0
import Derived.Test.YtkmnachdibhdhaaQ1
import Derived.Test.YtkmnachdibhdhaaQ2
import Derived.Test.YtkmnachdibhdhaaQ3
import Derived.Test.YtkmnachdibhdhaaQ4
namespace Go.Proofs.Ytkmnachdibhdhaa.Q
open Go.RowKit Go.Proofs.YtkmnachdibhdhaaW.PrintWords Go.Proofs.YtkmnachdibhdhaaW.PrintLast Go.Proofs.YtkmnachdibhdhaaW.PrintMore
attribute [local go_sem] max2_int min2_int max_two min_two max_three min_three max_four min_four   -- for this text's walks alone
set_option linter.unusedVariables false
set_option linter.unusedSimpArgs false

/-! ### capstanlaw11_made: function 37 -/
mutual
def capstanlaw11_made.l0 : Nat → Int → List Int → Int → List (S52) → Int → Option ((List (S86)) × (List (S86)) × (List (S52)) × Int)
 | 0, _, _, _, _, _ => none
 | k + 1, x0, x1, x6, x121002, x121003 => if x6 < x0 then (capstanlaw11_made.l1 k x0 x1 x6 0 x121002 x121003 1 false 0 0 0 ([] : List (S70))) else (some (([] : List (S86)), ([] : List (S86)), x121002, x121003))
def capstanlaw11_made.l1 : Nat → Int → List Int → Int → Int → List (S52) → Int → Int → Bool → Int → Int → Int → List (S70) → Option ((List (S86)) × (List (S86)) × (List (S52)) × Int)
 | 0, _, _, _, _, _, _, _, _, _, _, _, _ => none
 | k + 1, x0, x1, x6, x8, x121002, x121003, x122002, x122003, x122004, x122005, x122006, x122007 => if x8 < 16 then (capstanlaw11_made.j2 k x0 x1 x6 x8 (decide (x6 < (x1.length : Int))) x121002 x121003 x122002 x122003 x122004 x122005 x122006 x122007) else (capstanlaw11_made.j2 k x0 x1 x6 x8 false x121002 x121003 x122002 x122003 x122004 x122005 x122006 x122007)
def capstanlaw11_made.j2 : Nat → Int → List Int → Int → Int → Bool → List (S52) → Int → Int → Bool → Int → Int → Int → List (S70) → Option ((List (S86)) × (List (S86)) × (List (S52)) × Int)
 | 0, _, _, _, _, _, _, _, _, _, _, _, _, _ => none
 | k + 1, x0, x1, x6, x8, x23, x121002, x121003, x122002, x122003, x122004, x122005, x122006, x122007 => if x23 = true then (if 0 ≤ x6 then (if x6 < (x1.length : Int) then (if 0 ≤ x8 then (if (Go.bits .and .u16 (shr .u16 (rd x1 x6) x8) 1) = 1 then (if x122007.length < 5864062014805 then (capstanlaw11_made.l1 k x0 x1 x6 (wrap64 (x8 + 1)) x121002 x121003 x122002 x122003 x122004 x122005 x122006 (x122007 ++ [(⟨30, x8, 0⟩ : S70)])) else (none)) else (capstanlaw11_made.l1 k x0 x1 x6 (wrap64 (x8 + 1)) x121002 x121003 x122002 x122003 x122004 x122005 x122006 x122007)) else (none)) else (none)) else (none)) else (if x122007.length < 5864062014805 then (if x121002.length < 1353245080339 then (capstanlaw11_made.l0 k x0 x1 (wrap64 (x6 + 1)) (x121002 ++ [(⟨([] : List Int), ([] : List Int), x122002, x122003, x122004, x122005, x122006, (x122007 ++ [(⟨32, 0, 0⟩ : S70)])⟩ : S52)]) x121003) else (none)) else (none))
end
def capstanlaw11_made.f (k : Nat) (a0 : Int) (l1 : List Int) : Option ((List (S86)) × (List (S86)) × (List (S52)) × Int) := capstanlaw11_made.l0 k a0 l1 0 ([] : List (S52)) (-1)
theorem capstanlaw11_made.mono_l : ∀ k, (∀ y0 y1 y2 y3 y4, LeO (capstanlaw11_made.l0 k y0 y1 y2 y3 y4) (capstanlaw11_made.l0 (k + 1) y0 y1 y2 y3 y4)) ∧ (∀ y0 y1 y2 y3 y4 y5 y6 y7 y8 y9 y10 y11, LeO (capstanlaw11_made.l1 k y0 y1 y2 y3 y4 y5 y6 y7 y8 y9 y10 y11) (capstanlaw11_made.l1 (k + 1) y0 y1 y2 y3 y4 y5 y6 y7 y8 y9 y10 y11)) ∧ (∀ y0 y1 y2 y3 y4 y5 y6 y7 y8 y9 y10 y11 y12, LeO (capstanlaw11_made.j2 k y0 y1 y2 y3 y4 y5 y6 y7 y8 y9 y10 y11 y12) (capstanlaw11_made.j2 (k + 1) y0 y1 y2 y3 y4 y5 y6 y7 y8 y9 y10 y11 y12))
 | 0 => ⟨fun _ _ _ _ _ r h => by simp [capstanlaw11_made.l0] at h, fun _ _ _ _ _ _ _ _ _ _ _ _ r h => by simp [capstanlaw11_made.l1] at h, fun _ _ _ _ _ _ _ _ _ _ _ _ _ r h => by simp [capstanlaw11_made.j2] at h⟩
 | k + 1 => by
  obtain ⟨ih0, ih1, ih2⟩ := capstanlaw11_made.mono_l k
  refine ⟨?_, ?_, ?_⟩
  ·
   intro y0 y1 y2 y3 y4
   unfold capstanlaw11_made.l0
   repeat' first
   | (with_reducible exact ih0 _ _ _ _ _)
   | (with_reducible exact ih1 _ _ _ _ _ _ _ _ _ _ _ _)
   | (with_reducible exact ih2 _ _ _ _ _ _ _ _ _ _ _ _ _)
   | (with_reducible exact LeO.refl _)
   | (with_reducible exact LeO.none _)
   | (with_reducible refine LeO.ite ?_ ?_)
   | (with_reducible refine LeO.bind ?_ (fun _ => ?_))
   | exact ih0 _ _ _ _ _
   | exact ih1 _ _ _ _ _ _ _ _ _ _ _ _
   | exact ih2 _ _ _ _ _ _ _ _ _ _ _ _ _
   | exact LeO.none _
   | refine LeO.ite ?_ ?_
   | refine LeO.bind ?_ (fun _ => ?_)
  ·
   intro y0 y1 y2 y3 y4 y5 y6 y7 y8 y9 y10 y11
   unfold capstanlaw11_made.l1
   repeat' first
   | (with_reducible exact ih0 _ _ _ _ _)
   | (with_reducible exact ih1 _ _ _ _ _ _ _ _ _ _ _ _)
   | (with_reducible exact ih2 _ _ _ _ _ _ _ _ _ _ _ _ _)
   | (with_reducible exact LeO.refl _)
   | (with_reducible exact LeO.none _)
   | (with_reducible refine LeO.ite ?_ ?_)
   | (with_reducible refine LeO.bind ?_ (fun _ => ?_))
   | exact ih0 _ _ _ _ _
   | exact ih1 _ _ _ _ _ _ _ _ _ _ _ _
   | exact ih2 _ _ _ _ _ _ _ _ _ _ _ _ _
   | exact LeO.none _
   | refine LeO.ite ?_ ?_
   | refine LeO.bind ?_ (fun _ => ?_)
  ·
   intro y0 y1 y2 y3 y4 y5 y6 y7 y8 y9 y10 y11 y12
   unfold capstanlaw11_made.j2
   repeat' first
   | (with_reducible exact ih0 _ _ _ _ _)
   | (with_reducible exact ih1 _ _ _ _ _ _ _ _ _ _ _ _)
   | (with_reducible exact ih2 _ _ _ _ _ _ _ _ _ _ _ _ _)
   | (with_reducible exact LeO.refl _)
   | (with_reducible exact LeO.none _)
   | (with_reducible refine LeO.ite ?_ ?_)
   | (with_reducible refine LeO.bind ?_ (fun _ => ?_))
   | exact ih0 _ _ _ _ _
   | exact ih1 _ _ _ _ _ _ _ _ _ _ _ _
   | exact ih2 _ _ _ _ _ _ _ _ _ _ _ _ _
   | exact LeO.none _
   | refine LeO.ite ?_ ?_
   | refine LeO.bind ?_ (fun _ => ?_)
theorem capstanlaw11_made.mono : ∀ a0 a1 k, LeO (capstanlaw11_made.f k a0 a1) (capstanlaw11_made.f (k + 1) a0 a1) := by
 intro a0 a1 k
 obtain ⟨ih0, ih1, ih2⟩ := capstanlaw11_made.mono_l k
 unfold capstanlaw11_made.f
 repeat' first
   | (with_reducible exact ih0 _ _ _ _ _)
   | (with_reducible exact ih1 _ _ _ _ _ _ _ _ _ _ _ _)
   | (with_reducible exact ih2 _ _ _ _ _ _ _ _ _ _ _ _ _)
   | (with_reducible exact LeO.refl _)
   | (with_reducible exact LeO.none _)
   | (with_reducible refine LeO.ite ?_ ?_)
   | (with_reducible refine LeO.bind ?_ (fun _ => ?_))
   | exact ih0 _ _ _ _ _
   | exact ih1 _ _ _ _ _ _ _ _ _ _ _ _
   | exact ih2 _ _ _ _ _ _ _ _ _ _ _ _ _
   | exact LeO.none _
   | refine LeO.ite ?_ ?_
   | refine LeO.bind ?_ (fun _ => ?_)
set_option maxHeartbeats 8000000 in
set_option maxRecDepth 100000 in
theorem capstanlaw11_made.calls (k : Nat) (a0 : Int) (A1 : Option Addr) (c1 : Nat) (l1 : List Int) (r1 : List (S86)) (r2 : List (S86)) (r3 : List (S52)) (r4 : Int) (w : World) (hr1 : Kd.C (Kd.int .u16) w A1 l1.length l1) (hc1 : l1.length ≤ c1) (h : capstanlaw11_made.f k a0 l1 = some (r1, r2, r3, r4)) :
  Calls Try.prog 37 #[.int .i64 a0, .slice A1 l1.length c1] w fun e w' => ∃ v0_ v1_ v2_ : Value, e = .returned (.agg #[v0_, v1_, v2_, .int .i64 r4]) ∧ Kd.R k86 86 w' w.heap.size (fun k_ => some k_ ≠ (v1_ : Value).ownBlock) v0_ r1 ∧ Kd.R k86 86 w' w.heap.size (fun k_ => some k_ ≠ (v0_ : Value).ownBlock) v1_ r2 ∧ Kd.S k52 52 w' w.heap.size (fun _ => True) v2_ r3 ∧ Below w.heap.size w w' := by
 have hu25 := Try.underlying25
 have hu52 := Try.underlying52
 have hu70 := Try.underlying70
 have HR1 := Aside0.mk hr1
 have HC1 := Aside0.mk hc1
 clear hr1 hc1
 have HB := Aside0.mk (Below.refl w.heap.size w)
 have H : (capstanlaw11_made.l0 k a0 l1 0 ([] : List (S52)) (-1)) = some (r1, r2, r3, r4) := h
 clear h
 have H' := Aside0.mk H
 clear H
 go_enter Try.func37, Try.ntmps37
 go_wp2_with (first | ((with_reducible refine gate_dst (N := 4) rfl ?_); (try (refine gate_guard (by rfl) ?_; dsimp only)); refine box_event ?hg (N := 4) ?hd (cs := #[.slice none 0 0, .slice none 0 0, .slice none 0 0, .int .i64 0]) (t := 25) ?hr ?_; (case hd => rfl); (case hg => rfl); (case hr => first | (go_simp; done) | (go_simp; rfl)); intro gb119 hg w3 hbox hb; have n0_ := Aside0.mk (below_step (au2) hb); have n1_ := Aside0.mk (hbox); have n2_ := Aside0.mk ((au47 : w.heap.size ≤ gb119)); have n3_ := Aside0.mk ((au47 : w.heap.size ≤ gb119)); clear HB; have HB := n0_; have BK119 := n1_; have GW119 := n2_; have GE119 := n3_; clear n0_ n1_ n2_ n3_; clear hb hbox hg) | ((with_reducible refine gate_dst (N := 5) rfl ?_); (try (refine gate_guard (by rfl) ?_; dsimp only)); refine box_event ?hg (N := 5) ?hd (cs := #[.slice none 0 0, .slice none 0 0, .slice none 0 0, .int .i64 0]) (t := 25) ?hr ?_; (case hd => rfl); (case hg => rfl); (case hr => first | (go_simp; done) | (go_simp; rfl)); intro gb120 hg w4 hbox hb; have n0_ := Aside0.mk (blk_below (g := gb119) (o := .cells #[.slice none 0 0, .slice none 0 0, .slice none 0 0, .int .i64 0] 25 (0, 0)) (au29) hb); have n1_ := Aside0.mk (below_step (au52) hb); have n2_ := Aside0.mk (hbox); have n3_ := Aside0.mk ((by rw [hg]; exact (below_size (au52)) : w.heap.size ≤ gb120)); have n4_ := Aside0.mk ((by rw [hg]; exact (below_size (au52)) : w.heap.size ≤ gb120)); have n5_ := Aside0.mk ((by rw [hg]; exact Nat.ne_of_lt (blk_lt (g := gb119) (o := .cells #[.slice none 0 0, .slice none 0 0, .slice none 0 0, .int .i64 0] 25 (0, 0)) (au29)) : gb119 ≠ gb120)); have n6_ := Aside0.mk ((by rw [hg]; exact Nat.ne_of_gt (blk_lt (g := gb119) (o := .cells #[.slice none 0 0, .slice none 0 0, .slice none 0 0, .int .i64 0] 25 (0, 0)) (au29)) : gb120 ≠ gb119)); clear BK119; clear HB; have BK119 := n0_; have HB := n1_; have BK120 := n2_; have GW120 := n3_; have GE120 := n4_; have NB119_120 := n5_; have NB120_119 := n6_; clear n0_ n1_ n2_ n3_ n4_ n5_ n6_; clear hb hbox hg; have hnb5 := NB120_119.out; have hnc5 := NB119_120.out; obtain ⟨hcz6_0, hcz6_1, hcz6_2, hcz6_3, hfz6_0, hfz6_1, hfz6_2, hfz6_3⟩ := blk_all4 BK120.out))
 go_loopg [6] k (fun kq v6 w' => ∃ (x6_1 : Int) (x121002_1 : List (S52)) (u121002 : Value), v6 = .int .i64 x6_1 ∧ Aside0 (capstanlaw11_made.l0 kq a0 l1 x6_1 x121002_1 (-1) = some (r1, r2, r3, r4)) ∧ Aside0 (kq ≤ k) ∧ Aside0 (Kd.S k52 52 w' w.heap.size (fun _ => True) u121002 x121002_1) ∧ Aside0 (w'.heap[gb119]? = some (.cells #[(.slice none 0 0), (.slice none 0 0), (.slice none 0 0), .int .i64 0] 25 (0, 0))) ∧ Aside0 (w'.heap[gb120]? = some (.cells #[(.slice none 0 0), (.slice none 0 0), u121002, .int .i64 (-1)] 25 (0, 0))) ∧ Aside0 (Below w.heap.size w w'))
 case atStart => exact ⟨(0), (([] : List (S52))), (.slice none 0 0), (au25), H', ⟨Nat.le_refl _⟩, ⟨au65⟩, ⟨by (with_reducible repeat (first | refine blk_drewN ?_ _ | refine blk_drew ?_ | refine blk_alloc ?_ _)); refine blk_far ?_ NB119_120.out _; (with_reducible repeat (first | refine blk_drewN ?_ _ | refine blk_drew ?_ | refine blk_alloc ?_ _)); refine blk_far ?_ NB119_120.out _; (with_reducible repeat (first | refine blk_drewN ?_ _ | refine blk_drew ?_ | refine blk_alloc ?_ _)); refine blk_far ?_ NB119_120.out _; (with_reducible repeat (first | refine blk_drewN ?_ _ | refine blk_drew ?_ | refine blk_alloc ?_ _)); refine blk_far ?_ NB119_120.out _; (with_reducible repeat (first | refine blk_drewN ?_ _ | refine blk_drew ?_ | refine blk_alloc ?_ _)); exact BK119.out⟩, ⟨by (with_reducible repeat (first | refine blk_drewN ?_ _ | refine blk_drew ?_ | refine blk_alloc ?_ _)); refine blk_put (cs := #[.slice none 0 0, .slice none 0 0, .slice none 0 0, .int .i64 0]) ?_ 3 _ rfl; (with_reducible repeat (first | refine blk_drewN ?_ _ | refine blk_drew ?_ | refine blk_alloc ?_ _)); refine blk_put (cs := #[.slice none 0 0, .slice none 0 0, .slice none 0 0, .int .i64 0]) ?_ 2 _ rfl; (with_reducible repeat (first | refine blk_drewN ?_ _ | refine blk_drew ?_ | refine blk_alloc ?_ _)); refine blk_put (cs := #[.slice none 0 0, .slice none 0 0, .slice none 0 0, .int .i64 0]) ?_ 1 _ rfl; (with_reducible repeat (first | refine blk_drewN ?_ _ | refine blk_drew ?_ | refine blk_alloc ?_ _)); refine blk_put (cs := #[.slice none 0 0, .slice none 0 0, .slice none 0 0, .int .i64 0]) ?_ 0 _ rfl; (with_reducible repeat (first | refine blk_drewN ?_ _ | refine blk_drew ?_ | refine blk_alloc ?_ _)); exact BK120.out⟩, ⟨au32⟩⟩
 case round =>
  clear H'
  try clear c1
  try clear p2
  try clear c3
  try clear c5
  try clear hcz6_0
  try clear hcz6_1
  try clear hcz6_2
  try clear hcz6_3
  try clear hfz6_0
  try clear hfz6_1
  try clear hfz6_2
  try clear hfz6_3
  obtain ⟨x6_1, x121002_1, u121002, rfl, HA, HK1, HO_121002, BK119, BK120, HB⟩ := hrel
  cases gk with
  | zero => exact absurd HA.out (by simp [capstanlaw11_made.l0])
  | succ k1 =>
   have H := HA.out
   clear HA
   simp only [capstanlaw11_made.l0] at H
   by_cases c7 : x6_1 < a0
   ·
    rw [if_pos c7] at H
    have c7b0 : decide (x6_1 < a0) = true := decide_eq_true c7
    clear c7
    have H' := Aside0.mk H
    clear H
    go_wp2_with (first | ((with_reducible refine gate_dst (N := 7) rfl ?_); (try (refine gate_guard (by rfl) ?_; dsimp only)); refine box_event ?hg (N := 7) ?hd (cs := #[.slice none 0 0, .slice none 0 0, .int .u8 0, .bool false, .int .i64 0, .int .i64 0, .int .i64 0, .slice none 0 0]) (t := 52) ?hr ?_; (case hd => rfl); (case hg => rfl); (case hr => first | (go_simp; done) | (go_simp; rfl)); intro gb121 hg w8 hbox hb; have n0_ := Aside0.mk (Kd.S_below (Kd.S_elderB (au50) gb121 (Nat.le_of_eq hg.symm)) hb); have n1_ := Aside0.mk (blk_below (g := gb119) (o := .cells #[.slice none 0 0, .slice none 0 0, .slice none 0 0, .int .i64 0] 25 (0, 0)) (au29) hb); have n2_ := Aside0.mk (blk_below (g := gb120) (o := .cells #[.slice none 0 0, .slice none 0 0, u121002, .int .i64 (-1)] 25 (0, 0)) (au37) hb); have n3_ := Aside0.mk (below_step (au32) hb); have n4_ := Aside0.mk (hbox); have n5_ := Aside0.mk ((by rw [hg]; exact (below_size (au32)) : w.heap.size ≤ gb121)); have n6_ := Aside0.mk ((by rw [hg]; exact (below_size (au32)) : w.heap.size ≤ gb121)); have n7_ := Aside0.mk ((by rw [hg]; exact Nat.ne_of_lt (blk_lt (g := gb119) (o := .cells #[.slice none 0 0, .slice none 0 0, .slice none 0 0, .int .i64 0] 25 (0, 0)) (au29)) : gb119 ≠ gb121)); have n8_ := Aside0.mk ((by rw [hg]; exact Nat.ne_of_gt (blk_lt (g := gb119) (o := .cells #[.slice none 0 0, .slice none 0 0, .slice none 0 0, .int .i64 0] 25 (0, 0)) (au29)) : gb121 ≠ gb119)); have n9_ := Aside0.mk ((by rw [hg]; exact Nat.ne_of_lt (blk_lt (g := gb120) (o := .cells #[.slice none 0 0, .slice none 0 0, u121002, .int .i64 (-1)] 25 (0, 0)) (au37)) : gb120 ≠ gb121)); have n10_ := Aside0.mk ((by rw [hg]; exact Nat.ne_of_gt (blk_lt (g := gb120) (o := .cells #[.slice none 0 0, .slice none 0 0, u121002, .int .i64 (-1)] 25 (0, 0)) (au37)) : gb121 ≠ gb120)); clear HO_121002; clear BK119; clear BK120; clear HB; have HO_121002 := n0_; have BK119 := n1_; have BK120 := n2_; have HB := n3_; have BK121 := n4_; have GW121 := n5_; have GE121 := n6_; have NB119_121 := n7_; have NB121_119 := n8_; have NB120_121 := n9_; have NB121_120 := n10_; clear n0_ n1_ n2_ n3_ n4_ n5_ n6_ n7_ n8_ n9_ n10_; clear hb hbox hg; have hnb9 := NB121_119.out; have hnc9 := NB119_121.out; have hnb10 := NB121_120.out; have hnc10 := NB120_121.out; obtain ⟨hcz11_0, hcz11_1, hcz11_2, hcz11_3, hcz11_4, hcz11_5, hcz11_6, hcz11_7, hfz11_0, hfz11_1, hfz11_2, hfz11_3, hfz11_4, hfz11_5, hfz11_6, hfz11_7⟩ := blk_all8 BK121.out))
    go_loopg [8] k1 (fun kq v8 w' => ∃ (x8_2 : Int) (x122007_2 : List (S70)) (u122007 : Value), v8 = .int .i64 x8_2 ∧ Aside0 (capstanlaw11_made.l1 kq a0 l1 x6_1 x8_2 x121002_1 (-1) 1 false 0 0 0 x122007_2 = some (r1, r2, r3, r4)) ∧ Aside0 (kq ≤ k1) ∧ Aside0 (Kd.S k52 52 w' w.heap.size (fun k_ => some k_ ≠ (u122007 : Value).ownBlock ∧ k_ ≠ gb121) u121002 x121002_1) ∧ Aside0 (Kd.R k70 70 w' w.heap.size (fun _ => True) u122007 x122007_2) ∧ Aside0 (w'.heap[gb119]? = some (.cells #[(.slice none 0 0), (.slice none 0 0), (.slice none 0 0), .int .i64 0] 25 (0, 0))) ∧ Aside0 (w'.heap[gb120]? = some (.cells #[(.slice none 0 0), (.slice none 0 0), u121002, .int .i64 (-1)] 25 (0, 0))) ∧ Aside0 (w'.heap[gb121]? = some (.cells #[(.slice none 0 0), (.slice none 0 0), .int .u8 1, .bool false, .int .i64 0, .int .i64 0, .int .i64 0, u122007] 52 (0, 0))) ∧ Aside0 (Below w.heap.size w w'))
    case atStart => exact ⟨(0), (([] : List (S70))), (.slice none 0 0), (au25), H', ⟨Nat.le_refl _⟩, ⟨by (with_reducible repeat (first | apply Kd.S_alloc | apply Kd.S_drewN | apply Kd.S_drew)); first | exact Kd.S_mono (Kd.S_far (p := ⟨gb121, 7, none⟩) (Kd.S_far (p := ⟨gb121, 6, none⟩) (Kd.S_far (p := ⟨gb121, 5, none⟩) (Kd.S_far (p := ⟨gb121, 4, none⟩) (Kd.S_far (p := ⟨gb121, 3, none⟩) (Kd.S_far (p := ⟨gb121, 2, none⟩) (Kd.S_far (p := ⟨gb121, 1, none⟩) (Kd.S_far (p := ⟨gb121, 0, none⟩) (Kd.S_mono HO_121002.out (fun k_ hk => (⟨hk, hk.2⟩ : _ ∧ k_ ≠ gb121))) (fun _ hk => hk.2) (.slice none 0 0)) (fun _ hk => hk.2) (.slice none 0 0)) (fun _ hk => hk.2) (.int .u8 1)) (fun _ hk => hk.2) (.bool false)) (fun _ hk => hk.2) (.int .i64 0)) (fun _ hk => hk.2) (.int .i64 0)) (fun _ hk => hk.2) (.int .i64 0)) (fun _ hk => hk.2) (.slice none 0 0)) (fun _ hk => ⟨(by simp [Value.ownBlock]), hk.1.2⟩) | exact Kd.S_mono (Kd.S_mono (Kd.S_far (p := ⟨gb121, 7, none⟩) (Kd.S_far (p := ⟨gb121, 6, none⟩) (Kd.S_far (p := ⟨gb121, 5, none⟩) (Kd.S_far (p := ⟨gb121, 4, none⟩) (Kd.S_far (p := ⟨gb121, 3, none⟩) (Kd.S_far (p := ⟨gb121, 2, none⟩) (Kd.S_far (p := ⟨gb121, 1, none⟩) (Kd.S_far (p := ⟨gb121, 0, none⟩) (Kd.S_mono HO_121002.out (fun k_ hk => (⟨hk, hk.2⟩ : _ ∧ k_ ≠ gb121))) (fun _ hk => hk.2) (.slice none 0 0)) (fun _ hk => hk.2) (.slice none 0 0)) (fun _ hk => hk.2) (.int .u8 1)) (fun _ hk => hk.2) (.bool false)) (fun _ hk => hk.2) (.int .i64 0)) (fun _ hk => hk.2) (.int .i64 0)) (fun _ hk => hk.2) (.int .i64 0)) (fun _ hk => hk.2) (.slice none 0 0)) (fun _ hk => ⟨(by simp [Value.ownBlock]), hk.1.2⟩)) (fun _ h_ => h_.2)⟩, ⟨au66⟩, ⟨by (with_reducible repeat (first | refine blk_drewN ?_ _ | refine blk_drew ?_ | refine blk_alloc ?_ _)); refine blk_far ?_ NB119_121.out _; (with_reducible repeat (first | refine blk_drewN ?_ _ | refine blk_drew ?_ | refine blk_alloc ?_ _)); refine blk_far ?_ NB119_121.out _; (with_reducible repeat (first | refine blk_drewN ?_ _ | refine blk_drew ?_ | refine blk_alloc ?_ _)); refine blk_far ?_ NB119_121.out _; (with_reducible repeat (first | refine blk_drewN ?_ _ | refine blk_drew ?_ | refine blk_alloc ?_ _)); refine blk_far ?_ NB119_121.out _; (with_reducible repeat (first | refine blk_drewN ?_ _ | refine blk_drew ?_ | refine blk_alloc ?_ _)); refine blk_far ?_ NB119_121.out _; (with_reducible repeat (first | refine blk_drewN ?_ _ | refine blk_drew ?_ | refine blk_alloc ?_ _)); refine blk_far ?_ NB119_121.out _; (with_reducible repeat (first | refine blk_drewN ?_ _ | refine blk_drew ?_ | refine blk_alloc ?_ _)); refine blk_far ?_ NB119_121.out _; (with_reducible repeat (first | refine blk_drewN ?_ _ | refine blk_drew ?_ | refine blk_alloc ?_ _)); refine blk_far ?_ NB119_121.out _; (with_reducible repeat (first | refine blk_drewN ?_ _ | refine blk_drew ?_ | refine blk_alloc ?_ _)); exact BK119.out⟩, ⟨by (with_reducible repeat (first | refine blk_drewN ?_ _ | refine blk_drew ?_ | refine blk_alloc ?_ _)); refine blk_far ?_ NB120_121.out _; (with_reducible repeat (first | refine blk_drewN ?_ _ | refine blk_drew ?_ | refine blk_alloc ?_ _)); refine blk_far ?_ NB120_121.out _; (with_reducible repeat (first | refine blk_drewN ?_ _ | refine blk_drew ?_ | refine blk_alloc ?_ _)); refine blk_far ?_ NB120_121.out _; (with_reducible repeat (first | refine blk_drewN ?_ _ | refine blk_drew ?_ | refine blk_alloc ?_ _)); refine blk_far ?_ NB120_121.out _; (with_reducible repeat (first | refine blk_drewN ?_ _ | refine blk_drew ?_ | refine blk_alloc ?_ _)); refine blk_far ?_ NB120_121.out _; (with_reducible repeat (first | refine blk_drewN ?_ _ | refine blk_drew ?_ | refine blk_alloc ?_ _)); refine blk_far ?_ NB120_121.out _; (with_reducible repeat (first | refine blk_drewN ?_ _ | refine blk_drew ?_ | refine blk_alloc ?_ _)); refine blk_far ?_ NB120_121.out _; (with_reducible repeat (first | refine blk_drewN ?_ _ | refine blk_drew ?_ | refine blk_alloc ?_ _)); refine blk_far ?_ NB120_121.out _; (with_reducible repeat (first | refine blk_drewN ?_ _ | refine blk_drew ?_ | refine blk_alloc ?_ _)); exact BK120.out⟩, ⟨by (with_reducible repeat (first | refine blk_drewN ?_ _ | refine blk_drew ?_ | refine blk_alloc ?_ _)); refine blk_put (cs := #[.slice none 0 0, .slice none 0 0, .int .u8 1, .bool false, .int .i64 0, .int .i64 0, .int .i64 0, .slice none 0 0]) ?_ 7 _ rfl; (with_reducible repeat (first | refine blk_drewN ?_ _ | refine blk_drew ?_ | refine blk_alloc ?_ _)); refine blk_put (cs := #[.slice none 0 0, .slice none 0 0, .int .u8 1, .bool false, .int .i64 0, .int .i64 0, .int .i64 0, .slice none 0 0]) ?_ 6 _ rfl; (with_reducible repeat (first | refine blk_drewN ?_ _ | refine blk_drew ?_ | refine blk_alloc ?_ _)); refine blk_put (cs := #[.slice none 0 0, .slice none 0 0, .int .u8 1, .bool false, .int .i64 0, .int .i64 0, .int .i64 0, .slice none 0 0]) ?_ 5 _ rfl; (with_reducible repeat (first | refine blk_drewN ?_ _ | refine blk_drew ?_ | refine blk_alloc ?_ _)); refine blk_put (cs := #[.slice none 0 0, .slice none 0 0, .int .u8 1, .bool false, .int .i64 0, .int .i64 0, .int .i64 0, .slice none 0 0]) ?_ 4 _ rfl; (with_reducible repeat (first | refine blk_drewN ?_ _ | refine blk_drew ?_ | refine blk_alloc ?_ _)); refine blk_put (cs := #[.slice none 0 0, .slice none 0 0, .int .u8 1, .bool false, .int .i64 0, .int .i64 0, .int .i64 0, .slice none 0 0]) ?_ 3 _ rfl; (with_reducible repeat (first | refine blk_drewN ?_ _ | refine blk_drew ?_ | refine blk_alloc ?_ _)); refine blk_put (cs := #[.slice none 0 0, .slice none 0 0, .int .u8 0, .bool false, .int .i64 0, .int .i64 0, .int .i64 0, .slice none 0 0]) ?_ 2 _ rfl; (with_reducible repeat (first | refine blk_drewN ?_ _ | refine blk_drew ?_ | refine blk_alloc ?_ _)); refine blk_put (cs := #[.slice none 0 0, .slice none 0 0, .int .u8 0, .bool false, .int .i64 0, .int .i64 0, .int .i64 0, .slice none 0 0]) ?_ 1 _ rfl; (with_reducible repeat (first | refine blk_drewN ?_ _ | refine blk_drew ?_ | refine blk_alloc ?_ _)); refine blk_put (cs := #[.slice none 0 0, .slice none 0 0, .int .u8 0, .bool false, .int .i64 0, .int .i64 0, .int .i64 0, .slice none 0 0]) ?_ 0 _ rfl; (with_reducible repeat (first | refine blk_drewN ?_ _ | refine blk_drew ?_ | refine blk_alloc ?_ _)); exact BK121.out⟩, ⟨au6⟩⟩
    case round =>
     clear H'
     try clear c1
     try clear p2
     try clear c3
     try clear c5
     try clear c7
     try clear c7b0
     try clear c9
     try clear c10
     try clear hcz11_0
     try clear hcz11_1
     try clear hcz11_2
     try clear hcz11_3
     try clear hcz11_4
     try clear hcz11_5
     try clear hcz11_6
     try clear hcz11_7
     try clear hcz6_0
     try clear hcz6_1
     try clear hcz6_2
     try clear hcz6_3
     try clear hfz11_0
     try clear hfz11_1
     try clear hfz11_2
     try clear hfz11_3
     try clear hfz11_4
     try clear hfz11_5
     try clear hfz11_6
     try clear hfz11_7
     try clear hfz6_0
     try clear hfz6_1
     try clear hfz6_2
     try clear hfz6_3
     try clear p2
     obtain ⟨x8_2, x122007_2, u122007, rfl, HA, HK2, HO_121002, HO_122007, BK119, BK120, BK121, HB⟩ := hrel
     cases gk with
     | zero => exact absurd HA.out (by simp [capstanlaw11_made.l1])
     | succ k2 =>
      have H := HA.out
      clear HA
      simp only [capstanlaw11_made.l1] at H
      have HC12 := Aside0.mk H
      clear H
      go_upto_region 7 with (fail)
      go_cut [23] (fun v23 wc => ∃ (kq : Nat) (x23_11 : Bool), v23 = .bool x23_11 ∧ Aside0 (capstanlaw11_made.j2 kq a0 l1 x6_1 x8_2 x23_11 x121002_1 (-1) 1 false 0 0 0 x122007_2 = some (r1, r2, r3, r4)) ∧ Aside0 (kq ≤ k2) ∧ Aside0 (Kd.S k52 52 wc w.heap.size (fun k_ => some k_ ≠ (u122007 : Value).ownBlock ∧ k_ ≠ gb121) u121002 x121002_1) ∧ Aside0 (Kd.R k70 70 wc w.heap.size (fun _ => True) u122007 x122007_2) ∧ Aside0 (wc.heap[gb119]? = some (.cells #[(.slice none 0 0), (.slice none 0 0), (.slice none 0 0), .int .i64 0] 25 (0, 0))) ∧ Aside0 (wc.heap[gb120]? = some (.cells #[(.slice none 0 0), (.slice none 0 0), u121002, .int .i64 (-1)] 25 (0, 0))) ∧ Aside0 (wc.heap[gb121]? = some (.cells #[(.slice none 0 0), (.slice none 0 0), .int .u8 1, .bool false, .int .i64 0, .int .i64 0, .int .i64 0, u122007] 52 (0, 0))) ∧ Aside0 (Below w.heap.size w wc))
      case first =>
       have H := HC12.out
       clear HC12
       by_cases c13 : x8_2 < 16
       ·
        rw [if_pos c13] at H
        have c13b0 : decide (x8_2 < 16) = true := decide_eq_true c13
        clear c13
        (first | rw [c13b0] | (simp only [i64_w, i32_w]; rw [c13b0]) | skip)
        have H' := Aside0.mk H
        clear H
        go_wp2
        go_meet
        case rel => exact ⟨_, (decide (x6_1 < (l1.length : Int))), (au25), H', ⟨by have := HK1.out; have := HK2.out; first | omega | exact Nat.le_refl _⟩, ⟨au50⟩, ⟨au44⟩, ⟨au29⟩, ⟨au37⟩, ⟨au43⟩, ⟨au6⟩⟩
       ·
        rw [if_neg c13] at H
        have c13b0 : decide (x8_2 < 16) = false := decide_eq_false c13
        clear c13
        (first | rw [c13b0] | (simp only [i64_w, i32_w]; rw [c13b0]) | skip)
        have H' := Aside0.mk H
        clear H
        go_wp2
        go_meet
        case rel => exact ⟨_, (false), (au25), H', ⟨by have := HK1.out; have := HK2.out; first | omega | exact Nat.le_refl _⟩, ⟨au50⟩, ⟨au44⟩, ⟨au29⟩, ⟨au37⟩, ⟨au43⟩, ⟨au6⟩⟩
      case rest =>
       clear HC12
       try clear c1
       try clear p2
       try clear c3
       try clear c5
       try clear c7
       try clear c7b0
       try clear c9
       try clear c10
       try clear c13
       try clear c13b0
       try clear hcz11_0
       try clear hcz11_1
       try clear hcz11_2
       try clear hcz11_3
       try clear hcz11_4
       try clear hcz11_5
       try clear hcz11_6
       try clear hcz11_7
       try clear hcz6_0
       try clear hcz6_1
       try clear hcz6_2
       try clear hcz6_3
       try clear hfz11_0
       try clear hfz11_1
       try clear hfz11_2
       try clear hfz11_3
       try clear hfz11_4
       try clear hfz11_5
       try clear hfz11_6
       try clear hfz11_7
       try clear hfz6_0
       try clear hfz6_1
       try clear hfz6_2
       try clear hfz6_3
       try clear p2
       obtain ⟨kq, x23_11, rfl, HA, HJ11, HO_121002, HO_122007, BK119, BK120, BK121, HB⟩ := hcut
       cases kq with
       | zero => exact absurd HA.out (by simp [capstanlaw11_made.j2])
       | succ kj11 =>
        have H := HA.out
        clear HA
        simp only [capstanlaw11_made.j2] at H
        by_cases c14 : x23_11 = true
        ·
         subst c14
         have H1 : (if 0 ≤ x6_1 then (if x6_1 < (l1.length : Int) then (if 0 ≤ x8_2 then (if (Go.bits .and .u16 (shr .u16 (rd l1 x6_1) x8_2) 1) = 1 then (if x122007_2.length < 5864062014805 then (capstanlaw11_made.l1 kj11 a0 l1 x6_1 (wrap64 (x8_2 + 1)) x121002_1 (-1) 1 false 0 0 0 (x122007_2 ++ [(⟨30, x8_2, 0⟩ : S70)])) else (none)) else (capstanlaw11_made.l1 kj11 a0 l1 x6_1 (wrap64 (x8_2 + 1)) x121002_1 (-1) 1 false 0 0 0 x122007_2)) else (none)) else (none)) else (none)) = some (r1, r2, r3, r4) := by rw [if_pos rfl] at H; exact H
         clear H
         have H := H1
         clear H1
         by_cases c15 : 0 ≤ x6_1
         ·
          rw [if_pos c15] at H
          have c15b0 : decide (0 ≤ x6_1) = true := decide_eq_true c15
          clear c15
          by_cases c16 : x6_1 < (l1.length : Int)
          ·
           rw [if_pos c16] at H
           have c16b0 : decide (x6_1 < (l1.length : Int)) = true := decide_eq_true c16
           clear c16
           by_cases c17 : 0 ≤ x8_2
           ·
            rw [if_pos c17] at H
            have c17b0 := eq_true c17
            have c17b1 : decide (0 ≤ x8_2) = true := decide_eq_true c17
            clear c17
            obtain ⟨ji18, hji18⟩ : ∃ j_ : Int, (shr .u16 (rd l1 x6_1) x8_2) = j_ := ⟨_, rfl⟩
            replace H : (if (Go.bits .and .u16 (ji18) 1) = 1 then (if x122007_2.length < 5864062014805 then (capstanlaw11_made.l1 kj11 a0 l1 x6_1 (wrap64 (x8_2 + 1)) x121002_1 (-1) 1 false 0 0 0 (x122007_2 ++ [(⟨30, x8_2, 0⟩ : S70)])) else (none)) else (capstanlaw11_made.l1 kj11 a0 l1 x6_1 (wrap64 (x8_2 + 1)) x121002_1 (-1) 1 false 0 0 0 x122007_2)) = some (r1, r2, r3, r4) := by first | (rw [hji18] at H; exact H) | (simp only [hji18] at H ⊢; exact H)
            have hji18_ : ((rd l1 x6_1) / 2 ^ min x8_2.toNat 16) = ji18 := hji18
            have hji18z : x8_2 ≤ 16 → ((rd l1 x6_1) / 2 ^ x8_2.toNat) = ji18 := shr_small hji18
            by_cases c19 : (Go.bits .and .u16 (ji18) 1) = 1
            ·
             rw [if_pos c19] at H
             have c19b0 : ((Go.bits .and .u16 (ji18) 1) == 1) = true := beq_iff_eq.mpr c19
             have c19b1 : ((Go.bits .and .u16 (ji18) 1) != 1) = false := bne_eq_false_iff_eq.mpr c19
             clear c19
             by_cases c20 : x122007_2.length < 5864062014805
             ·
              rw [if_pos c20] at H
              have LMc20 := Aside0.mk c20
              clear c20
              obtain ⟨y123, hy123⟩ : ∃ y_ : List (S70), y_ = (x122007_2 ++ [(⟨30, x8_2, 0⟩ : S70)]) := ⟨_, rfl⟩
              replace H : (capstanlaw11_made.l1 kj11 a0 l1 x6_1 (wrap64 (x8_2 + 1)) x121002_1 (-1) 1 false 0 0 0 y123) = some (r1, r2, r3, r4) := by first | (rw [hy123]; with_reducible exact H) | (have H2_ := (Option.bind_some _ _).symm.trans H; rw [hy123]; with_reducible exact H2_) | (have H2_ := (Option.bind_some _ _).symm.trans H; with_reducible exact H2_) | with_reducible exact H | (rw [hy123]; exact H) | exact H
              have Ny123 := Aside0.mk hy123
              clear hy123
              have H' := Aside0.mk H
              clear H
              have p122 : 0 ≤ (x6_1 : Int) := of_decide_eq_true (au4)
              have q122 : x6_1 < (l1.length : Int) := of_decide_eq_true (au4)
              obtain ⟨ad122, e122, hx122_0⟩ := Kd.at_int HR1.out x6_1 p122 q122
              cases e122
              replace hx122_0 := (HB.out.cell (World.block_lt_of_cell? w _ hx122_0)).trans hx122_0
              replace p122 := eq_true p122
              replace q122 := eq_true q122
              have hnb21 := NB121_119.out
              have hnc21 := NB119_121.out
              have hnb22 := NB121_120.out
              have hnc22 := NB120_121.out
              obtain ⟨hcz23_0, hcz23_1, hcz23_2, hcz23_3, hcz23_4, hcz23_5, hcz23_6, hcz23_7, hfz23_0, hfz23_1, hfz23_2, hfz23_3, hfz23_4, hfz23_5, hfz23_6, hfz23_7⟩ := blk_all8 BK121.out
              go_wp2_with (first | ((with_reducible refine gate_builtin (b := .append) (xs := #[.tmp 35, .tmp 38]) rfl ?_); (try (refine gate_guard (by rfl) ?_; dsimp only)); at_builtin; refine Kd.R_append k70 (w0 := w) w.heap.size rfl (.tmp 35) (.tmp 38) 50 70 (.agg #[(.int .u8 0), (.int .i64 0), (.int .i64 0)]) 24 rfl Try.underlying50 info70 rfl (by decide) (by omega) u122007 x122007_2 (⟨30, x8_2, 0⟩ : S70) [.int .u8 30, .int .i64 x8_2, .int .i64 0] (fun _ => True) (fun _ => False) rfl rfl ?aP (fun _ hk => hk.elim) ?aF ?aO ?aB ?aS ?aL ?_; (case aP => exact k70_mkM _ _ _ (⟨30, x8_2, 0⟩ : S70)); (case aB => exact (au6)); (case aF => exact (fun _ _ => trivial)); (case aO => exact (au44)); (case aS => exact (below_size (au6))); (case aL => have := LMc20.out; omega); intro v124 w24 ho hb hg hat; rw [← Ny123.out] at ho; have n0_ := Aside0.mk (Kd.S_after (ok := (fun k_ => k_ ≠ gb121)) (by (with_reducible repeat (first | apply Kd.S_alloc | apply Kd.S_drewN | apply Kd.S_drew)); first | exact Kd.S_mono HO_121002.out (fun _ hk => ⟨hk.2, hk.1⟩) | exact Kd.S_mono (Kd.S_mono HO_121002.out (fun _ hk => ⟨hk.2, hk.1⟩)) (fun _ h_ => h_.2)) hg hat); have n1_ := Aside0.mk (blk_grown (g := gb119) (o := .cells #[.slice none 0 0, .slice none 0 0, .slice none 0 0, .int .i64 0] 25 (0, 0)) (au29) hg (Kd.R_ne HO_122007.out BK119.out (by decide))); have n2_ := Aside0.mk (blk_grown (g := gb120) (o := .cells #[.slice none 0 0, .slice none 0 0, u121002, .int .i64 (-1)] 25 (0, 0)) (au37) hg (Kd.R_ne HO_122007.out BK120.out (by decide))); have n3_ := Aside0.mk (blk_grown (g := gb121) (o := .cells #[.slice none 0 0, .slice none 0 0, .int .u8 1, .bool false, .int .i64 0, .int .i64 0, .int .i64 0, u122007] 52 (0, 0)) (au43) hg (Kd.R_ne HO_122007.out BK121.out (by decide))); have n4_ := Aside0.mk (hb); have n5_ := Aside0.mk (ho); clear HO_121002; clear BK119; clear BK120; clear BK121; clear HB; clear HO_122007; have HO_121002 := n0_; have BK119 := n1_; have BK120 := n2_; have BK121 := n3_; have HB := n4_; have HO125 := n5_; clear n0_ n1_ n2_ n3_ n4_ n5_; clear ho hb hg hat; obtain ⟨Ao25, co25, eo25⟩ := Kd.R_slice HO125.out; subst eo25; obtain ⟨hcz26_0, hcz26_1, hcz26_2, hcz26_3, hcz26_4, hcz26_5, hcz26_6, hcz26_7, hfz26_0, hfz26_1, hfz26_2, hfz26_3, hfz26_4, hfz26_5, hfz26_6, hfz26_7⟩ := blk_all8 BK121.out))
              go_roundg kj11
              case measure => have := HK1.out; have := HK2.out; have := HJ11.out; omega
              case rel => exact ⟨(wrap64 (x8_2 + 1)), (y123), (.slice Ao25 y123.length co25), (au25), H', ⟨by have := HK1.out; have := HK2.out; have := HJ11.out; omega⟩, ⟨by (with_reducible repeat (first | apply Kd.S_alloc | apply Kd.S_drewN | apply Kd.S_drew)); first | exact Kd.S_mono (Kd.S_far (p := ⟨gb121, 7, none⟩) (Kd.S_mono HO_121002.out (fun k_ hk => (⟨hk, hk.1⟩ : _ ∧ k_ ≠ gb121))) (fun _ hk => hk.2) (.slice Ao25 y123.length co25)) (fun _ hk => ⟨hk.1.2, hk.1.1⟩) | exact Kd.S_mono (Kd.S_mono (Kd.S_far (p := ⟨gb121, 7, none⟩) (Kd.S_mono HO_121002.out (fun k_ hk => (⟨hk, hk.1⟩ : _ ∧ k_ ≠ gb121))) (fun _ hk => hk.2) (.slice Ao25 y123.length co25)) (fun _ hk => ⟨hk.1.2, hk.1.1⟩)) (fun _ h_ => h_.2)⟩, ⟨by (with_reducible repeat (first | apply Kd.R_alloc | apply Kd.R_drewN | apply Kd.R_drew)); first | exact Kd.R_mono (Kd.R_far (p := ⟨gb121, 7, none⟩) (Kd.R_types HO125.out BK121.out (by decide)) (fun _ hk => hk.2) (.slice Ao25 y123.length co25)) (fun _ hk => trivial) | exact Kd.R_mono (Kd.R_mono (Kd.R_far (p := ⟨gb121, 7, none⟩) (Kd.R_types HO125.out BK121.out (by decide)) (fun _ hk => hk.2) (.slice Ao25 y123.length co25)) (fun _ hk => trivial)) (fun _ h_ => h_.2)⟩, ⟨by (with_reducible repeat (first | refine blk_drewN ?_ _ | refine blk_drew ?_ | refine blk_alloc ?_ _)); refine blk_far ?_ NB119_121.out _; (with_reducible repeat (first | refine blk_drewN ?_ _ | refine blk_drew ?_ | refine blk_alloc ?_ _)); exact BK119.out⟩, ⟨by (with_reducible repeat (first | refine blk_drewN ?_ _ | refine blk_drew ?_ | refine blk_alloc ?_ _)); refine blk_far ?_ NB120_121.out _; (with_reducible repeat (first | refine blk_drewN ?_ _ | refine blk_drew ?_ | refine blk_alloc ?_ _)); exact BK120.out⟩, ⟨au55⟩, ⟨au6⟩⟩
             ·
              rw [if_neg c20] at H
              exact absurd H (by simp)
            ·
             rw [if_neg c19] at H
             have c19b0 : ((Go.bits .and .u16 (ji18) 1) == 1) = false := beq_eq_false_iff_ne.mpr c19
             have c19b1 : ((Go.bits .and .u16 (ji18) 1) != 1) = true := bne_iff_ne.mpr c19
             have H' := Aside0.mk H
             clear H
             have p122 : 0 ≤ (x6_1 : Int) := of_decide_eq_true (au4)
             have q122 : x6_1 < (l1.length : Int) := of_decide_eq_true (au4)
             obtain ⟨ad122, e122, hx122_0⟩ := Kd.at_int HR1.out x6_1 p122 q122
             cases e122
             replace hx122_0 := (HB.out.cell (World.block_lt_of_cell? w _ hx122_0)).trans hx122_0
             replace p122 := eq_true p122
             replace q122 := eq_true q122
             go_wp2
             go_roundg kj11
             case measure => have := HK1.out; have := HK2.out; have := HJ11.out; omega
             case rel => exact ⟨(wrap64 (x8_2 + 1)), (x122007_2), (u122007), (au25), H', ⟨by have := HK1.out; have := HK2.out; have := HJ11.out; omega⟩, ⟨au50⟩, ⟨au44⟩, ⟨au29⟩, ⟨au37⟩, ⟨au43⟩, ⟨au6⟩⟩
           ·
            rw [if_neg c17] at H
            exact absurd H (by simp)
          ·
           rw [if_neg c16] at H
           exact absurd H (by simp)
         ·
          rw [if_neg c15] at H
          exact absurd H (by simp)
        ·
         replace c14 := Bool.eq_false_iff.mpr c14
         subst c14
         have H1 : (if x122007_2.length < 5864062014805 then (if x121002_1.length < 1353245080339 then (capstanlaw11_made.l0 kj11 a0 l1 (wrap64 (x6_1 + 1)) (x121002_1 ++ [(⟨([] : List Int), ([] : List Int), 1, false, 0, 0, 0, (x122007_2 ++ [(⟨32, 0, 0⟩ : S70)])⟩ : S52)]) (-1)) else (none)) else (none)) = some (r1, r2, r3, r4) := by rw [if_neg (show ¬ (false = true) by decide)] at H; exact H
         clear H
         have H := H1
         clear H1
         by_cases c27 : x122007_2.length < 5864062014805
         ·
          rw [if_pos c27] at H
          have LMc27 := Aside0.mk c27
          clear c27
          obtain ⟨y126, hy126⟩ : ∃ y_ : List (S70), y_ = (x122007_2 ++ [(⟨32, 0, 0⟩ : S70)]) := ⟨_, rfl⟩
          replace H : (if x121002_1.length < 1353245080339 then (capstanlaw11_made.l0 kj11 a0 l1 (wrap64 (x6_1 + 1)) (x121002_1 ++ [(⟨([] : List Int), ([] : List Int), 1, false, 0, 0, 0, y126⟩ : S52)]) (-1)) else (none)) = some (r1, r2, r3, r4) := by first | (rw [hy126]; with_reducible exact H) | (have H2_ := (Option.bind_some _ _).symm.trans H; rw [hy126]; with_reducible exact H2_) | (have H2_ := (Option.bind_some _ _).symm.trans H; with_reducible exact H2_) | with_reducible exact H | (rw [hy126]; exact H) | exact H
          have Ny126 := Aside0.mk hy126
          clear hy126
          by_cases c28 : x121002_1.length < 1353245080339
          ·
           rw [if_pos c28] at H
           have LMc28 := Aside0.mk c28
           clear c28
           obtain ⟨y129, hy129⟩ : ∃ y_ : List (S52), y_ = (x121002_1 ++ [(⟨([] : List Int), ([] : List Int), 1, false, 0, 0, 0, y126⟩ : S52)]) := ⟨_, rfl⟩
           replace H : (capstanlaw11_made.l0 kj11 a0 l1 (wrap64 (x6_1 + 1)) y129 (-1)) = some (r1, r2, r3, r4) := by first | (rw [hy129]; with_reducible exact H) | (have H2_ := (Option.bind_some _ _).symm.trans H; rw [hy129]; with_reducible exact H2_) | (have H2_ := (Option.bind_some _ _).symm.trans H; with_reducible exact H2_) | with_reducible exact H | (rw [hy129]; exact H) | exact H
           have Ny129 := Aside0.mk hy129
           clear hy129
           have H' := Aside0.mk H
           clear H
           have hnb29 := NB121_119.out
           have hnc29 := NB119_121.out
           have hnb30 := NB121_120.out
           have hnc30 := NB120_121.out
           obtain ⟨hcz31_0, hcz31_1, hcz31_2, hcz31_3, hcz31_4, hcz31_5, hcz31_6, hcz31_7, hfz31_0, hfz31_1, hfz31_2, hfz31_3, hfz31_4, hfz31_5, hfz31_6, hfz31_7⟩ := blk_all8 BK121.out
           go_wp2_with (first | ((with_reducible refine gate_builtin (b := .append) (xs := #[.tmp 42, .tmp 44]) rfl ?_); (try (refine gate_guard (by rfl) ?_; dsimp only)); at_builtin; refine Kd.R_append k70 (w0 := w) w.heap.size rfl (.tmp 42) (.tmp 44) 50 70 (.agg #[(.int .u8 0), (.int .i64 0), (.int .i64 0)]) 24 rfl Try.underlying50 info70 rfl (by decide) (by omega) u122007 x122007_2 (⟨32, 0, 0⟩ : S70) [.int .u8 32, .int .i64 0, .int .i64 0] (fun _ => True) (fun _ => False) rfl rfl ?aP (fun _ hk => hk.elim) ?aF ?aO ?aB ?aS ?aL ?_; (case aP => exact k70_mkM _ _ _ (⟨32, 0, 0⟩ : S70)); (case aB => exact (au6)); (case aF => exact (fun _ _ => trivial)); (case aO => exact (au44)); (case aS => exact (below_size (au6))); (case aL => have := LMc27.out; omega); intro v127 w32 ho hb hg hat; rw [← Ny126.out] at ho; have n0_ := Aside0.mk (Kd.S_after (ok := (fun k_ => k_ ≠ gb121)) (by (with_reducible repeat (first | apply Kd.S_alloc | apply Kd.S_drewN | apply Kd.S_drew)); first | exact Kd.S_mono HO_121002.out (fun _ hk => ⟨hk.2, hk.1⟩) | exact Kd.S_mono (Kd.S_mono HO_121002.out (fun _ hk => ⟨hk.2, hk.1⟩)) (fun _ h_ => h_.2)) hg hat); have n1_ := Aside0.mk (blk_grown (g := gb119) (o := .cells #[.slice none 0 0, .slice none 0 0, .slice none 0 0, .int .i64 0] 25 (0, 0)) (au29) hg (Kd.R_ne HO_122007.out BK119.out (by decide))); have n2_ := Aside0.mk (blk_grown (g := gb120) (o := .cells #[.slice none 0 0, .slice none 0 0, u121002, .int .i64 (-1)] 25 (0, 0)) (au37) hg (Kd.R_ne HO_122007.out BK120.out (by decide))); have n3_ := Aside0.mk (blk_grown (g := gb121) (o := .cells #[.slice none 0 0, .slice none 0 0, .int .u8 1, .bool false, .int .i64 0, .int .i64 0, .int .i64 0, u122007] 52 (0, 0)) (au43) hg (Kd.R_ne HO_122007.out BK121.out (by decide))); have n4_ := Aside0.mk (hb); have n5_ := Aside0.mk (ho); clear HO_121002; clear BK119; clear BK120; clear BK121; clear HB; clear HO_122007; have HO_121002 := n0_; have BK119 := n1_; have BK120 := n2_; have BK121 := n3_; have HB := n4_; have HO128 := n5_; clear n0_ n1_ n2_ n3_ n4_ n5_; clear ho hb hg hat; obtain ⟨Ao33, co33, eo33⟩ := Kd.R_slice HO128.out; subst eo33; obtain ⟨hcz34_0, hcz34_1, hcz34_2, hcz34_3, hcz34_4, hcz34_5, hcz34_6, hcz34_7, hfz34_0, hfz34_1, hfz34_2, hfz34_3, hfz34_4, hfz34_5, hfz34_6, hfz34_7⟩ := blk_all8 BK121.out) | ((with_reducible refine gate_store (t := 50) (p := 46) rfl ?_); refine store_event (t := 50) (p := 46) (v := ?vo_w35) (w1 := (w32.setCell ⟨gb121, 7, none⟩ (.slice Ao33 y126.length co33))) ?hg ?ho ?hn ?hr ?_; (case ho => rfl); (case hg => rfl); (case hn => rfl); (case hr => first | (go_simp; done) | (go_simp; rfl)); intro w35 hw; have n0_ : Aside0 (Kd.S k52 52 w35 w.heap.size (fun k_ => some k_ ≠ (.slice Ao33 y126.length co33 : Value).ownBlock ∧ k_ ≠ gb121) u121002 x121002_1) := ⟨(by rw [hw]; exact (by (with_reducible repeat (first | apply Kd.S_alloc | apply Kd.S_drewN | apply Kd.S_drew)); first | exact Kd.S_mono (Kd.S_far (p := ⟨gb121, 7, none⟩) (Kd.S_mono HO_121002.out (fun k_ hk => (⟨hk, hk.1⟩ : _ ∧ k_ ≠ gb121))) (fun _ hk => hk.2) (.slice Ao33 y126.length co33)) (fun _ hk => ⟨hk.1.2, hk.1.1⟩) | exact Kd.S_mono (Kd.S_mono (Kd.S_far (p := ⟨gb121, 7, none⟩) (Kd.S_mono HO_121002.out (fun k_ hk => (⟨hk, hk.1⟩ : _ ∧ k_ ≠ gb121))) (fun _ hk => hk.2) (.slice Ao33 y126.length co33)) (fun _ hk => ⟨hk.1.2, hk.1.1⟩)) (fun _ h_ => h_.2)))⟩; have n1_ : Aside0 (Kd.R k70 70 w35 w.heap.size (fun _ => True) (.slice Ao33 y126.length co33) y126) := ⟨(by rw [hw]; exact (by (with_reducible repeat (first | apply Kd.R_alloc | apply Kd.R_drewN | apply Kd.R_drew)); first | exact Kd.R_mono (Kd.R_far (p := ⟨gb121, 7, none⟩) (Kd.R_types HO128.out BK121.out (by decide)) (fun _ hk => hk.2) (.slice Ao33 y126.length co33)) (fun _ hk => trivial) | exact Kd.R_mono (Kd.R_mono (Kd.R_far (p := ⟨gb121, 7, none⟩) (Kd.R_types HO128.out BK121.out (by decide)) (fun _ hk => hk.2) (.slice Ao33 y126.length co33)) (fun _ hk => trivial)) (fun _ h_ => h_.2)))⟩; have n2_ : Aside0 (w35.heap[gb119]? = some (.cells #[.slice none 0 0, .slice none 0 0, .slice none 0 0, .int .i64 0] 25 (0, 0))) := ⟨(by rw [hw]; exact (by (with_reducible repeat (first | refine blk_drewN ?_ _ | refine blk_drew ?_ | refine blk_alloc ?_ _)); refine blk_far ?_ NB119_121.out _; (with_reducible repeat (first | refine blk_drewN ?_ _ | refine blk_drew ?_ | refine blk_alloc ?_ _)); exact BK119.out))⟩; have n3_ : Aside0 (w35.heap[gb120]? = some (.cells #[.slice none 0 0, .slice none 0 0, u121002, .int .i64 (-1)] 25 (0, 0))) := ⟨(by rw [hw]; exact (by (with_reducible repeat (first | refine blk_drewN ?_ _ | refine blk_drew ?_ | refine blk_alloc ?_ _)); refine blk_far ?_ NB120_121.out _; (with_reducible repeat (first | refine blk_drewN ?_ _ | refine blk_drew ?_ | refine blk_alloc ?_ _)); exact BK120.out))⟩; have n4_ : Aside0 (w35.heap[gb121]? = some (.cells #[.slice none 0 0, .slice none 0 0, .int .u8 1, .bool false, .int .i64 0, .int .i64 0, .int .i64 0, .slice Ao33 y126.length co33] 52 (0, 0))) := ⟨(by rw [hw]; exact (au55))⟩; have n5_ : Aside0 (Below w.heap.size w w35) := ⟨(by rw [hw]; exact (au6))⟩; clear hw; clear HO_121002; clear HO128; clear BK119; clear BK120; clear BK121; clear HB; have HO_121002 := n0_; have HO128 := n1_; have BK119 := n2_; have BK120 := n3_; have BK121 := n4_; have HB := n5_; clear n0_ n1_ n2_ n3_ n4_ n5_; have hnb36 := NB120_119.out; have hnc36 := NB119_120.out; obtain ⟨hcz37_0, hcz37_1, hcz37_2, hcz37_3, hfz37_0, hfz37_1, hfz37_2, hfz37_3⟩ := blk_all4 BK120.out; obtain ⟨hcz38_0, hcz38_1, hcz38_2, hcz38_3, hcz38_4, hcz38_5, hcz38_6, hcz38_7, hfz38_0, hfz38_1, hfz38_2, hfz38_3, hfz38_4, hfz38_5, hfz38_6, hfz38_7⟩ := blk_all8 BK121.out) | ((with_reducible refine gate_builtin (b := .append) (xs := #[.tmp 48, .tmp 50]) rfl ?_); (try (refine gate_guard (by rfl) ?_; dsimp only)); at_builtin; refine Kd.S_append k52 (w0 := w) w.heap.size rfl (.tmp 48) (.tmp 50) 23 52 (.agg #[(.slice none 0 0), (.slice none 0 0), (.int .u8 0), (.bool false), (.int .i64 0), (.int .i64 0), (.int .i64 0), (.slice none 0 0)]) 104 rfl Try.underlying23 info52 rfl (by decide) (by omega) u121002 x121002_1 (⟨([] : List Int), ([] : List Int), 1, false, 0, 0, 0, y126⟩ : S52) [.slice none 0 0, .slice none 0 0, .int .u8 1, .bool false, .int .i64 0, .int .i64 0, .int .i64 0, .slice Ao33 y126.length co33] (fun k_ => k_ ≠ gb121) (fun k_ => some k_ = (.slice Ao33 y126.length co33 : Value).ownBlock) rfl rfl ?aP (fun k_ hk_ => ((Kd.R_mono (ok' := fun k_ => ((fun k_ => k_ ≠ gb121)) k_ ∧ some k_ ≠ (u121002 : Value).ownBlock) (Kd.R_types (Kd.R_apart' (HO128.out) (Kd.S_typed HO_121002.out) (by decide)) BK121.out (by decide)) (fun k_ hk => ⟨hk.2, hk.1.2⟩))).1 k_ hk_.symm) ?aF ?aO ?aB ?aS ?aL ?_; (case aP => exact k52_mkM _ _ _ (⟨([] : List Int), ([] : List Int), 1, false, 0, 0, 0, y126⟩ : S52) (Kd.R_nil _ _ _ _ _) (Kd.R_nil _ _ _ _ _) (Kd.R_mono (Kd.R_tight rfl (Kd.R_mono (ok' := fun k_ => ((fun k_ => k_ ≠ gb121)) k_ ∧ some k_ ≠ (u121002 : Value).ownBlock) (Kd.R_types (Kd.R_apart' (HO128.out) (Kd.S_typed HO_121002.out) (by decide)) BK121.out (by decide)) (fun k_ hk => ⟨hk.2, hk.1.2⟩))) (fun _ h_ => h_))); (case aB => exact (au6)); (case aF => exact (fun k_ hk => Kd.freshB (g := gb121) (o := .cells #[.slice none 0 0, .slice none 0 0, .int .u8 1, .bool false, .int .i64 0, .int .i64 0, .int .i64 0, .slice Ao33 y126.length co33] 52 (0, 0)) (au43) k_ hk)); (case aO => exact (by (with_reducible repeat (first | apply Kd.S_alloc | apply Kd.S_drewN | apply Kd.S_drew)); exact Kd.S_mono HO_121002.out (fun k_ hk => ⟨hk.2, fun e_ => hk.1 e_⟩))); (case aS => exact (below_size (au6))); (case aL => have := LMc28.out; omega); intro v130 w39 ho hb hg hat; rw [← Ny129.out] at ho; have n0_ := Aside0.mk (blk_grown (g := gb119) (o := .cells #[.slice none 0 0, .slice none 0 0, .slice none 0 0, .int .i64 0] 25 (0, 0)) (au29) hg (Kd.S_ne HO_121002.out BK119.out (by decide))); have n1_ := Aside0.mk (blk_grown (g := gb120) (o := .cells #[.slice none 0 0, .slice none 0 0, u121002, .int .i64 (-1)] 25 (0, 0)) (au37) hg (Kd.S_ne HO_121002.out BK120.out (by decide))); have n2_ := Aside0.mk (blk_grown (g := gb121) (o := .cells #[.slice none 0 0, .slice none 0 0, .int .u8 1, .bool false, .int .i64 0, .int .i64 0, .int .i64 0, .slice Ao33 y126.length co33] 52 (0, 0)) (au43) hg (Kd.S_away HO_121002.out (fun _ hk => hk.2))); have n3_ := Aside0.mk (hb); have n4_ := Aside0.mk (ho); clear BK119; clear BK120; clear BK121; clear HB; clear HO_121002; clear HO128; have BK119 := n0_; have BK120 := n1_; have BK121 := n2_; have HB := n3_; have HO131 := n4_; clear n0_ n1_ n2_ n3_ n4_; clear ho hb hg hat; obtain ⟨Ao40, co40, eo40⟩ := Kd.S_slice HO131.out; subst eo40; obtain ⟨hcz41_0, hcz41_1, hcz41_2, hcz41_3, hfz41_0, hfz41_1, hfz41_2, hfz41_3⟩ := blk_all4 BK120.out))
           go_roundg kj11
           case measure => have := HK1.out; have := HK2.out; have := HJ11.out; omega
           case rel => exact ⟨(wrap64 (x6_1 + 1)), (y129), (.slice Ao40 y129.length co40), (au25), H', ⟨by have := HK1.out; have := HK2.out; have := HJ11.out; omega⟩, ⟨by (with_reducible repeat (first | apply Kd.S_alloc | apply Kd.S_drewN | apply Kd.S_drew)); first | exact Kd.S_mono (Kd.S_far (p := ⟨gb120, 2, none⟩) (Kd.S_types HO131.out BK120.out (by decide)) (fun _ hk => hk.2) (.slice Ao40 y129.length co40)) (fun _ hk => trivial) | exact Kd.S_mono (Kd.S_mono (Kd.S_far (p := ⟨gb120, 2, none⟩) (Kd.S_types HO131.out BK120.out (by decide)) (fun _ hk => hk.2) (.slice Ao40 y129.length co40)) (fun _ hk => trivial)) (fun _ h_ => h_.2)⟩, ⟨by (with_reducible repeat (first | refine blk_drewN ?_ _ | refine blk_drew ?_ | refine blk_alloc ?_ _)); refine blk_far ?_ NB119_120.out _; (with_reducible repeat (first | refine blk_drewN ?_ _ | refine blk_drew ?_ | refine blk_alloc ?_ _)); exact BK119.out⟩, ⟨by (with_reducible repeat (first | refine blk_drewN ?_ _ | refine blk_drew ?_ | refine blk_alloc ?_ _)); refine blk_put (cs := #[.slice none 0 0, .slice none 0 0, u121002, .int .i64 (-1)]) ?_ 2 _ rfl; (with_reducible repeat (first | refine blk_drewN ?_ _ | refine blk_drew ?_ | refine blk_alloc ?_ _)); exact BK120.out⟩, ⟨au6⟩⟩
          ·
           rw [if_neg c28] at H
           exact absurd H (by simp)
         ·
          rw [if_neg c27] at H
          exact absurd H (by simp)
   ·
    rw [if_neg c7] at H
    have c7b0 : decide (x6_1 < a0) = false := decide_eq_false c7
    clear c7
    simp only [Option.some.injEq, Prod.mk.injEq] at H
    obtain ⟨rfl, rfl, rfl, rfl⟩ := H
    have hnb42 := NB120_119.out
    have hnc42 := NB119_120.out
    obtain ⟨hcz43_0, hcz43_1, hcz43_2, hcz43_3, hfz43_0, hfz43_1, hfz43_2, hfz43_3⟩ := blk_all4 BK120.out
    obtain ⟨hcz44_0, hcz44_1, hcz44_2, hcz44_3, hfz44_0, hfz44_1, hfz44_2, hfz44_3⟩ := blk_all4 BK119.out
    obtain ⟨Ao45, co45, eo45⟩ := Kd.S_slice HO_121002.out
    subst eo45
    go_wp2
    refine bodyPost_ret (results_cell_row rfl _ _ gb119 25 #[.slice none 0 0, .slice none 0 0, .slice Ao45 x121002_1.length co45, .int .i64 (-1)] (0, 0) _ rfl (by (with_reducible repeat (first | refine blk_drewN ?_ _ | refine blk_drew ?_ | refine blk_alloc ?_ _)); refine blk_put (cs := #[.slice none 0 0, .slice none 0 0, .slice Ao45 x121002_1.length co45, .int .i64 0]) ?_ 3 _ rfl; (with_reducible repeat (first | refine blk_drewN ?_ _ | refine blk_drew ?_ | refine blk_alloc ?_ _)); refine blk_put (cs := #[.slice none 0 0, .slice none 0 0, .slice none 0 0, .int .i64 0]) ?_ 2 _ rfl; (with_reducible repeat (first | refine blk_drewN ?_ _ | refine blk_drew ?_ | refine blk_alloc ?_ _)); refine blk_put (cs := #[.slice none 0 0, .slice none 0 0, .slice none 0 0, .int .i64 0]) ?_ 1 _ rfl; (with_reducible repeat (first | refine blk_drewN ?_ _ | refine blk_drew ?_ | refine blk_alloc ?_ _)); refine blk_put (cs := #[.slice none 0 0, .slice none 0 0, .slice none 0 0, .int .i64 0]) ?_ 0 _ rfl; (with_reducible repeat (first | refine blk_drewN ?_ _ | refine blk_drew ?_ | refine blk_alloc ?_ _)); exact BK119.out) Try.underlying25 rfl (by kernel_rfl)) rfl ?_
    exact ⟨_, _, _, au30, au66, au66, by (with_reducible repeat (first | apply Kd.S_alloc | apply Kd.S_drewN | apply Kd.S_drew)); first | exact Kd.S_mono (Kd.S_far (p := ⟨gb119, 3, none⟩) (Kd.S_far (p := ⟨gb119, 2, none⟩) (Kd.S_far (p := ⟨gb119, 1, none⟩) (Kd.S_far (p := ⟨gb119, 0, none⟩) (Kd.S_types HO_121002.out BK119.out (by decide)) (fun _ hk => hk.2) (.slice none 0 0)) (fun _ hk => hk.2) (.slice none 0 0)) (fun _ hk => hk.2) (.slice Ao45 x121002_1.length co45)) (fun _ hk => hk.2) (.int .i64 (-1))) (fun _ hk => trivial) | exact Kd.S_mono (Kd.S_mono (Kd.S_far (p := ⟨gb119, 3, none⟩) (Kd.S_far (p := ⟨gb119, 2, none⟩) (Kd.S_far (p := ⟨gb119, 1, none⟩) (Kd.S_far (p := ⟨gb119, 0, none⟩) (Kd.S_types HO_121002.out BK119.out (by decide)) (fun _ hk => hk.2) (.slice none 0 0)) (fun _ hk => hk.2) (.slice none 0 0)) (fun _ hk => hk.2) (.slice Ao45 x121002_1.length co45)) (fun _ hk => hk.2) (.int .i64 (-1))) (fun _ hk => trivial)) (fun _ h_ => h_.2), au32⟩

/-! ### capstanlaw11_are: function 38 -/
def capstanlaw11_are.l0 : Nat → List Int → List Int → Int → Option (Bool)
 | 0, _, _, _ => none
 | k + 1, x0, x1, x5 => if x5 < (x0.length : Int) then (if 0 ≤ x5 then (if x5 < (x1.length : Int) then (if (rd x0 x5) = (rd x1 x5) then (capstanlaw11_are.l0 k x0 x1 (wrap64 (x5 + 1))) else (some false)) else (none)) else (none)) else (some true)
def capstanlaw11_are.f (k : Nat) (l0 : List Int) (l1 : List Int) : Option (Bool) := if (l0.length : Int) = (l1.length : Int) then (capstanlaw11_are.l0 k l0 l1 0) else (some false)
theorem capstanlaw11_are.mono_l : ∀ k, (∀ y0 y1 y2, LeO (capstanlaw11_are.l0 k y0 y1 y2) (capstanlaw11_are.l0 (k + 1) y0 y1 y2))
 | 0 => fun _ _ _ r h => by simp [capstanlaw11_are.l0] at h
 | k + 1 => by
  have ih0 := capstanlaw11_are.mono_l k
  ·
   intro y0 y1 y2
   unfold capstanlaw11_are.l0
   repeat' first
   | (with_reducible exact ih0 _ _ _)
   | (with_reducible exact LeO.refl _)
   | (with_reducible exact LeO.none _)
   | (with_reducible refine LeO.ite ?_ ?_)
   | (with_reducible refine LeO.bind ?_ (fun _ => ?_))
   | exact ih0 _ _ _
   | exact LeO.none _
   | refine LeO.ite ?_ ?_
   | refine LeO.bind ?_ (fun _ => ?_)
theorem capstanlaw11_are.mono : ∀ a0 a1 k, LeO (capstanlaw11_are.f k a0 a1) (capstanlaw11_are.f (k + 1) a0 a1) := by
 intro a0 a1 k
 have ih0 := capstanlaw11_are.mono_l k
 unfold capstanlaw11_are.f
 repeat' first
   | (with_reducible exact ih0 _ _ _)
   | (with_reducible exact LeO.refl _)
   | (with_reducible exact LeO.none _)
   | (with_reducible refine LeO.ite ?_ ?_)
   | (with_reducible refine LeO.bind ?_ (fun _ => ?_))
   | exact ih0 _ _ _
   | exact LeO.none _
   | refine LeO.ite ?_ ?_
   | refine LeO.bind ?_ (fun _ => ?_)
set_option maxHeartbeats 8000000 in
set_option maxRecDepth 100000 in
theorem capstanlaw11_are.calls (k : Nat) (A0 : Option Addr) (c0 : Nat) (l0 : List Int) (A1 : Option Addr) (c1 : Nat) (l1 : List Int) (r : Bool) (w : World) (hr0 : Kd.C (Kd.int .i64) w A0 l0.length l0) (hc0 : l0.length ≤ c0) (hr1 : Kd.C (Kd.int .i64) w A1 l1.length l1) (hc1 : l1.length ≤ c1) (h : capstanlaw11_are.f k l0 l1 = some r) :
  Calls Try.prog 38 #[.slice A0 l0.length c0, .slice A1 l1.length c1] w fun e w' => e = .returned (.bool r) ∧ Drawn0 w w' := by
 have HR0 := Aside0.mk hr0
 have HC0 := Aside0.mk hc0
 clear hr0 hc0
 have HR1 := Aside0.mk hr1
 have HC1 := Aside0.mk hc1
 clear hr1 hc1
 have H : (if (l0.length : Int) = (l1.length : Int) then (capstanlaw11_are.l0 k l0 l1 0) else (some false)) = some r := h
 clear h
 by_cases c3 : (l0.length : Int) = (l1.length : Int)
 ·
  rw [if_pos c3] at H
  have c3b0 : ((l0.length : Int) == (l1.length : Int)) = true := beq_iff_eq.mpr c3
  have c3b1 : ((l0.length : Int) != (l1.length : Int)) = false := bne_eq_false_iff_eq.mpr c3
  have c3b2 : (l0.length == l1.length) = true := by first | simpa using c3 | (simp at c3 ⊢; omega)
  clear c3
  have H' := Aside0.mk H
  clear H
  go_enter Try.func38, Try.ntmps38
  go_wp2
  repeat (go_quiet (fail); try go_wp2)
  go_loopg [5] k (fun kq v5 w' => ∃ (x5_1 : Int), v5 = .int .i64 x5_1 ∧ Aside0 (capstanlaw11_are.l0 kq l0 l1 x5_1 = some r) ∧ Aside0 (kq ≤ k) ∧ Drawn0 w w')
  case atStart => exact ⟨(0), (au25), H', ⟨Nat.le_refl _⟩, by repeat (first | exact Drawn0.refl _ | apply Drawn0.step)⟩
  case round =>
   clear H'
   try clear c1
   try clear p2
   try clear c3
   try clear c3b0
   try clear c3b1
   try clear c3b2
   obtain ⟨x5_1, rfl, HA, HK1, ⟨m1, rfl⟩⟩ := hrel
   cases gk with
   | zero => exact absurd HA.out (by simp [capstanlaw11_are.l0])
   | succ k1 =>
    have H := HA.out
    clear HA
    simp only [capstanlaw11_are.l0] at H
    by_cases c4 : x5_1 < (l0.length : Int)
    ·
     rw [if_pos c4] at H
     have c4b0 : decide (x5_1 < (l0.length : Int)) = true := decide_eq_true c4
     clear c4
     by_cases c5 : 0 ≤ x5_1
     ·
      rw [if_pos c5] at H
      have c5b0 : decide (0 ≤ x5_1) = true := decide_eq_true c5
      clear c5
      by_cases c6 : x5_1 < (l1.length : Int)
      ·
       rw [if_pos c6] at H
       have c6b0 : decide (x5_1 < (l1.length : Int)) = true := decide_eq_true c6
       clear c6
       by_cases c7 : (rd l0 x5_1) = (rd l1 x5_1)
       ·
        rw [if_pos c7] at H
        have c7b0 : ((rd l0 x5_1) == (rd l1 x5_1)) = true := beq_iff_eq.mpr c7
        have c7b1 : ((rd l0 x5_1) != (rd l1 x5_1)) = false := bne_eq_false_iff_eq.mpr c7
        clear c7
        have H' := Aside0.mk H
        clear H
        have p132 : 0 ≤ (x5_1 : Int) := of_decide_eq_true (au4)
        have q132 : x5_1 < (l0.length : Int) := of_decide_eq_true (au4)
        obtain ⟨ad132, e132, hx132_0⟩ := Kd.at_int HR0.out x5_1 p132 q132
        cases e132
        replace p132 := eq_true p132
        replace q132 := eq_true q132
        have p133 : 0 ≤ (x5_1 : Int) := of_decide_eq_true (au4)
        have q133 : x5_1 < (l1.length : Int) := of_decide_eq_true (au4)
        obtain ⟨ad133, e133, hx133_0⟩ := Kd.at_int HR1.out x5_1 p133 q133
        cases e133
        replace p133 := eq_true p133
        replace q133 := eq_true q133
        go_wp2
        repeat (go_quiet (fail); try go_wp2)
        go_roundg k1
        case measure => have := HK1.out; omega
        case rel => exact ⟨(wrap64 (x5_1 + 1)), (au25), H', ⟨by have := HK1.out; omega⟩, by repeat (first | exact Drawn0.refl _ | apply Drawn0.step)⟩
       ·
        rw [if_neg c7] at H
        have c7b0 : ((rd l0 x5_1) == (rd l1 x5_1)) = false := beq_eq_false_iff_ne.mpr c7
        have c7b1 : ((rd l0 x5_1) != (rd l1 x5_1)) = true := bne_iff_ne.mpr c7
        obtain rfl := Option.some.inj H
        have p132 : 0 ≤ (x5_1 : Int) := of_decide_eq_true (au4)
        have q132 : x5_1 < (l0.length : Int) := of_decide_eq_true (au4)
        obtain ⟨ad132, e132, hx132_0⟩ := Kd.at_int HR0.out x5_1 p132 q132
        cases e132
        replace p132 := eq_true p132
        replace q132 := eq_true q132
        have p133 : 0 ≤ (x5_1 : Int) := of_decide_eq_true (au4)
        have q133 : x5_1 < (l1.length : Int) := of_decide_eq_true (au4)
        obtain ⟨ad133, e133, hx133_0⟩ := Kd.at_int HR1.out x5_1 p133 q133
        cases e133
        replace p133 := eq_true p133
        replace q133 := eq_true q133
        go_wp2
        repeat (go_quiet (fail); try go_wp2)
        go_ret
        exact ⟨au25, by repeat (first | exact Drawn0.refl _ | apply Drawn0.step)⟩
      ·
       rw [if_neg c6] at H
       exact absurd H (by simp)
     ·
      rw [if_neg c5] at H
      exact absurd H (by simp)
    ·
     rw [if_neg c4] at H
     have c4b0 : decide (x5_1 < (l0.length : Int)) = false := decide_eq_false c4
     clear c4
     obtain rfl := Option.some.inj H
     go_wp2
     repeat (go_quiet (fail); try go_wp2)
     go_ret
     exact ⟨au25, by repeat (first | exact Drawn0.refl _ | apply Drawn0.step)⟩
 ·
  rw [if_neg c3] at H
  have c3b0 : ((l0.length : Int) == (l1.length : Int)) = false := beq_eq_false_iff_ne.mpr c3
  have c3b1 : ((l0.length : Int) != (l1.length : Int)) = true := bne_iff_ne.mpr c3
  have c3b2 : (l0.length == l1.length) = false := by first | simpa using c3 | (simp at c3 ⊢; omega)
  obtain rfl := Option.some.inj H
  go_enter Try.func38, Try.ntmps38
  go_wp2
  repeat (go_quiet (fail); try go_wp2)
  go_ret
  exact ⟨au25, by repeat (first | exact Drawn0.refl _ | apply Drawn0.step)⟩

/-! ### capstanlaw11_awake: function 36 -/
def capstanlaw11_awake.f (k : Nat)  : Option (Bool) := (capstanlaw11_made.f k 3 (([6, 4, 0] : List Int))).bind fun bt137 => ((calls_Whom.f bt137.1 bt137.2.1 bt137.2.2.1 bt137.2.2.2 0).bind fun bt148 => ((calls_Order.f k bt137.1 bt137.2.1 bt137.2.2.1 bt137.2.2.2).bind fun bt152 => ((calls_Leads.f k bt137.1 bt137.2.1 bt137.2.2.1 bt137.2.2.2 0).bind fun bt156 => ((calls_Deep.f k bt137.1 bt137.2.1 bt137.2.2.1 bt137.2.2.2).bind fun bt160 => ((capstanlaw11_are.f k bt148.1 (([1, 2] : List Int))).bind fun t167 => (if t167 = true then (if bt148.2 = 0 then ((capstanlaw11_are.f k bt152.1 (([2, 1, 0] : List Int))).bind fun t171 => (if t171 = true then (if bt152.2 = 0 then ((capstanlaw11_are.f k bt156.1 (([1, 2] : List Int))).bind fun t175 => (if t175 = true then (if bt156.2 = 0 then ((capstanlaw11_are.f k bt160.1 (([3, 2, 1] : List Int))).bind fun t179 => (if t179 = true then (if bt160.2 = 0 then ((capstanlaw11_made.f k 3 (([6, 4, 1] : List Int))).bind fun bt183 => ((calls_Check.f k bt183.1 bt183.2.1 bt183.2.2.1 bt183.2.2.2).bind fun t193 => (if t193 = 110 then ((capstanlaw11_made.f k 3 (([6, 4, 8] : List Int))).bind fun bt197 => ((calls_Check.f k bt197.1 bt197.2.1 bt197.2.2.1 bt197.2.2.2).bind fun t207 => (some (t207 == 2)))) else (none)))) else (none)) else (none))) else (none)) else (none))) else (none)) else (none))) else (none)) else (none)))))))
theorem capstanlaw11_awake.mono : ∀ k, LeO (capstanlaw11_awake.f k ) (capstanlaw11_awake.f (k + 1) ) := by
 intro  k
 unfold capstanlaw11_awake.f
 repeat' first
   | (with_reducible exact calls_Check.mono _ _ _ _ _)
   | (with_reducible exact calls_Deep.mono _ _ _ _ _)
   | (with_reducible exact calls_Leads.mono _ _ _ _ _ _)
   | (with_reducible exact calls_Order.mono _ _ _ _ _)
   | (with_reducible exact capstanlaw11_are.mono _ _ _)
   | (with_reducible exact capstanlaw11_made.mono _ _ _)
   | (with_reducible exact LeO.refl _)
   | (with_reducible exact LeO.none _)
   | (with_reducible refine LeO.ite ?_ ?_)
   | (with_reducible refine LeO.bind ?_ (fun _ => ?_))
   | exact calls_Check.mono _ _ _ _ _
   | exact calls_Deep.mono _ _ _ _ _
   | exact calls_Leads.mono _ _ _ _ _ _
   | exact calls_Order.mono _ _ _ _ _
   | exact capstanlaw11_are.mono _ _ _
   | exact capstanlaw11_made.mono _ _ _
   | exact LeO.none _
   | refine LeO.ite ?_ ?_
   | refine LeO.bind ?_ (fun _ => ?_)
set_option maxHeartbeats 8000000 in
set_option maxRecDepth 100000 in
theorem capstanlaw11_awake.calls (k : Nat)  (r : Bool) (w : World) (h : capstanlaw11_awake.f k  = some r) :
  Calls Try.prog 36 #[] w fun e w' => e = .returned (.bool r) ∧ Below w.heap.size w w' := by
 have hu25 := Try.underlying25
 have HB := Aside0.mk (Below.refl w.heap.size w)
 have H : ((capstanlaw11_made.f k 3 (([6, 4, 0] : List Int))).bind fun bt137 => ((calls_Whom.f bt137.1 bt137.2.1 bt137.2.2.1 bt137.2.2.2 0).bind fun bt148 => ((calls_Order.f k bt137.1 bt137.2.1 bt137.2.2.1 bt137.2.2.2).bind fun bt152 => ((calls_Leads.f k bt137.1 bt137.2.1 bt137.2.2.1 bt137.2.2.2 0).bind fun bt156 => ((calls_Deep.f k bt137.1 bt137.2.1 bt137.2.2.1 bt137.2.2.2).bind fun bt160 => ((capstanlaw11_are.f k bt148.1 (([1, 2] : List Int))).bind fun t167 => (if t167 = true then (if bt148.2 = 0 then ((capstanlaw11_are.f k bt152.1 (([2, 1, 0] : List Int))).bind fun t171 => (if t171 = true then (if bt152.2 = 0 then ((capstanlaw11_are.f k bt156.1 (([1, 2] : List Int))).bind fun t175 => (if t175 = true then (if bt156.2 = 0 then ((capstanlaw11_are.f k bt160.1 (([3, 2, 1] : List Int))).bind fun t179 => (if t179 = true then (if bt160.2 = 0 then ((capstanlaw11_made.f k 3 (([6, 4, 1] : List Int))).bind fun bt183 => ((calls_Check.f k bt183.1 bt183.2.1 bt183.2.2.1 bt183.2.2.2).bind fun t193 => (if t193 = 110 then ((capstanlaw11_made.f k 3 (([6, 4, 8] : List Int))).bind fun bt197 => ((calls_Check.f k bt197.1 bt197.2.1 bt197.2.2.1 bt197.2.2.2).bind fun t207 => (some (t207 == 2)))) else (none)))) else (none)) else (none))) else (none)) else (none))) else (none)) else (none))) else (none)) else (none)))))))) = some r := h
 clear h
 obtain ⟨y134, hy134⟩ : ∃ y_ : List Int, y_ = (([6, 4, 0] : List Int)) := ⟨_, rfl⟩
 replace H : ((capstanlaw11_made.f k 3 y134).bind fun bt137 => ((calls_Whom.f bt137.1 bt137.2.1 bt137.2.2.1 bt137.2.2.2 0).bind fun bt148 => ((calls_Order.f k bt137.1 bt137.2.1 bt137.2.2.1 bt137.2.2.2).bind fun bt152 => ((calls_Leads.f k bt137.1 bt137.2.1 bt137.2.2.1 bt137.2.2.2 0).bind fun bt156 => ((calls_Deep.f k bt137.1 bt137.2.1 bt137.2.2.1 bt137.2.2.2).bind fun bt160 => ((capstanlaw11_are.f k bt148.1 (([1, 2] : List Int))).bind fun t167 => (if t167 = true then (if bt148.2 = 0 then ((capstanlaw11_are.f k bt152.1 (([2, 1, 0] : List Int))).bind fun t171 => (if t171 = true then (if bt152.2 = 0 then ((capstanlaw11_are.f k bt156.1 (([1, 2] : List Int))).bind fun t175 => (if t175 = true then (if bt156.2 = 0 then ((capstanlaw11_are.f k bt160.1 (([3, 2, 1] : List Int))).bind fun t179 => (if t179 = true then (if bt160.2 = 0 then ((capstanlaw11_made.f k 3 (([6, 4, 1] : List Int))).bind fun bt183 => ((calls_Check.f k bt183.1 bt183.2.1 bt183.2.2.1 bt183.2.2.2).bind fun t193 => (if t193 = 110 then ((capstanlaw11_made.f k 3 (([6, 4, 8] : List Int))).bind fun bt197 => ((calls_Check.f k bt197.1 bt197.2.1 bt197.2.2.1 bt197.2.2.2).bind fun t207 => (some (t207 == 2)))) else (none)))) else (none)) else (none))) else (none)) else (none))) else (none)) else (none))) else (none)) else (none)))))))) = some r := by first | (rw [hy134]; with_reducible exact H) | (have H2_ := (Option.bind_some _ _).symm.trans H; rw [hy134]; with_reducible exact H2_) | (have H2_ := (Option.bind_some _ _).symm.trans H; with_reducible exact H2_) | with_reducible exact H | (rw [hy134]; exact H) | exact H
 have Ny134 := Aside0.mk hy134
 clear hy134
 replace H := Option.bind_eq_some_iff.mp H
 obtain ⟨⟨t137, t140, t143, t146⟩, A10, H⟩ := H
 replace H : ((calls_Whom.f t137 t140 t143 t146 0).bind fun bt148 => ((calls_Order.f k t137 t140 t143 t146).bind fun bt152 => ((calls_Leads.f k t137 t140 t143 t146 0).bind fun bt156 => ((calls_Deep.f k t137 t140 t143 t146).bind fun bt160 => ((capstanlaw11_are.f k bt148.1 (([1, 2] : List Int))).bind fun t167 => (if t167 = true then (if bt148.2 = 0 then ((capstanlaw11_are.f k bt152.1 (([2, 1, 0] : List Int))).bind fun t171 => (if t171 = true then (if bt152.2 = 0 then ((capstanlaw11_are.f k bt156.1 (([1, 2] : List Int))).bind fun t175 => (if t175 = true then (if bt156.2 = 0 then ((capstanlaw11_are.f k bt160.1 (([3, 2, 1] : List Int))).bind fun t179 => (if t179 = true then (if bt160.2 = 0 then ((capstanlaw11_made.f k 3 (([6, 4, 1] : List Int))).bind fun bt183 => ((calls_Check.f k bt183.1 bt183.2.1 bt183.2.2.1 bt183.2.2.2).bind fun t193 => (if t193 = 110 then ((capstanlaw11_made.f k 3 (([6, 4, 8] : List Int))).bind fun bt197 => ((calls_Check.f k bt197.1 bt197.2.1 bt197.2.2.1 bt197.2.2.2).bind fun t207 => (some (t207 == 2)))) else (none)))) else (none)) else (none))) else (none)) else (none))) else (none)) else (none))) else (none)) else (none))))))) = some r := H
 have A1 := Aside0.mk A10
 clear A10
 replace H := Option.bind_eq_some_iff.mp H
 obtain ⟨⟨t148, t151⟩, A20, H⟩ := H
 replace H : ((calls_Order.f k t137 t140 t143 t146).bind fun bt152 => ((calls_Leads.f k t137 t140 t143 t146 0).bind fun bt156 => ((calls_Deep.f k t137 t140 t143 t146).bind fun bt160 => ((capstanlaw11_are.f k t148 (([1, 2] : List Int))).bind fun t167 => (if t167 = true then (if t151 = 0 then ((capstanlaw11_are.f k bt152.1 (([2, 1, 0] : List Int))).bind fun t171 => (if t171 = true then (if bt152.2 = 0 then ((capstanlaw11_are.f k bt156.1 (([1, 2] : List Int))).bind fun t175 => (if t175 = true then (if bt156.2 = 0 then ((capstanlaw11_are.f k bt160.1 (([3, 2, 1] : List Int))).bind fun t179 => (if t179 = true then (if bt160.2 = 0 then ((capstanlaw11_made.f k 3 (([6, 4, 1] : List Int))).bind fun bt183 => ((calls_Check.f k bt183.1 bt183.2.1 bt183.2.2.1 bt183.2.2.2).bind fun t193 => (if t193 = 110 then ((capstanlaw11_made.f k 3 (([6, 4, 8] : List Int))).bind fun bt197 => ((calls_Check.f k bt197.1 bt197.2.1 bt197.2.2.1 bt197.2.2.2).bind fun t207 => (some (t207 == 2)))) else (none)))) else (none)) else (none))) else (none)) else (none))) else (none)) else (none))) else (none)) else (none)))))) = some r := H
 have A2 := Aside0.mk A20
 clear A20
 replace H := Option.bind_eq_some_iff.mp H
 obtain ⟨⟨t152, t155⟩, A30, H⟩ := H
 replace H : ((calls_Leads.f k t137 t140 t143 t146 0).bind fun bt156 => ((calls_Deep.f k t137 t140 t143 t146).bind fun bt160 => ((capstanlaw11_are.f k t148 (([1, 2] : List Int))).bind fun t167 => (if t167 = true then (if t151 = 0 then ((capstanlaw11_are.f k t152 (([2, 1, 0] : List Int))).bind fun t171 => (if t171 = true then (if t155 = 0 then ((capstanlaw11_are.f k bt156.1 (([1, 2] : List Int))).bind fun t175 => (if t175 = true then (if bt156.2 = 0 then ((capstanlaw11_are.f k bt160.1 (([3, 2, 1] : List Int))).bind fun t179 => (if t179 = true then (if bt160.2 = 0 then ((capstanlaw11_made.f k 3 (([6, 4, 1] : List Int))).bind fun bt183 => ((calls_Check.f k bt183.1 bt183.2.1 bt183.2.2.1 bt183.2.2.2).bind fun t193 => (if t193 = 110 then ((capstanlaw11_made.f k 3 (([6, 4, 8] : List Int))).bind fun bt197 => ((calls_Check.f k bt197.1 bt197.2.1 bt197.2.2.1 bt197.2.2.2).bind fun t207 => (some (t207 == 2)))) else (none)))) else (none)) else (none))) else (none)) else (none))) else (none)) else (none))) else (none)) else (none))))) = some r := H
 have A3 := Aside0.mk A30
 clear A30
 replace H := Option.bind_eq_some_iff.mp H
 obtain ⟨⟨t156, t159⟩, A40, H⟩ := H
 replace H : ((calls_Deep.f k t137 t140 t143 t146).bind fun bt160 => ((capstanlaw11_are.f k t148 (([1, 2] : List Int))).bind fun t167 => (if t167 = true then (if t151 = 0 then ((capstanlaw11_are.f k t152 (([2, 1, 0] : List Int))).bind fun t171 => (if t171 = true then (if t155 = 0 then ((capstanlaw11_are.f k t156 (([1, 2] : List Int))).bind fun t175 => (if t175 = true then (if t159 = 0 then ((capstanlaw11_are.f k bt160.1 (([3, 2, 1] : List Int))).bind fun t179 => (if t179 = true then (if bt160.2 = 0 then ((capstanlaw11_made.f k 3 (([6, 4, 1] : List Int))).bind fun bt183 => ((calls_Check.f k bt183.1 bt183.2.1 bt183.2.2.1 bt183.2.2.2).bind fun t193 => (if t193 = 110 then ((capstanlaw11_made.f k 3 (([6, 4, 8] : List Int))).bind fun bt197 => ((calls_Check.f k bt197.1 bt197.2.1 bt197.2.2.1 bt197.2.2.2).bind fun t207 => (some (t207 == 2)))) else (none)))) else (none)) else (none))) else (none)) else (none))) else (none)) else (none))) else (none)) else (none)))) = some r := H
 have A4 := Aside0.mk A40
 clear A40
 replace H := Option.bind_eq_some_iff.mp H
 obtain ⟨⟨t160, t163⟩, A50, H⟩ := H
 replace H : ((capstanlaw11_are.f k t148 (([1, 2] : List Int))).bind fun t167 => (if t167 = true then (if t151 = 0 then ((capstanlaw11_are.f k t152 (([2, 1, 0] : List Int))).bind fun t171 => (if t171 = true then (if t155 = 0 then ((capstanlaw11_are.f k t156 (([1, 2] : List Int))).bind fun t175 => (if t175 = true then (if t159 = 0 then ((capstanlaw11_are.f k t160 (([3, 2, 1] : List Int))).bind fun t179 => (if t179 = true then (if t163 = 0 then ((capstanlaw11_made.f k 3 (([6, 4, 1] : List Int))).bind fun bt183 => ((calls_Check.f k bt183.1 bt183.2.1 bt183.2.2.1 bt183.2.2.2).bind fun t193 => (if t193 = 110 then ((capstanlaw11_made.f k 3 (([6, 4, 8] : List Int))).bind fun bt197 => ((calls_Check.f k bt197.1 bt197.2.1 bt197.2.2.1 bt197.2.2.2).bind fun t207 => (some (t207 == 2)))) else (none)))) else (none)) else (none))) else (none)) else (none))) else (none)) else (none))) else (none)) else (none))) = some r := H
 have A5 := Aside0.mk A50
 clear A50
 obtain ⟨y164, hy164⟩ : ∃ y_ : List Int, y_ = (([1, 2] : List Int)) := ⟨_, rfl⟩
 replace H : ((capstanlaw11_are.f k t148 y164).bind fun t167 => (if t167 = true then (if t151 = 0 then ((capstanlaw11_are.f k t152 (([2, 1, 0] : List Int))).bind fun t171 => (if t171 = true then (if t155 = 0 then ((capstanlaw11_are.f k t156 (([1, 2] : List Int))).bind fun t175 => (if t175 = true then (if t159 = 0 then ((capstanlaw11_are.f k t160 (([3, 2, 1] : List Int))).bind fun t179 => (if t179 = true then (if t163 = 0 then ((capstanlaw11_made.f k 3 (([6, 4, 1] : List Int))).bind fun bt183 => ((calls_Check.f k bt183.1 bt183.2.1 bt183.2.2.1 bt183.2.2.2).bind fun t193 => (if t193 = 110 then ((capstanlaw11_made.f k 3 (([6, 4, 8] : List Int))).bind fun bt197 => ((calls_Check.f k bt197.1 bt197.2.1 bt197.2.2.1 bt197.2.2.2).bind fun t207 => (some (t207 == 2)))) else (none)))) else (none)) else (none))) else (none)) else (none))) else (none)) else (none))) else (none)) else (none))) = some r := by first | (rw [hy164]; with_reducible exact H) | (have H2_ := (Option.bind_some _ _).symm.trans H; rw [hy164]; with_reducible exact H2_) | (have H2_ := (Option.bind_some _ _).symm.trans H; with_reducible exact H2_) | with_reducible exact H | (rw [hy164]; exact H) | exact H
 have Ny164 := Aside0.mk hy164
 clear hy164
 replace H := Option.bind_eq_some_iff.mp H
 obtain ⟨t167, A60, H⟩ := H
 replace H : (if t167 = true then (if t151 = 0 then ((capstanlaw11_are.f k t152 (([2, 1, 0] : List Int))).bind fun t171 => (if t171 = true then (if t155 = 0 then ((capstanlaw11_are.f k t156 (([1, 2] : List Int))).bind fun t175 => (if t175 = true then (if t159 = 0 then ((capstanlaw11_are.f k t160 (([3, 2, 1] : List Int))).bind fun t179 => (if t179 = true then (if t163 = 0 then ((capstanlaw11_made.f k 3 (([6, 4, 1] : List Int))).bind fun bt183 => ((calls_Check.f k bt183.1 bt183.2.1 bt183.2.2.1 bt183.2.2.2).bind fun t193 => (if t193 = 110 then ((capstanlaw11_made.f k 3 (([6, 4, 8] : List Int))).bind fun bt197 => ((calls_Check.f k bt197.1 bt197.2.1 bt197.2.2.1 bt197.2.2.2).bind fun t207 => (some (t207 == 2)))) else (none)))) else (none)) else (none))) else (none)) else (none))) else (none)) else (none))) else (none)) else (none)) = some r := H
 have A6 := Aside0.mk A60
 clear A60
 by_cases c7 : t167 = true
 ·
  subst c7
  have H1 : (if t151 = 0 then ((capstanlaw11_are.f k t152 (([2, 1, 0] : List Int))).bind fun t171 => (if t171 = true then (if t155 = 0 then ((capstanlaw11_are.f k t156 (([1, 2] : List Int))).bind fun t175 => (if t175 = true then (if t159 = 0 then ((capstanlaw11_are.f k t160 (([3, 2, 1] : List Int))).bind fun t179 => (if t179 = true then (if t163 = 0 then ((capstanlaw11_made.f k 3 (([6, 4, 1] : List Int))).bind fun bt183 => ((calls_Check.f k bt183.1 bt183.2.1 bt183.2.2.1 bt183.2.2.2).bind fun t193 => (if t193 = 110 then ((capstanlaw11_made.f k 3 (([6, 4, 8] : List Int))).bind fun bt197 => ((calls_Check.f k bt197.1 bt197.2.1 bt197.2.2.1 bt197.2.2.2).bind fun t207 => (some (t207 == 2)))) else (none)))) else (none)) else (none))) else (none)) else (none))) else (none)) else (none))) else (none)) = some r := by rw [if_pos rfl] at H; exact H
  clear H
  have H := H1
  clear H1
  by_cases c8 : t151 = 0
  ·
   rw [if_pos c8] at H
   have c8b0 : (t151 == 0) = true := beq_iff_eq.mpr c8
   have c8b1 : (t151 != 0) = false := bne_eq_false_iff_eq.mpr c8
   clear c8
   obtain ⟨y168, hy168⟩ : ∃ y_ : List Int, y_ = (([2, 1, 0] : List Int)) := ⟨_, rfl⟩
   replace H : ((capstanlaw11_are.f k t152 y168).bind fun t171 => (if t171 = true then (if t155 = 0 then ((capstanlaw11_are.f k t156 (([1, 2] : List Int))).bind fun t175 => (if t175 = true then (if t159 = 0 then ((capstanlaw11_are.f k t160 (([3, 2, 1] : List Int))).bind fun t179 => (if t179 = true then (if t163 = 0 then ((capstanlaw11_made.f k 3 (([6, 4, 1] : List Int))).bind fun bt183 => ((calls_Check.f k bt183.1 bt183.2.1 bt183.2.2.1 bt183.2.2.2).bind fun t193 => (if t193 = 110 then ((capstanlaw11_made.f k 3 (([6, 4, 8] : List Int))).bind fun bt197 => ((calls_Check.f k bt197.1 bt197.2.1 bt197.2.2.1 bt197.2.2.2).bind fun t207 => (some (t207 == 2)))) else (none)))) else (none)) else (none))) else (none)) else (none))) else (none)) else (none))) = some r := by first | (rw [hy168]; with_reducible exact H) | (have H2_ := (Option.bind_some _ _).symm.trans H; rw [hy168]; with_reducible exact H2_) | (have H2_ := (Option.bind_some _ _).symm.trans H; with_reducible exact H2_) | with_reducible exact H | (rw [hy168]; exact H) | exact H
   have Ny168 := Aside0.mk hy168
   clear hy168
   replace H := Option.bind_eq_some_iff.mp H
   obtain ⟨t171, A90, H⟩ := H
   replace H : (if t171 = true then (if t155 = 0 then ((capstanlaw11_are.f k t156 (([1, 2] : List Int))).bind fun t175 => (if t175 = true then (if t159 = 0 then ((capstanlaw11_are.f k t160 (([3, 2, 1] : List Int))).bind fun t179 => (if t179 = true then (if t163 = 0 then ((capstanlaw11_made.f k 3 (([6, 4, 1] : List Int))).bind fun bt183 => ((calls_Check.f k bt183.1 bt183.2.1 bt183.2.2.1 bt183.2.2.2).bind fun t193 => (if t193 = 110 then ((capstanlaw11_made.f k 3 (([6, 4, 8] : List Int))).bind fun bt197 => ((calls_Check.f k bt197.1 bt197.2.1 bt197.2.2.1 bt197.2.2.2).bind fun t207 => (some (t207 == 2)))) else (none)))) else (none)) else (none))) else (none)) else (none))) else (none)) else (none)) = some r := H
   have A9 := Aside0.mk A90
   clear A90
   by_cases c10 : t171 = true
   ·
    subst c10
    have H1 : (if t155 = 0 then ((capstanlaw11_are.f k t156 (([1, 2] : List Int))).bind fun t175 => (if t175 = true then (if t159 = 0 then ((capstanlaw11_are.f k t160 (([3, 2, 1] : List Int))).bind fun t179 => (if t179 = true then (if t163 = 0 then ((capstanlaw11_made.f k 3 (([6, 4, 1] : List Int))).bind fun bt183 => ((calls_Check.f k bt183.1 bt183.2.1 bt183.2.2.1 bt183.2.2.2).bind fun t193 => (if t193 = 110 then ((capstanlaw11_made.f k 3 (([6, 4, 8] : List Int))).bind fun bt197 => ((calls_Check.f k bt197.1 bt197.2.1 bt197.2.2.1 bt197.2.2.2).bind fun t207 => (some (t207 == 2)))) else (none)))) else (none)) else (none))) else (none)) else (none))) else (none)) = some r := by rw [if_pos rfl] at H; exact H
    clear H
    have H := H1
    clear H1
    by_cases c11 : t155 = 0
    ·
     rw [if_pos c11] at H
     have c11b0 : (t155 == 0) = true := beq_iff_eq.mpr c11
     have c11b1 : (t155 != 0) = false := bne_eq_false_iff_eq.mpr c11
     clear c11
     obtain ⟨y172, hy172⟩ : ∃ y_ : List Int, y_ = (([1, 2] : List Int)) := ⟨_, rfl⟩
     replace H : ((capstanlaw11_are.f k t156 y172).bind fun t175 => (if t175 = true then (if t159 = 0 then ((capstanlaw11_are.f k t160 (([3, 2, 1] : List Int))).bind fun t179 => (if t179 = true then (if t163 = 0 then ((capstanlaw11_made.f k 3 (([6, 4, 1] : List Int))).bind fun bt183 => ((calls_Check.f k bt183.1 bt183.2.1 bt183.2.2.1 bt183.2.2.2).bind fun t193 => (if t193 = 110 then ((capstanlaw11_made.f k 3 (([6, 4, 8] : List Int))).bind fun bt197 => ((calls_Check.f k bt197.1 bt197.2.1 bt197.2.2.1 bt197.2.2.2).bind fun t207 => (some (t207 == 2)))) else (none)))) else (none)) else (none))) else (none)) else (none))) = some r := by first | (rw [hy172]; with_reducible exact H) | (have H2_ := (Option.bind_some _ _).symm.trans H; rw [hy172]; with_reducible exact H2_) | (have H2_ := (Option.bind_some _ _).symm.trans H; with_reducible exact H2_) | with_reducible exact H | (rw [hy172]; exact H) | exact H
     have Ny172 := Aside0.mk hy172
     clear hy172
     replace H := Option.bind_eq_some_iff.mp H
     obtain ⟨t175, A120, H⟩ := H
     replace H : (if t175 = true then (if t159 = 0 then ((capstanlaw11_are.f k t160 (([3, 2, 1] : List Int))).bind fun t179 => (if t179 = true then (if t163 = 0 then ((capstanlaw11_made.f k 3 (([6, 4, 1] : List Int))).bind fun bt183 => ((calls_Check.f k bt183.1 bt183.2.1 bt183.2.2.1 bt183.2.2.2).bind fun t193 => (if t193 = 110 then ((capstanlaw11_made.f k 3 (([6, 4, 8] : List Int))).bind fun bt197 => ((calls_Check.f k bt197.1 bt197.2.1 bt197.2.2.1 bt197.2.2.2).bind fun t207 => (some (t207 == 2)))) else (none)))) else (none)) else (none))) else (none)) else (none)) = some r := H
     have A12 := Aside0.mk A120
     clear A120
     by_cases c13 : t175 = true
     ·
      subst c13
      have H1 : (if t159 = 0 then ((capstanlaw11_are.f k t160 (([3, 2, 1] : List Int))).bind fun t179 => (if t179 = true then (if t163 = 0 then ((capstanlaw11_made.f k 3 (([6, 4, 1] : List Int))).bind fun bt183 => ((calls_Check.f k bt183.1 bt183.2.1 bt183.2.2.1 bt183.2.2.2).bind fun t193 => (if t193 = 110 then ((capstanlaw11_made.f k 3 (([6, 4, 8] : List Int))).bind fun bt197 => ((calls_Check.f k bt197.1 bt197.2.1 bt197.2.2.1 bt197.2.2.2).bind fun t207 => (some (t207 == 2)))) else (none)))) else (none)) else (none))) else (none)) = some r := by rw [if_pos rfl] at H; exact H
      clear H
      have H := H1
      clear H1
      by_cases c14 : t159 = 0
      ·
       rw [if_pos c14] at H
       have c14b0 : (t159 == 0) = true := beq_iff_eq.mpr c14
       have c14b1 : (t159 != 0) = false := bne_eq_false_iff_eq.mpr c14
       clear c14
       obtain ⟨y176, hy176⟩ : ∃ y_ : List Int, y_ = (([3, 2, 1] : List Int)) := ⟨_, rfl⟩
       replace H : ((capstanlaw11_are.f k t160 y176).bind fun t179 => (if t179 = true then (if t163 = 0 then ((capstanlaw11_made.f k 3 (([6, 4, 1] : List Int))).bind fun bt183 => ((calls_Check.f k bt183.1 bt183.2.1 bt183.2.2.1 bt183.2.2.2).bind fun t193 => (if t193 = 110 then ((capstanlaw11_made.f k 3 (([6, 4, 8] : List Int))).bind fun bt197 => ((calls_Check.f k bt197.1 bt197.2.1 bt197.2.2.1 bt197.2.2.2).bind fun t207 => (some (t207 == 2)))) else (none)))) else (none)) else (none))) = some r := by first | (rw [hy176]; with_reducible exact H) | (have H2_ := (Option.bind_some _ _).symm.trans H; rw [hy176]; with_reducible exact H2_) | (have H2_ := (Option.bind_some _ _).symm.trans H; with_reducible exact H2_) | with_reducible exact H | (rw [hy176]; exact H) | exact H
       have Ny176 := Aside0.mk hy176
       clear hy176
       replace H := Option.bind_eq_some_iff.mp H
       obtain ⟨t179, A150, H⟩ := H
       replace H : (if t179 = true then (if t163 = 0 then ((capstanlaw11_made.f k 3 (([6, 4, 1] : List Int))).bind fun bt183 => ((calls_Check.f k bt183.1 bt183.2.1 bt183.2.2.1 bt183.2.2.2).bind fun t193 => (if t193 = 110 then ((capstanlaw11_made.f k 3 (([6, 4, 8] : List Int))).bind fun bt197 => ((calls_Check.f k bt197.1 bt197.2.1 bt197.2.2.1 bt197.2.2.2).bind fun t207 => (some (t207 == 2)))) else (none)))) else (none)) else (none)) = some r := H
       have A15 := Aside0.mk A150
       clear A150
       by_cases c16 : t179 = true
       ·
        subst c16
        have H1 : (if t163 = 0 then ((capstanlaw11_made.f k 3 (([6, 4, 1] : List Int))).bind fun bt183 => ((calls_Check.f k bt183.1 bt183.2.1 bt183.2.2.1 bt183.2.2.2).bind fun t193 => (if t193 = 110 then ((capstanlaw11_made.f k 3 (([6, 4, 8] : List Int))).bind fun bt197 => ((calls_Check.f k bt197.1 bt197.2.1 bt197.2.2.1 bt197.2.2.2).bind fun t207 => (some (t207 == 2)))) else (none)))) else (none)) = some r := by rw [if_pos rfl] at H; exact H
        clear H
        have H := H1
        clear H1
        by_cases c17 : t163 = 0
        ·
         rw [if_pos c17] at H
         have c17b0 : (t163 == 0) = true := beq_iff_eq.mpr c17
         have c17b1 : (t163 != 0) = false := bne_eq_false_iff_eq.mpr c17
         clear c17
         obtain ⟨y180, hy180⟩ : ∃ y_ : List Int, y_ = (([6, 4, 1] : List Int)) := ⟨_, rfl⟩
         replace H : ((capstanlaw11_made.f k 3 y180).bind fun bt183 => ((calls_Check.f k bt183.1 bt183.2.1 bt183.2.2.1 bt183.2.2.2).bind fun t193 => (if t193 = 110 then ((capstanlaw11_made.f k 3 (([6, 4, 8] : List Int))).bind fun bt197 => ((calls_Check.f k bt197.1 bt197.2.1 bt197.2.2.1 bt197.2.2.2).bind fun t207 => (some (t207 == 2)))) else (none)))) = some r := by first | (rw [hy180]; with_reducible exact H) | (have H2_ := (Option.bind_some _ _).symm.trans H; rw [hy180]; with_reducible exact H2_) | (have H2_ := (Option.bind_some _ _).symm.trans H; with_reducible exact H2_) | with_reducible exact H | (rw [hy180]; exact H) | exact H
         have Ny180 := Aside0.mk hy180
         clear hy180
         replace H := Option.bind_eq_some_iff.mp H
         obtain ⟨⟨t183, t186, t189, t192⟩, A180, H⟩ := H
         replace H : ((calls_Check.f k t183 t186 t189 t192).bind fun t193 => (if t193 = 110 then ((capstanlaw11_made.f k 3 (([6, 4, 8] : List Int))).bind fun bt197 => ((calls_Check.f k bt197.1 bt197.2.1 bt197.2.2.1 bt197.2.2.2).bind fun t207 => (some (t207 == 2)))) else (none))) = some r := H
         have A18 := Aside0.mk A180
         clear A180
         replace H := Option.bind_eq_some_iff.mp H
         obtain ⟨t193, A190, H⟩ := H
         replace H : (if t193 = 110 then ((capstanlaw11_made.f k 3 (([6, 4, 8] : List Int))).bind fun bt197 => ((calls_Check.f k bt197.1 bt197.2.1 bt197.2.2.1 bt197.2.2.2).bind fun t207 => (some (t207 == 2)))) else (none)) = some r := H
         have A19 := Aside0.mk A190
         clear A190
         by_cases c20 : t193 = 110
         ·
          rw [if_pos c20] at H
          have c20b0 : (t193 == 110) = true := beq_iff_eq.mpr c20
          have c20b1 : (t193 != 110) = false := bne_eq_false_iff_eq.mpr c20
          clear c20
          obtain ⟨y194, hy194⟩ : ∃ y_ : List Int, y_ = (([6, 4, 8] : List Int)) := ⟨_, rfl⟩
          replace H : ((capstanlaw11_made.f k 3 y194).bind fun bt197 => ((calls_Check.f k bt197.1 bt197.2.1 bt197.2.2.1 bt197.2.2.2).bind fun t207 => (some (t207 == 2)))) = some r := by first | (rw [hy194]; with_reducible exact H) | (have H2_ := (Option.bind_some _ _).symm.trans H; rw [hy194]; with_reducible exact H2_) | (have H2_ := (Option.bind_some _ _).symm.trans H; with_reducible exact H2_) | with_reducible exact H | (rw [hy194]; exact H) | exact H
          have Ny194 := Aside0.mk hy194
          clear hy194
          replace H := Option.bind_eq_some_iff.mp H
          obtain ⟨⟨t197, t200, t203, t206⟩, A210, H⟩ := H
          replace H : ((calls_Check.f k t197 t200 t203 t206).bind fun t207 => (some (t207 == 2))) = some r := H
          have A21 := Aside0.mk A210
          clear A210
          replace H := Option.bind_eq_some_iff.mp H
          obtain ⟨t207, A220, H⟩ := H
          replace H : (some (t207 == 2)) = some r := H
          have A22 := Aside0.mk A220
          clear A220
          obtain rfl := Option.some.inj H
          go_enter Try.func36, Try.ntmps36
          go_wp2_with (first | ((with_reducible refine gate_dst (N := 10) rfl ?_); (try (refine gate_guard (by rfl) ?_; dsimp only)); refine Kd.R_lit (Kd.int .u16) _ 66 ?hg (N := 10) ?hd (xs := ([6, 4, 0] : List Int)) (inner := [.int .u16 6, .int .u16 4, .int .u16 0]) (ok := fun _ => True) (okp := fun _ => True) ?hr ?hp (fun _ hk => hk) trivial (Below.refl _ _) (Nat.le_refl _) (by simp) ?_; (case hd => rfl); (case hg => rfl); (case hr => first | (go_simp; done) | (go_simp; rfl)); (case hp => exact (Reps.one (show Kd.M (Kd.int .u16) _ _ _ 6 [.int .u16 6] from rfl) (Reps.one (show Kd.M (Kd.int .u16) _ _ _ 4 [.int .u16 4] from rfl) (Reps.one (show Kd.M (Kd.int .u16) _ _ _ 0 [.int .u16 0] from rfl) (Reps.none _ _))))); intro v135 w23 ho24 hb hg_ hnew_; clear hg_ hnew_; (first | rw [← Ny134.out] at ho24 | (simp only [Int.reduceToNat] at ho24; rw [← Ny134.out] at ho24)); have n0_ := Aside0.mk (Kd.R_lower ho24 (below_size (au2))); have n1_ := Aside0.mk (below_step (au2) hb); clear HB; have HO136 := n0_; have HB := n1_; clear n0_ n1_; clear hb ho24; obtain ⟨Ao25, co25, eo25⟩ := Kd.R_slice HO136.out; subst eo25) | ((with_reducible refine gate_callee (f := 37) rfl ?_); refine goesL_ (some 11) rfl rfl Try.func37 (by kernel_rfl) rfl #[.int .i64 3, .slice Ao25 y134.length co25] rfl (au9) ?_; (with_reducible refine (capstanlaw11_made.calls k 3 _ _ y134 t137 t140 t143 t146 _ ?side1 ?side2 A1.out).mono ?_); (case side1 => repeat (first | exact (Kd.R_reads' HO136.out).2.2 | (with_reducible refine Kd.C_alloc ?_ _) | (with_reducible refine Kd.C_drewN ?_ _) | (with_reducible refine Kd.C_drew ?_))); (case side2 => exact (Kd.R_reads' HO136.out).2.1); rintro e w26 ⟨v138, v141, v144, rfl, ho0, ho1, ho2, hb⟩; refine ⟨_, rfl, ?_⟩; have n0_ := Aside0.mk (Kd.R_below (au15) hb); have n1_ := Aside0.mk (Kd.R_lower ho0 (below_size (au2))); have n2_ := Aside0.mk (Kd.R_lower ho1 (below_size (au2))); have n3_ := Aside0.mk (Kd.S_lower ho2 (below_size (au2))); have n4_ := Aside0.mk (below_step (au2) hb); clear HO136; clear HB; have HO136 := n0_; have HO139 := n1_; have HO142 := n2_; have HO145 := n3_; have HB := n4_; clear n0_ n1_ n2_ n3_ n4_; (try clear hb); (try clear hb2); (try clear hk); (try clear hi); (try clear ho0); (try clear ho1); (try clear ho2)) | ((with_reducible refine gate_dst (N := 1) rfl ?_); (try (refine gate_guard (by rfl) ?_; dsimp only)); refine box_event ?hg (N := 1) ?hd (cs := #[.slice none 0 0, .slice none 0 0, .slice none 0 0, .int .i64 0]) (t := 25) ?hr ?_; (case hd => rfl); (case hg => rfl); (case hr => first | (go_simp; done) | (go_simp; rfl)); intro gb147 hg w27 hbox hb; have n0_ := Aside0.mk (Kd.R_below (au15) hb); have n1_ := Aside0.mk (Kd.R_below (au11) hb); have n2_ := Aside0.mk (Kd.R_below (au12) hb); have n3_ := Aside0.mk (Kd.S_below (au16) hb); have n4_ := Aside0.mk (below_step (au2) hb); have n5_ := Aside0.mk (hbox); have n6_ := Aside0.mk ((au47 : w.heap.size ≤ gb147)); have n7_ := Aside0.mk ((au47 : w.heap.size ≤ gb147)); clear HO136; clear HO139; clear HO142; clear HO145; clear HB; have HO136 := n0_; have HO139 := n1_; have HO142 := n2_; have HO145 := n3_; have HB := n4_; have BK147 := n5_; have GW147 := n6_; have GE147 := n7_; clear n0_ n1_ n2_ n3_ n4_ n5_ n6_ n7_; clear hb hbox hg; obtain ⟨Ao28, co28, eo28⟩ := Kd.R_slice HO139.out; subst eo28; obtain ⟨hcz29_0, hcz29_1, hcz29_2, hcz29_3, hfz29_0, hfz29_1, hfz29_2, hfz29_3⟩ := blk_all4 BK147.out; obtain ⟨Ao30, co30, eo30⟩ := Kd.R_slice HO142.out; subst eo30; obtain ⟨Ao31, co31, eo31⟩ := Kd.S_slice HO145.out; subst eo31) | ((with_reducible refine gate_callee (f := 29) rfl ?_); refine goesL_ (some 14) rfl rfl Try.func29 (by kernel_rfl) rfl #[.agg #[.slice Ao28 t137.length co28, .slice Ao30 t140.length co30, .slice Ao31 t143.length co31, .int .i64 t146], .int .i64 0] rfl (au9) ?_; (with_reducible refine (calls_Whom.calls _ _ t137 _ _ t140 _ _ t143 t146 0 t148 t151 _ ?side1 ?side2 ?side3 ?side4 ?side5 ?side6 A2.out).mono ?_); (case side1 => refine (Kd.R_reads' (e := 86) (base := w.heap.size) (ok := fun k_ => some k_ ≠ (.slice Ao30 t140.length co30 : Value).ownBlock) (n := t137.length) (c := co28) ?_).2.2; exact (au33)); (case side2 => exact (Kd.R_reads' HO139.out).2.1); (case side3 => refine (Kd.R_reads' (e := 86) (base := w.heap.size) (ok := fun k_ => some k_ ≠ (.slice Ao28 t137.length co28 : Value).ownBlock) (n := t140.length) (c := co30) ?_).2.2; exact (au34)); (case side4 => exact (Kd.R_reads' HO142.out).2.1); (case side5 => refine (Kd.S_reads' (e := 52) (base := w.heap.size) (ok := fun k_ => True) (n := t143.length) (c := co31) ?_).2.2; exact (au35)); (case side6 => exact (Kd.S_reads' HO145.out).2.1); rintro e w32 ⟨v149, rfl, ho0, hb⟩; refine ⟨_, rfl, ?_⟩; have n0_ := Aside0.mk (Kd.R_below (by (with_reducible repeat (first | apply Kd.R_alloc | apply Kd.R_drewN | apply Kd.R_drew)); first | exact (Kd.R_mono (Kd.R_far (p := ⟨gb147, 3, none⟩) (Kd.R_far (p := ⟨gb147, 2, none⟩) (Kd.R_far (p := ⟨gb147, 1, none⟩) (Kd.R_far (p := ⟨gb147, 0, none⟩) (Kd.R_types HO136.out BK147.out (by decide)) (fun _ hk => hk.2) (.slice Ao28 t137.length co28)) (fun _ hk => hk.2) (.slice Ao30 t140.length co30)) (fun _ hk => hk.2) (.slice Ao31 t143.length co31)) (fun _ hk => hk.2) (.int .i64 t146)) (fun _ h_ => h_.1)) | exact Kd.R_mono ((Kd.R_mono (Kd.R_far (p := ⟨gb147, 3, none⟩) (Kd.R_far (p := ⟨gb147, 2, none⟩) (Kd.R_far (p := ⟨gb147, 1, none⟩) (Kd.R_far (p := ⟨gb147, 0, none⟩) (Kd.R_types HO136.out BK147.out (by decide)) (fun _ hk => hk.2) (.slice Ao28 t137.length co28)) (fun _ hk => hk.2) (.slice Ao30 t140.length co30)) (fun _ hk => hk.2) (.slice Ao31 t143.length co31)) (fun _ hk => hk.2) (.int .i64 t146)) (fun _ h_ => h_.1))) (fun _ h_ => h_.2)) hb); have n1_ := Aside0.mk (Kd.R_below (au33) hb); have n2_ := Aside0.mk (Kd.R_below (au34) hb); have n3_ := Aside0.mk (Kd.S_below (au35) hb); have n4_ := Aside0.mk (Kd.R_lower ho0 (below_size (au3))); have n5_ := Aside0.mk (blk_below (g := gb147) (o := .cells #[.slice Ao28 t137.length co28, .slice Ao30 t140.length co30, .slice Ao31 t143.length co31, .int .i64 t146] 25 (0, 0)) (by (with_reducible repeat (first | refine blk_drewN ?_ _ | refine blk_drew ?_ | refine blk_alloc ?_ _)); refine blk_put (cs := #[.slice Ao28 t137.length co28, .slice Ao30 t140.length co30, .slice Ao31 t143.length co31, .int .i64 0]) ?_ 3 _ rfl; (with_reducible repeat (first | refine blk_drewN ?_ _ | refine blk_drew ?_ | refine blk_alloc ?_ _)); refine blk_put (cs := #[.slice Ao28 t137.length co28, .slice Ao30 t140.length co30, .slice none 0 0, .int .i64 0]) ?_ 2 _ rfl; (with_reducible repeat (first | refine blk_drewN ?_ _ | refine blk_drew ?_ | refine blk_alloc ?_ _)); refine blk_put (cs := #[.slice Ao28 t137.length co28, .slice none 0 0, .slice none 0 0, .int .i64 0]) ?_ 1 _ rfl; (with_reducible repeat (first | refine blk_drewN ?_ _ | refine blk_drew ?_ | refine blk_alloc ?_ _)); refine blk_put (cs := #[.slice none 0 0, .slice none 0 0, .slice none 0 0, .int .i64 0]) ?_ 0 _ rfl; (with_reducible repeat (first | refine blk_drewN ?_ _ | refine blk_drew ?_ | refine blk_alloc ?_ _)); exact BK147.out) hb); have n6_ := Aside0.mk (below_step (au3) hb); clear HO136; clear HO139; clear HO142; clear HO145; clear BK147; clear HB; have HO136 := n0_; have HO139 := n1_; have HO142 := n2_; have HO145 := n3_; have HO150 := n4_; have BK147 := n5_; have HB := n6_; clear n0_ n1_ n2_ n3_ n4_ n5_ n6_; (try clear hb); (try clear hb2); (try clear hk); (try clear hi); (try clear ho0); obtain ⟨hcz33_0, hcz33_1, hcz33_2, hcz33_3, hfz33_0, hfz33_1, hfz33_2, hfz33_3⟩ := blk_all4 BK147.out) | ((with_reducible refine gate_callee (f := 30) rfl ?_); refine goesL_ (some 19) rfl rfl Try.func30 (by kernel_rfl) rfl #[.agg #[.slice Ao28 t137.length co28, .slice Ao30 t140.length co30, .slice Ao31 t143.length co31, .int .i64 t146]] rfl (au9) ?_; (with_reducible refine (calls_Order.calls k _ _ t137 _ _ t140 _ _ t143 t146 t152 t155 _ ?side1 ?side2 ?side3 ?side4 ?side5 ?side6 A3.out).mono ?_); (case side1 => exact au59); (case side2 => exact (Kd.R_reads' HO139.out).2.1); (case side3 => exact au60); (case side4 => exact (Kd.R_reads' HO142.out).2.1); (case side5 => exact au61); (case side6 => exact (Kd.S_reads' HO145.out).2.1); rintro e w34 ⟨v153, rfl, ho0, hb⟩; refine ⟨_, rfl, ?_⟩; have n0_ := Aside0.mk (Kd.R_below (au15) hb); have n1_ := Aside0.mk (Kd.R_below (au11) hb); have n2_ := Aside0.mk (Kd.R_below (au12) hb); have n3_ := Aside0.mk (Kd.S_below (au16) hb); have n4_ := Aside0.mk (Kd.R_elder' (au10) (Kd.R_base ho0) hb); have n5_ := Aside0.mk (Kd.R_lower (Kd.R_new' ho0 (Kd.R_lt (au10))) (below_size (au3))); have n6_ := Aside0.mk (blk_below (g := gb147) (o := .cells #[.slice Ao28 t137.length co28, .slice Ao30 t140.length co30, .slice Ao31 t143.length co31, .int .i64 t146] 25 (0, 0)) (au28) hb); have n7_ := Aside0.mk (below_step (au3) hb); clear HO136; clear HO139; clear HO142; clear HO145; clear HO150; clear BK147; clear HB; have HO136 := n0_; have HO139 := n1_; have HO142 := n2_; have HO145 := n3_; have HO150 := n4_; have HO154 := n5_; have BK147 := n6_; have HB := n7_; clear n0_ n1_ n2_ n3_ n4_ n5_ n6_ n7_; (try clear hb); (try clear hb2); (try clear hk); (try clear hi); (try clear ho0); obtain ⟨hcz35_0, hcz35_1, hcz35_2, hcz35_3, hfz35_0, hfz35_1, hfz35_2, hfz35_3⟩ := blk_all4 BK147.out) | ((with_reducible refine gate_callee (f := 31) rfl ?_); refine goesL_ (some 24) rfl rfl Try.func31 (by kernel_rfl) rfl #[.agg #[.slice Ao28 t137.length co28, .slice Ao30 t140.length co30, .slice Ao31 t143.length co31, .int .i64 t146], .int .i64 0] rfl (au9) ?_; (with_reducible refine (calls_Leads.calls k _ _ t137 _ _ t140 _ _ t143 t146 0 t156 t159 _ ?side1 ?side2 ?side3 ?side4 ?side5 ?side6 A4.out).mono ?_); (case side1 => exact au59); (case side2 => exact (Kd.R_reads' HO139.out).2.1); (case side3 => exact au60); (case side4 => exact (Kd.R_reads' HO142.out).2.1); (case side5 => exact au61); (case side6 => exact (Kd.S_reads' HO145.out).2.1); rintro e w36 ⟨v157, rfl, ho0, hb⟩; refine ⟨_, rfl, ?_⟩; have n0_ := Aside0.mk (Kd.R_below (au15) hb); have n1_ := Aside0.mk (Kd.R_below (au11) hb); have n2_ := Aside0.mk (Kd.R_below (au12) hb); have n3_ := Aside0.mk (Kd.S_below (au16) hb); have n4_ := Aside0.mk (Kd.R_elder' (au10) (Kd.R_base ho0) hb); have n5_ := Aside0.mk (Kd.R_elder' (au13) (Kd.R_base ho0) hb); have n6_ := Aside0.mk (Kd.R_lower (Kd.R_new' (Kd.R_new' ho0 (Kd.R_lt (au10))) (Kd.R_lt (au13))) (below_size (au3))); have n7_ := Aside0.mk (blk_below (g := gb147) (o := .cells #[.slice Ao28 t137.length co28, .slice Ao30 t140.length co30, .slice Ao31 t143.length co31, .int .i64 t146] 25 (0, 0)) (au28) hb); have n8_ := Aside0.mk (below_step (au3) hb); clear HO136; clear HO139; clear HO142; clear HO145; clear HO150; clear HO154; clear BK147; clear HB; have HO136 := n0_; have HO139 := n1_; have HO142 := n2_; have HO145 := n3_; have HO150 := n4_; have HO154 := n5_; have HO158 := n6_; have BK147 := n7_; have HB := n8_; clear n0_ n1_ n2_ n3_ n4_ n5_ n6_ n7_ n8_; (try clear hb); (try clear hb2); (try clear hk); (try clear hi); (try clear ho0); obtain ⟨hcz37_0, hcz37_1, hcz37_2, hcz37_3, hfz37_0, hfz37_1, hfz37_2, hfz37_3⟩ := blk_all4 BK147.out) | ((with_reducible refine gate_callee (f := 32) rfl ?_); refine goesL_ (some 29) rfl rfl Try.func32 (by kernel_rfl) rfl #[.agg #[.slice Ao28 t137.length co28, .slice Ao30 t140.length co30, .slice Ao31 t143.length co31, .int .i64 t146]] rfl (au9) ?_; (with_reducible refine (calls_Deep.calls k _ _ t137 _ _ t140 _ _ t143 t146 t160 t163 _ ?side1 ?side2 ?side3 ?side4 ?side5 ?side6 A5.out).mono ?_); (case side1 => exact au59); (case side2 => exact (Kd.R_reads' HO139.out).2.1); (case side3 => exact au60); (case side4 => exact (Kd.R_reads' HO142.out).2.1); (case side5 => exact au61); (case side6 => exact (Kd.S_reads' HO145.out).2.1); rintro e w38 ⟨v161, rfl, ho0, hb⟩; refine ⟨_, rfl, ?_⟩; have n0_ := Aside0.mk (Kd.R_below (au15) hb); have n1_ := Aside0.mk (Kd.R_below (au11) hb); have n2_ := Aside0.mk (Kd.R_below (au12) hb); have n3_ := Aside0.mk (Kd.S_below (au16) hb); have n4_ := Aside0.mk (Kd.R_elder' (au10) (Kd.R_base ho0) hb); have n5_ := Aside0.mk (Kd.R_elder' (au13) (Kd.R_base ho0) hb); have n6_ := Aside0.mk (Kd.R_elder' (au17) (Kd.R_base ho0) hb); have n7_ := Aside0.mk (Kd.R_lower (Kd.R_new' (Kd.R_new' (Kd.R_new' ho0 (Kd.R_lt (au10))) (Kd.R_lt (au13))) (Kd.R_lt (au17))) (below_size (au3))); have n8_ := Aside0.mk (blk_below (g := gb147) (o := .cells #[.slice Ao28 t137.length co28, .slice Ao30 t140.length co30, .slice Ao31 t143.length co31, .int .i64 t146] 25 (0, 0)) (au28) hb); have n9_ := Aside0.mk (below_step (au3) hb); clear HO136; clear HO139; clear HO142; clear HO145; clear HO150; clear HO154; clear HO158; clear BK147; clear HB; have HO136 := n0_; have HO139 := n1_; have HO142 := n2_; have HO145 := n3_; have HO150 := n4_; have HO154 := n5_; have HO158 := n6_; have HO162 := n7_; have BK147 := n8_; have HB := n9_; clear n0_ n1_ n2_ n3_ n4_ n5_ n6_ n7_ n8_ n9_; (try clear hb); (try clear hb2); (try clear hk); (try clear hi); (try clear ho0)) | ((with_reducible refine gate_dst (N := 33) rfl ?_); (try (refine gate_guard (by rfl) ?_; dsimp only)); refine Kd.R_lit (Kd.int .i64) _ 3 ?hg (N := 33) ?hd (xs := ([1, 2] : List Int)) (inner := [.int .i64 1, .int .i64 2]) (ok := fun _ => True) (okp := fun _ => True) ?hr ?hp (fun _ hk => hk) trivial (Below.refl _ _) (Nat.le_refl _) (by simp) ?_; (case hd => rfl); (case hg => rfl); (case hr => first | (go_simp; done) | (go_simp; rfl)); (case hp => exact (Reps.one (show Kd.M (Kd.int .i64) _ _ _ 1 [.int .i64 1] from rfl) (Reps.one (show Kd.M (Kd.int .i64) _ _ _ 2 [.int .i64 2] from rfl) (Reps.none _ _)))); intro v165 w39 ho40 hb hg_ hnew_; clear hg_ hnew_; (first | rw [← Ny164.out] at ho40 | (simp only [Int.reduceToNat] at ho40; rw [← Ny164.out] at ho40)); have n0_ := Aside0.mk (Kd.R_below (au15) hb); have n1_ := Aside0.mk (Kd.R_below (au11) hb); have n2_ := Aside0.mk (Kd.R_below (au12) hb); have n3_ := Aside0.mk (Kd.S_below (au16) hb); have n4_ := Aside0.mk (Kd.R_elder' (au10) (Kd.R_base ho40) hb); have n5_ := Aside0.mk (Kd.R_elder' (au13) (Kd.R_base ho40) hb); have n6_ := Aside0.mk (Kd.R_elder' (au17) (Kd.R_base ho40) hb); have n7_ := Aside0.mk (Kd.R_elder' (au22) (Kd.R_base ho40) hb); have n8_ := Aside0.mk (Kd.R_lower (Kd.R_new' (Kd.R_new' (Kd.R_new' (Kd.R_new' ho40 (Kd.R_lt (au10))) (Kd.R_lt (au13))) (Kd.R_lt (au17))) (Kd.R_lt (au22))) (below_size (au3))); have n9_ := Aside0.mk (blk_below (g := gb147) (o := .cells #[.slice Ao28 t137.length co28, .slice Ao30 t140.length co30, .slice Ao31 t143.length co31, .int .i64 t146] 25 (0, 0)) (au28) hb); have n10_ := Aside0.mk (below_step (au3) hb); clear HO136; clear HO139; clear HO142; clear HO145; clear HO150; clear HO154; clear HO158; clear HO162; clear BK147; clear HB; have HO136 := n0_; have HO139 := n1_; have HO142 := n2_; have HO145 := n3_; have HO150 := n4_; have HO154 := n5_; have HO158 := n6_; have HO162 := n7_; have HO166 := n8_; have BK147 := n9_; have HB := n10_; clear n0_ n1_ n2_ n3_ n4_ n5_ n6_ n7_ n8_ n9_ n10_; clear hb ho40; obtain ⟨Ao41, co41, eo41⟩ := Kd.R_slice HO150.out; subst eo41; obtain ⟨Ao42, co42, eo42⟩ := Kd.R_slice HO166.out; subst eo42) | ((with_reducible refine gate_callee (f := 38) rfl ?_); refine goesL_ (some 34) rfl rfl Try.func38 (by kernel_rfl) rfl #[.slice Ao41 t148.length co41, .slice Ao42 y164.length co42] rfl (au9) ?_; (with_reducible refine (capstanlaw11_are.calls k _ _ t148 _ _ y164 true _ ?side1 ?side2 ?side3 ?side4 A6.out).mono ?_); (case side1 => repeat (first | exact (Kd.R_reads' HO150.out).2.2 | (with_reducible refine Kd.C_alloc ?_ _) | (with_reducible refine Kd.C_drewN ?_ _) | (with_reducible refine Kd.C_drew ?_))); (case side2 => exact (Kd.R_reads' HO150.out).2.1); (case side3 => repeat (first | exact (Kd.R_reads' HO166.out).2.2 | (with_reducible refine Kd.C_alloc ?_ _) | (with_reducible refine Kd.C_drewN ?_ _) | (with_reducible refine Kd.C_drew ?_))); (case side4 => exact (Kd.R_reads' HO166.out).2.1); rintro e w' ⟨rfl, ⟨nd, rfl⟩⟩; refine ⟨_, rfl, ?_⟩) | ((with_reducible refine gate_dst (N := 41) rfl ?_); (try (refine gate_guard (by rfl) ?_; dsimp only)); refine Kd.R_lit (Kd.int .i64) _ 3 ?hg (N := 41) ?hd (xs := ([2, 1, 0] : List Int)) (inner := [.int .i64 2, .int .i64 1, .int .i64 0]) (ok := fun _ => True) (okp := fun _ => True) ?hr ?hp (fun _ hk => hk) trivial (Below.refl _ _) (Nat.le_refl _) (by simp) ?_; (case hd => rfl); (case hg => rfl); (case hr => first | (go_simp; done) | (go_simp; rfl)); (case hp => exact (Reps.one (show Kd.M (Kd.int .i64) _ _ _ 2 [.int .i64 2] from rfl) (Reps.one (show Kd.M (Kd.int .i64) _ _ _ 1 [.int .i64 1] from rfl) (Reps.one (show Kd.M (Kd.int .i64) _ _ _ 0 [.int .i64 0] from rfl) (Reps.none _ _))))); intro v169 w43 ho44 hb hg_ hnew_; clear hg_ hnew_; (first | rw [← Ny168.out] at ho44 | (simp only [Int.reduceToNat] at ho44; rw [← Ny168.out] at ho44)); have n0_ := Aside0.mk (Kd.R_below (au15) hb); have n1_ := Aside0.mk (Kd.R_below (au11) hb); have n2_ := Aside0.mk (Kd.R_below (au12) hb); have n3_ := Aside0.mk (Kd.S_below (au16) hb); have n4_ := Aside0.mk (Kd.R_elder' (au10) (Kd.R_base ho44) hb); have n5_ := Aside0.mk (Kd.R_elder' (au13) (Kd.R_base ho44) hb); have n6_ := Aside0.mk (Kd.R_elder' (au17) (Kd.R_base ho44) hb); have n7_ := Aside0.mk (Kd.R_elder' (au22) (Kd.R_base ho44) hb); have n8_ := Aside0.mk (Kd.R_elder' (au23) (Kd.R_base ho44) hb); have n9_ := Aside0.mk (Kd.R_lower (Kd.R_new' (Kd.R_new' (Kd.R_new' (Kd.R_new' (Kd.R_new' ho44 (Kd.R_lt (au10))) (Kd.R_lt (au13))) (Kd.R_lt (au17))) (Kd.R_lt (au22))) (Kd.R_lt (au23))) (below_size (au3))); have n10_ := Aside0.mk (blk_below (g := gb147) (o := .cells #[.slice Ao28 t137.length co28, .slice Ao30 t140.length co30, .slice Ao31 t143.length co31, .int .i64 t146] 25 (0, 0)) (au28) hb); have n11_ := Aside0.mk (below_step (au3) hb); clear HO136; clear HO139; clear HO142; clear HO145; clear HO150; clear HO154; clear HO158; clear HO162; clear HO166; clear BK147; clear HB; have HO136 := n0_; have HO139 := n1_; have HO142 := n2_; have HO145 := n3_; have HO150 := n4_; have HO154 := n5_; have HO158 := n6_; have HO162 := n7_; have HO166 := n8_; have HO170 := n9_; have BK147 := n10_; have HB := n11_; clear n0_ n1_ n2_ n3_ n4_ n5_ n6_ n7_ n8_ n9_ n10_ n11_; clear hb ho44; obtain ⟨Ao45, co45, eo45⟩ := Kd.R_slice HO154.out; subst eo45; obtain ⟨Ao46, co46, eo46⟩ := Kd.R_slice HO170.out; subst eo46) | (go_at_call 38; (with_reducible refine (capstanlaw11_are.calls k _ _ t152 _ _ y168 true _ ?side1 ?side2 ?side3 ?side4 A9.out).mono ?_); (case side1 => repeat (first | exact (Kd.R_reads' HO154.out).2.2 | (with_reducible refine Kd.C_alloc ?_ _) | (with_reducible refine Kd.C_drewN ?_ _) | (with_reducible refine Kd.C_drew ?_))); (case side2 => exact (Kd.R_reads' HO154.out).2.1); (case side3 => repeat (first | exact (Kd.R_reads' HO170.out).2.2 | (with_reducible refine Kd.C_alloc ?_ _) | (with_reducible refine Kd.C_drewN ?_ _) | (with_reducible refine Kd.C_drew ?_))); (case side4 => exact (Kd.R_reads' HO170.out).2.1); rintro e w' ⟨rfl, ⟨nd, rfl⟩⟩) | ((with_reducible refine gate_dst (N := 50) rfl ?_); (try (refine gate_guard (by rfl) ?_; dsimp only)); refine Kd.R_lit (Kd.int .i64) _ 3 ?hg (N := 50) ?hd (xs := ([1, 2] : List Int)) (inner := [.int .i64 1, .int .i64 2]) (ok := fun _ => True) (okp := fun _ => True) ?hr ?hp (fun _ hk => hk) trivial (Below.refl _ _) (Nat.le_refl _) (by simp) ?_; (case hd => rfl); (case hg => rfl); (case hr => first | (go_simp; done) | (go_simp; rfl)); (case hp => exact (Reps.one (show Kd.M (Kd.int .i64) _ _ _ 1 [.int .i64 1] from rfl) (Reps.one (show Kd.M (Kd.int .i64) _ _ _ 2 [.int .i64 2] from rfl) (Reps.none _ _)))); intro v173 w47 ho48 hb hg_ hnew_; clear hg_ hnew_; (first | rw [← Ny172.out] at ho48 | (simp only [Int.reduceToNat] at ho48; rw [← Ny172.out] at ho48)); have n0_ := Aside0.mk (Kd.R_below (au15) hb); have n1_ := Aside0.mk (Kd.R_below (au11) hb); have n2_ := Aside0.mk (Kd.R_below (au12) hb); have n3_ := Aside0.mk (Kd.S_below (au16) hb); have n4_ := Aside0.mk (Kd.R_elder' (au10) (Kd.R_base ho48) hb); have n5_ := Aside0.mk (Kd.R_elder' (au13) (Kd.R_base ho48) hb); have n6_ := Aside0.mk (Kd.R_elder' (au17) (Kd.R_base ho48) hb); have n7_ := Aside0.mk (Kd.R_elder' (au22) (Kd.R_base ho48) hb); have n8_ := Aside0.mk (Kd.R_elder' (au23) (Kd.R_base ho48) hb); have n9_ := Aside0.mk (Kd.R_elder' (au26) (Kd.R_base ho48) hb); have n10_ := Aside0.mk (Kd.R_lower (Kd.R_new' (Kd.R_new' (Kd.R_new' (Kd.R_new' (Kd.R_new' (Kd.R_new' ho48 (Kd.R_lt (au10))) (Kd.R_lt (au13))) (Kd.R_lt (au17))) (Kd.R_lt (au22))) (Kd.R_lt (au23))) (Kd.R_lt (au26))) (below_size (au3))); have n11_ := Aside0.mk (blk_below (g := gb147) (o := .cells #[.slice Ao28 t137.length co28, .slice Ao30 t140.length co30, .slice Ao31 t143.length co31, .int .i64 t146] 25 (0, 0)) (au28) hb); have n12_ := Aside0.mk (below_step (au3) hb); clear HO136; clear HO139; clear HO142; clear HO145; clear HO150; clear HO154; clear HO158; clear HO162; clear HO166; clear HO170; clear BK147; clear HB; have HO136 := n0_; have HO139 := n1_; have HO142 := n2_; have HO145 := n3_; have HO150 := n4_; have HO154 := n5_; have HO158 := n6_; have HO162 := n7_; have HO166 := n8_; have HO170 := n9_; have HO174 := n10_; have BK147 := n11_; have HB := n12_; clear n0_ n1_ n2_ n3_ n4_ n5_ n6_ n7_ n8_ n9_ n10_ n11_ n12_; clear hb ho48; obtain ⟨Ao49, co49, eo49⟩ := Kd.R_slice HO158.out; subst eo49; obtain ⟨Ao50, co50, eo50⟩ := Kd.R_slice HO174.out; subst eo50) | (go_at_call 38; (with_reducible refine (capstanlaw11_are.calls k _ _ t156 _ _ y172 true _ ?side1 ?side2 ?side3 ?side4 A12.out).mono ?_); (case side1 => repeat (first | exact (Kd.R_reads' HO158.out).2.2 | (with_reducible refine Kd.C_alloc ?_ _) | (with_reducible refine Kd.C_drewN ?_ _) | (with_reducible refine Kd.C_drew ?_))); (case side2 => exact (Kd.R_reads' HO158.out).2.1); (case side3 => repeat (first | exact (Kd.R_reads' HO174.out).2.2 | (with_reducible refine Kd.C_alloc ?_ _) | (with_reducible refine Kd.C_drewN ?_ _) | (with_reducible refine Kd.C_drew ?_))); (case side4 => exact (Kd.R_reads' HO174.out).2.1); rintro e w' ⟨rfl, ⟨nd, rfl⟩⟩) | ((with_reducible refine gate_dst (N := 59) rfl ?_); (try (refine gate_guard (by rfl) ?_; dsimp only)); refine Kd.R_lit (Kd.int .i64) _ 3 ?hg (N := 59) ?hd (xs := ([3, 2, 1] : List Int)) (inner := [.int .i64 3, .int .i64 2, .int .i64 1]) (ok := fun _ => True) (okp := fun _ => True) ?hr ?hp (fun _ hk => hk) trivial (Below.refl _ _) (Nat.le_refl _) (by simp) ?_; (case hd => rfl); (case hg => rfl); (case hr => first | (go_simp; done) | (go_simp; rfl)); (case hp => exact (Reps.one (show Kd.M (Kd.int .i64) _ _ _ 3 [.int .i64 3] from rfl) (Reps.one (show Kd.M (Kd.int .i64) _ _ _ 2 [.int .i64 2] from rfl) (Reps.one (show Kd.M (Kd.int .i64) _ _ _ 1 [.int .i64 1] from rfl) (Reps.none _ _))))); intro v177 w51 ho52 hb hg_ hnew_; clear hg_ hnew_; (first | rw [← Ny176.out] at ho52 | (simp only [Int.reduceToNat] at ho52; rw [← Ny176.out] at ho52)); have n0_ := Aside0.mk (Kd.R_below (au15) hb); have n1_ := Aside0.mk (Kd.R_below (au11) hb); have n2_ := Aside0.mk (Kd.R_below (au12) hb); have n3_ := Aside0.mk (Kd.S_below (au16) hb); have n4_ := Aside0.mk (Kd.R_elder' (au10) (Kd.R_base ho52) hb); have n5_ := Aside0.mk (Kd.R_elder' (au13) (Kd.R_base ho52) hb); have n6_ := Aside0.mk (Kd.R_elder' (au17) (Kd.R_base ho52) hb); have n7_ := Aside0.mk (Kd.R_elder' (au22) (Kd.R_base ho52) hb); have n8_ := Aside0.mk (Kd.R_elder' (au23) (Kd.R_base ho52) hb); have n9_ := Aside0.mk (Kd.R_elder' (au26) (Kd.R_base ho52) hb); have n10_ := Aside0.mk (Kd.R_elder' (au31) (Kd.R_base ho52) hb); have n11_ := Aside0.mk (Kd.R_lower (Kd.R_new' (Kd.R_new' (Kd.R_new' (Kd.R_new' (Kd.R_new' (Kd.R_new' (Kd.R_new' ho52 (Kd.R_lt (au10))) (Kd.R_lt (au13))) (Kd.R_lt (au17))) (Kd.R_lt (au22))) (Kd.R_lt (au23))) (Kd.R_lt (au26))) (Kd.R_lt (au31))) (below_size (au3))); have n12_ := Aside0.mk (blk_below (g := gb147) (o := .cells #[.slice Ao28 t137.length co28, .slice Ao30 t140.length co30, .slice Ao31 t143.length co31, .int .i64 t146] 25 (0, 0)) (au28) hb); have n13_ := Aside0.mk (below_step (au3) hb); clear HO136; clear HO139; clear HO142; clear HO145; clear HO150; clear HO154; clear HO158; clear HO162; clear HO166; clear HO170; clear HO174; clear BK147; clear HB; have HO136 := n0_; have HO139 := n1_; have HO142 := n2_; have HO145 := n3_; have HO150 := n4_; have HO154 := n5_; have HO158 := n6_; have HO162 := n7_; have HO166 := n8_; have HO170 := n9_; have HO174 := n10_; have HO178 := n11_; have BK147 := n12_; have HB := n13_; clear n0_ n1_ n2_ n3_ n4_ n5_ n6_ n7_ n8_ n9_ n10_ n11_ n12_ n13_; clear hb ho52; obtain ⟨Ao53, co53, eo53⟩ := Kd.R_slice HO162.out; subst eo53; obtain ⟨Ao54, co54, eo54⟩ := Kd.R_slice HO178.out; subst eo54) | (go_at_call 38; (with_reducible refine (capstanlaw11_are.calls k _ _ t160 _ _ y176 true _ ?side1 ?side2 ?side3 ?side4 A15.out).mono ?_); (case side1 => repeat (first | exact (Kd.R_reads' HO162.out).2.2 | (with_reducible refine Kd.C_alloc ?_ _) | (with_reducible refine Kd.C_drewN ?_ _) | (with_reducible refine Kd.C_drew ?_))); (case side2 => exact (Kd.R_reads' HO162.out).2.1); (case side3 => repeat (first | exact (Kd.R_reads' HO178.out).2.2 | (with_reducible refine Kd.C_alloc ?_ _) | (with_reducible refine Kd.C_drewN ?_ _) | (with_reducible refine Kd.C_drew ?_))); (case side4 => exact (Kd.R_reads' HO178.out).2.1); rintro e w' ⟨rfl, ⟨nd, rfl⟩⟩) | ((with_reducible refine gate_dst (N := 67) rfl ?_); (try (refine gate_guard (by rfl) ?_; dsimp only)); refine Kd.R_lit (Kd.int .u16) _ 66 ?hg (N := 67) ?hd (xs := ([6, 4, 1] : List Int)) (inner := [.int .u16 6, .int .u16 4, .int .u16 1]) (ok := fun _ => True) (okp := fun _ => True) ?hr ?hp (fun _ hk => hk) trivial (Below.refl _ _) (Nat.le_refl _) (by simp) ?_; (case hd => rfl); (case hg => rfl); (case hr => first | (go_simp; done) | (go_simp; rfl)); (case hp => exact (Reps.one (show Kd.M (Kd.int .u16) _ _ _ 6 [.int .u16 6] from rfl) (Reps.one (show Kd.M (Kd.int .u16) _ _ _ 4 [.int .u16 4] from rfl) (Reps.one (show Kd.M (Kd.int .u16) _ _ _ 1 [.int .u16 1] from rfl) (Reps.none _ _))))); intro v181 w55 ho56 hb hg_ hnew_; clear hg_ hnew_; (first | rw [← Ny180.out] at ho56 | (simp only [Int.reduceToNat] at ho56; rw [← Ny180.out] at ho56)); have n0_ := Aside0.mk (Kd.R_elder' (au15) (Kd.R_base ho56) hb); have n1_ := Aside0.mk (Kd.R_below (au11) hb); have n2_ := Aside0.mk (Kd.R_below (au12) hb); have n3_ := Aside0.mk (Kd.S_below (au16) hb); have n4_ := Aside0.mk (Kd.R_below (au10) hb); have n5_ := Aside0.mk (Kd.R_below (au13) hb); have n6_ := Aside0.mk (Kd.R_below (au17) hb); have n7_ := Aside0.mk (Kd.R_below (au22) hb); have n8_ := Aside0.mk (Kd.R_below (au23) hb); have n9_ := Aside0.mk (Kd.R_below (au26) hb); have n10_ := Aside0.mk (Kd.R_below (au31) hb); have n11_ := Aside0.mk (Kd.R_below (au39) hb); have n12_ := Aside0.mk (Kd.R_lower (Kd.R_new' ho56 (Kd.R_lt (au15))) (below_size (au3))); have n13_ := Aside0.mk (blk_below (g := gb147) (o := .cells #[.slice Ao28 t137.length co28, .slice Ao30 t140.length co30, .slice Ao31 t143.length co31, .int .i64 t146] 25 (0, 0)) (au28) hb); have n14_ := Aside0.mk (below_step (au3) hb); clear HO136; clear HO139; clear HO142; clear HO145; clear HO150; clear HO154; clear HO158; clear HO162; clear HO166; clear HO170; clear HO174; clear HO178; clear BK147; clear HB; have HO136 := n0_; have HO139 := n1_; have HO142 := n2_; have HO145 := n3_; have HO150 := n4_; have HO154 := n5_; have HO158 := n6_; have HO162 := n7_; have HO166 := n8_; have HO170 := n9_; have HO174 := n10_; have HO178 := n11_; have HO182 := n12_; have BK147 := n13_; have HB := n14_; clear n0_ n1_ n2_ n3_ n4_ n5_ n6_ n7_ n8_ n9_ n10_ n11_ n12_ n13_ n14_; clear hb ho56; obtain ⟨Ao57, co57, eo57⟩ := Kd.R_slice HO182.out; subst eo57) | ((fail_if_success (have h_ := w58)); go_at_call 37; (with_reducible refine (capstanlaw11_made.calls k 3 _ _ y180 t183 t186 t189 t192 _ ?side1 ?side2 A18.out).mono ?_); (case side1 => repeat (first | exact (Kd.R_reads' HO182.out).2.2 | (with_reducible refine Kd.C_alloc ?_ _) | (with_reducible refine Kd.C_drewN ?_ _) | (with_reducible refine Kd.C_drew ?_))); (case side2 => exact (Kd.R_reads' HO182.out).2.1); rintro e w58 ⟨v184, v187, v190, rfl, ho0, ho1, ho2, hb⟩; have n0_ := Aside0.mk (Kd.R_below (au15) hb); have n1_ := Aside0.mk (Kd.R_mono (Kd.R_told (Kd.R_told (Kd.R_old (au11) hb) (Kd.R_base ho0)) (Kd.R_base ho1)) (fun _ h_ => h_.1)); have n2_ := Aside0.mk (Kd.R_mono (Kd.R_told (Kd.R_told (Kd.R_old (au12) hb) (Kd.R_base ho0)) (Kd.R_base ho1)) (fun _ h_ => h_.1)); have n3_ := Aside0.mk (Kd.S_elder' (au16) (Kd.S_base ho2) hb); have n4_ := Aside0.mk (Kd.R_below (au10) hb); have n5_ := Aside0.mk (Kd.R_below (au13) hb); have n6_ := Aside0.mk (Kd.R_below (au17) hb); have n7_ := Aside0.mk (Kd.R_below (au22) hb); have n8_ := Aside0.mk (Kd.R_below (au23) hb); have n9_ := Aside0.mk (Kd.R_below (au26) hb); have n10_ := Aside0.mk (Kd.R_below (au31) hb); have n11_ := Aside0.mk (Kd.R_below (au39) hb); have n12_ := Aside0.mk (Kd.R_below (au40) hb); have n13_ := Aside0.mk (Kd.R_lower (Kd.R_new' (Kd.R_new' ho0 (Kd.R_lt (au11))) (Kd.R_lt (au12))) (below_size (au3))); have n14_ := Aside0.mk (Kd.R_lower (Kd.R_new' (Kd.R_new' ho1 (Kd.R_lt (au11))) (Kd.R_lt (au12))) (below_size (au3))); have n15_ := Aside0.mk (Kd.S_lower (Kd.S_new' ho2 (Kd.S_lt (au16))) (below_size (au3))); have n16_ := Aside0.mk (blk_below (g := gb147) (o := .cells #[.slice Ao28 t137.length co28, .slice Ao30 t140.length co30, .slice Ao31 t143.length co31, .int .i64 t146] 25 (0, 0)) (au28) hb); have n17_ := Aside0.mk (below_step (au3) hb); clear HO136; clear HO139; clear HO142; clear HO145; clear HO150; clear HO154; clear HO158; clear HO162; clear HO166; clear HO170; clear HO174; clear HO178; clear HO182; clear BK147; clear HB; have HO136 := n0_; have HO139 := n1_; have HO142 := n2_; have HO145 := n3_; have HO150 := n4_; have HO154 := n5_; have HO158 := n6_; have HO162 := n7_; have HO166 := n8_; have HO170 := n9_; have HO174 := n10_; have HO178 := n11_; have HO182 := n12_; have HO185 := n13_; have HO188 := n14_; have HO191 := n15_; have BK147 := n16_; have HB := n17_; clear n0_ n1_ n2_ n3_ n4_ n5_ n6_ n7_ n8_ n9_ n10_ n11_ n12_ n13_ n14_ n15_ n16_ n17_; (try clear hb); (try clear hb2); (try clear hk); (try clear hi); (try clear ho0); (try clear ho1); (try clear ho2); obtain ⟨Ao59, co59, eo59⟩ := Kd.R_slice HO185.out; subst eo59; obtain ⟨Ao60, co60, eo60⟩ := Kd.R_slice HO188.out; subst eo60; obtain ⟨Ao61, co61, eo61⟩ := Kd.S_slice HO191.out; subst eo61) | ((fail_if_success (have h_ := w62)); go_at_call 33; (with_reducible refine (calls_Check.calls k _ _ t183 _ _ t186 _ _ t189 t192 t193 _ ?side1 ?side2 ?side3 ?side4 ?side5 ?side6 A19.out).mono ?_); (case side1 => repeat (first | exact (Kd.R_reads' HO185.out).2.2 | (with_reducible refine Kd.C_alloc ?_ _) | (with_reducible refine Kd.C_drewN ?_ _) | (with_reducible refine Kd.C_drew ?_))); (case side2 => exact (Kd.R_reads' HO185.out).2.1); (case side3 => repeat (first | exact (Kd.R_reads' HO188.out).2.2 | (with_reducible refine Kd.C_alloc ?_ _) | (with_reducible refine Kd.C_drewN ?_ _) | (with_reducible refine Kd.C_drew ?_))); (case side4 => exact (Kd.R_reads' HO188.out).2.1); (case side5 => repeat (first | exact (Kd.S_reads' HO191.out).2.2 | (with_reducible refine Kd.C_alloc ?_ _) | (with_reducible refine Kd.C_drewN ?_ _) | (with_reducible refine Kd.C_drew ?_))); (case side6 => exact (Kd.S_reads' HO191.out).2.1); rintro e w62 ⟨rfl, hb⟩; have n0_ := Aside0.mk (Kd.R_below (au15) hb); have n1_ := Aside0.mk (Kd.R_below (au11) hb); have n2_ := Aside0.mk (Kd.R_below (au12) hb); have n3_ := Aside0.mk (Kd.S_below (au16) hb); have n4_ := Aside0.mk (Kd.R_below (au10) hb); have n5_ := Aside0.mk (Kd.R_below (au13) hb); have n6_ := Aside0.mk (Kd.R_below (au17) hb); have n7_ := Aside0.mk (Kd.R_below (au22) hb); have n8_ := Aside0.mk (Kd.R_below (au23) hb); have n9_ := Aside0.mk (Kd.R_below (au26) hb); have n10_ := Aside0.mk (Kd.R_below (au31) hb); have n11_ := Aside0.mk (Kd.R_below (au39) hb); have n12_ := Aside0.mk (Kd.R_below (au40) hb); have n13_ := Aside0.mk (Kd.R_below (au41) hb); have n14_ := Aside0.mk (Kd.R_below (au42) hb); have n15_ := Aside0.mk (Kd.S_below (au45) hb); have n16_ := Aside0.mk (blk_below (g := gb147) (o := .cells #[.slice Ao28 t137.length co28, .slice Ao30 t140.length co30, .slice Ao31 t143.length co31, .int .i64 t146] 25 (0, 0)) (au28) hb); have n17_ := Aside0.mk (below_step (au3) hb); clear HO136; clear HO139; clear HO142; clear HO145; clear HO150; clear HO154; clear HO158; clear HO162; clear HO166; clear HO170; clear HO174; clear HO178; clear HO182; clear HO185; clear HO188; clear HO191; clear BK147; clear HB; have HO136 := n0_; have HO139 := n1_; have HO142 := n2_; have HO145 := n3_; have HO150 := n4_; have HO154 := n5_; have HO158 := n6_; have HO162 := n7_; have HO166 := n8_; have HO170 := n9_; have HO174 := n10_; have HO178 := n11_; have HO182 := n12_; have HO185 := n13_; have HO188 := n14_; have HO191 := n15_; have BK147 := n16_; have HB := n17_; clear n0_ n1_ n2_ n3_ n4_ n5_ n6_ n7_ n8_ n9_ n10_ n11_ n12_ n13_ n14_ n15_ n16_ n17_; (try clear hb); (try clear hb2); (try clear hk); (try clear hi)) | ((with_reducible refine gate_dst (N := 73) rfl ?_); (try (refine gate_guard (by rfl) ?_; dsimp only)); refine Kd.R_lit (Kd.int .u16) _ 66 ?hg (N := 73) ?hd (xs := ([6, 4, 8] : List Int)) (inner := [.int .u16 6, .int .u16 4, .int .u16 8]) (ok := fun _ => True) (okp := fun _ => True) ?hr ?hp (fun _ hk => hk) trivial (Below.refl _ _) (Nat.le_refl _) (by simp) ?_; (case hd => rfl); (case hg => rfl); (case hr => first | (go_simp; done) | (go_simp; rfl)); (case hp => exact (Reps.one (show Kd.M (Kd.int .u16) _ _ _ 6 [.int .u16 6] from rfl) (Reps.one (show Kd.M (Kd.int .u16) _ _ _ 4 [.int .u16 4] from rfl) (Reps.one (show Kd.M (Kd.int .u16) _ _ _ 8 [.int .u16 8] from rfl) (Reps.none _ _))))); intro v195 w63 ho64 hb hg_ hnew_; clear hg_ hnew_; (first | rw [← Ny194.out] at ho64 | (simp only [Int.reduceToNat] at ho64; rw [← Ny194.out] at ho64)); have n0_ := Aside0.mk (Kd.R_elder' (au15) (Kd.R_base ho64) hb); have n1_ := Aside0.mk (Kd.R_below (au11) hb); have n2_ := Aside0.mk (Kd.R_below (au12) hb); have n3_ := Aside0.mk (Kd.S_below (au16) hb); have n4_ := Aside0.mk (Kd.R_below (au10) hb); have n5_ := Aside0.mk (Kd.R_below (au13) hb); have n6_ := Aside0.mk (Kd.R_below (au17) hb); have n7_ := Aside0.mk (Kd.R_below (au22) hb); have n8_ := Aside0.mk (Kd.R_below (au23) hb); have n9_ := Aside0.mk (Kd.R_below (au26) hb); have n10_ := Aside0.mk (Kd.R_below (au31) hb); have n11_ := Aside0.mk (Kd.R_below (au39) hb); have n12_ := Aside0.mk (Kd.R_elder' (au40) (Kd.R_base ho64) hb); have n13_ := Aside0.mk (Kd.R_below (au41) hb); have n14_ := Aside0.mk (Kd.R_below (au42) hb); have n15_ := Aside0.mk (Kd.S_below (au45) hb); have n16_ := Aside0.mk (Kd.R_lower (Kd.R_new' (Kd.R_new' ho64 (Kd.R_lt (au15))) (Kd.R_lt (au40))) (below_size (au3))); have n17_ := Aside0.mk (blk_below (g := gb147) (o := .cells #[.slice Ao28 t137.length co28, .slice Ao30 t140.length co30, .slice Ao31 t143.length co31, .int .i64 t146] 25 (0, 0)) (au28) hb); have n18_ := Aside0.mk (below_step (au3) hb); clear HO136; clear HO139; clear HO142; clear HO145; clear HO150; clear HO154; clear HO158; clear HO162; clear HO166; clear HO170; clear HO174; clear HO178; clear HO182; clear HO185; clear HO188; clear HO191; clear BK147; clear HB; have HO136 := n0_; have HO139 := n1_; have HO142 := n2_; have HO145 := n3_; have HO150 := n4_; have HO154 := n5_; have HO158 := n6_; have HO162 := n7_; have HO166 := n8_; have HO170 := n9_; have HO174 := n10_; have HO178 := n11_; have HO182 := n12_; have HO185 := n13_; have HO188 := n14_; have HO191 := n15_; have HO196 := n16_; have BK147 := n17_; have HB := n18_; clear n0_ n1_ n2_ n3_ n4_ n5_ n6_ n7_ n8_ n9_ n10_ n11_ n12_ n13_ n14_ n15_ n16_ n17_ n18_; clear hb ho64; obtain ⟨Ao65, co65, eo65⟩ := Kd.R_slice HO196.out; subst eo65) | ((fail_if_success (have h_ := w66)); go_at_call 37; (with_reducible refine (capstanlaw11_made.calls k 3 _ _ y194 t197 t200 t203 t206 _ ?side1 ?side2 A21.out).mono ?_); (case side1 => repeat (first | exact (Kd.R_reads' HO196.out).2.2 | (with_reducible refine Kd.C_alloc ?_ _) | (with_reducible refine Kd.C_drewN ?_ _) | (with_reducible refine Kd.C_drew ?_))); (case side2 => exact (Kd.R_reads' HO196.out).2.1); rintro e w66 ⟨v198, v201, v204, rfl, ho0, ho1, ho2, hb⟩; have n0_ := Aside0.mk (Kd.R_below (au15) hb); have n1_ := Aside0.mk (Kd.R_mono (Kd.R_told (Kd.R_told (Kd.R_old (au11) hb) (Kd.R_base ho0)) (Kd.R_base ho1)) (fun _ h_ => h_.1)); have n2_ := Aside0.mk (Kd.R_mono (Kd.R_told (Kd.R_told (Kd.R_old (au12) hb) (Kd.R_base ho0)) (Kd.R_base ho1)) (fun _ h_ => h_.1)); have n3_ := Aside0.mk (Kd.S_elder' (au16) (Kd.S_base ho2) hb); have n4_ := Aside0.mk (Kd.R_below (au10) hb); have n5_ := Aside0.mk (Kd.R_below (au13) hb); have n6_ := Aside0.mk (Kd.R_below (au17) hb); have n7_ := Aside0.mk (Kd.R_below (au22) hb); have n8_ := Aside0.mk (Kd.R_below (au23) hb); have n9_ := Aside0.mk (Kd.R_below (au26) hb); have n10_ := Aside0.mk (Kd.R_below (au31) hb); have n11_ := Aside0.mk (Kd.R_below (au39) hb); have n12_ := Aside0.mk (Kd.R_below (au40) hb); have n13_ := Aside0.mk (Kd.R_mono (Kd.R_told (Kd.R_told (Kd.R_old (au41) hb) (Kd.R_base ho0)) (Kd.R_base ho1)) (fun _ h_ => h_.1)); have n14_ := Aside0.mk (Kd.R_mono (Kd.R_told (Kd.R_told (Kd.R_old (au42) hb) (Kd.R_base ho0)) (Kd.R_base ho1)) (fun _ h_ => h_.1)); have n15_ := Aside0.mk (Kd.S_elder' (au45) (Kd.S_base ho2) hb); have n16_ := Aside0.mk (Kd.R_below (by (with_reducible repeat (first | apply Kd.R_alloc | apply Kd.R_drewN | apply Kd.R_drew)); first | exact HO196.out | exact Kd.R_mono (HO196.out) (fun _ h_ => h_.2)) hb); have n17_ := Aside0.mk (Kd.R_lower (Kd.R_new' (Kd.R_new' (Kd.R_new' (Kd.R_new' ho0 (Kd.R_lt (au11))) (Kd.R_lt (au12))) (Kd.R_lt (au41))) (Kd.R_lt (au42))) (below_size (au3))); have n18_ := Aside0.mk (Kd.R_lower (Kd.R_new' (Kd.R_new' (Kd.R_new' (Kd.R_new' ho1 (Kd.R_lt (au11))) (Kd.R_lt (au12))) (Kd.R_lt (au41))) (Kd.R_lt (au42))) (below_size (au3))); have n19_ := Aside0.mk (Kd.S_lower (Kd.S_new' (Kd.S_new' ho2 (Kd.S_lt (au16))) (Kd.S_lt (au45))) (below_size (au3))); have n20_ := Aside0.mk (blk_below (g := gb147) (o := .cells #[.slice Ao28 t137.length co28, .slice Ao30 t140.length co30, .slice Ao31 t143.length co31, .int .i64 t146] 25 (0, 0)) (au28) hb); have n21_ := Aside0.mk (below_step (au3) hb); clear HO136; clear HO139; clear HO142; clear HO145; clear HO150; clear HO154; clear HO158; clear HO162; clear HO166; clear HO170; clear HO174; clear HO178; clear HO182; clear HO185; clear HO188; clear HO191; clear HO196; clear BK147; clear HB; have HO136 := n0_; have HO139 := n1_; have HO142 := n2_; have HO145 := n3_; have HO150 := n4_; have HO154 := n5_; have HO158 := n6_; have HO162 := n7_; have HO166 := n8_; have HO170 := n9_; have HO174 := n10_; have HO178 := n11_; have HO182 := n12_; have HO185 := n13_; have HO188 := n14_; have HO191 := n15_; have HO196 := n16_; have HO199 := n17_; have HO202 := n18_; have HO205 := n19_; have BK147 := n20_; have HB := n21_; clear n0_ n1_ n2_ n3_ n4_ n5_ n6_ n7_ n8_ n9_ n10_ n11_ n12_ n13_ n14_ n15_ n16_ n17_ n18_ n19_ n20_ n21_; (try clear hb); (try clear hb2); (try clear hk); (try clear hi); (try clear ho0); (try clear ho1); (try clear ho2); obtain ⟨Ao67, co67, eo67⟩ := Kd.R_slice HO199.out; subst eo67; obtain ⟨Ao68, co68, eo68⟩ := Kd.R_slice HO202.out; subst eo68; obtain ⟨Ao69, co69, eo69⟩ := Kd.S_slice HO205.out; subst eo69) | ((fail_if_success (have h_ := w70)); go_at_call 33; (with_reducible refine (calls_Check.calls k _ _ t197 _ _ t200 _ _ t203 t206 t207 _ ?side1 ?side2 ?side3 ?side4 ?side5 ?side6 A22.out).mono ?_); (case side1 => repeat (first | exact (Kd.R_reads' HO199.out).2.2 | (with_reducible refine Kd.C_alloc ?_ _) | (with_reducible refine Kd.C_drewN ?_ _) | (with_reducible refine Kd.C_drew ?_))); (case side2 => exact (Kd.R_reads' HO199.out).2.1); (case side3 => repeat (first | exact (Kd.R_reads' HO202.out).2.2 | (with_reducible refine Kd.C_alloc ?_ _) | (with_reducible refine Kd.C_drewN ?_ _) | (with_reducible refine Kd.C_drew ?_))); (case side4 => exact (Kd.R_reads' HO202.out).2.1); (case side5 => repeat (first | exact (Kd.S_reads' HO205.out).2.2 | (with_reducible refine Kd.C_alloc ?_ _) | (with_reducible refine Kd.C_drewN ?_ _) | (with_reducible refine Kd.C_drew ?_))); (case side6 => exact (Kd.S_reads' HO205.out).2.1); rintro e w70 ⟨rfl, hb⟩; have n0_ := Aside0.mk (Kd.R_below (au15) hb); have n1_ := Aside0.mk (Kd.R_below (au11) hb); have n2_ := Aside0.mk (Kd.R_below (au12) hb); have n3_ := Aside0.mk (Kd.S_below (au16) hb); have n4_ := Aside0.mk (Kd.R_below (au10) hb); have n5_ := Aside0.mk (Kd.R_below (au13) hb); have n6_ := Aside0.mk (Kd.R_below (au17) hb); have n7_ := Aside0.mk (Kd.R_below (au22) hb); have n8_ := Aside0.mk (Kd.R_below (au23) hb); have n9_ := Aside0.mk (Kd.R_below (au26) hb); have n10_ := Aside0.mk (Kd.R_below (au31) hb); have n11_ := Aside0.mk (Kd.R_below (au39) hb); have n12_ := Aside0.mk (Kd.R_below (au40) hb); have n13_ := Aside0.mk (Kd.R_below (au41) hb); have n14_ := Aside0.mk (Kd.R_below (au42) hb); have n15_ := Aside0.mk (Kd.S_below (au45) hb); have n16_ := Aside0.mk (Kd.R_below (by (with_reducible repeat (first | apply Kd.R_alloc | apply Kd.R_drewN | apply Kd.R_drew)); first | exact HO196.out | exact Kd.R_mono (HO196.out) (fun _ h_ => h_.2)) hb); have n17_ := Aside0.mk (Kd.R_below (by (with_reducible repeat (first | apply Kd.R_alloc | apply Kd.R_drewN | apply Kd.R_drew)); first | exact HO199.out | exact Kd.R_mono (HO199.out) (fun _ h_ => h_.2)) hb); have n18_ := Aside0.mk (Kd.R_below (by (with_reducible repeat (first | apply Kd.R_alloc | apply Kd.R_drewN | apply Kd.R_drew)); first | exact HO202.out | exact Kd.R_mono (HO202.out) (fun _ h_ => h_.2)) hb); have n19_ := Aside0.mk (Kd.S_below (by (with_reducible repeat (first | apply Kd.S_alloc | apply Kd.S_drewN | apply Kd.S_drew)); first | exact HO205.out | exact Kd.S_mono (HO205.out) (fun _ h_ => h_.2)) hb); have n20_ := Aside0.mk (blk_below (g := gb147) (o := .cells #[.slice Ao28 t137.length co28, .slice Ao30 t140.length co30, .slice Ao31 t143.length co31, .int .i64 t146] 25 (0, 0)) (au28) hb); have n21_ := Aside0.mk (below_step (au3) hb); clear HO136; clear HO139; clear HO142; clear HO145; clear HO150; clear HO154; clear HO158; clear HO162; clear HO166; clear HO170; clear HO174; clear HO178; clear HO182; clear HO185; clear HO188; clear HO191; clear HO196; clear HO199; clear HO202; clear HO205; clear BK147; clear HB; have HO136 := n0_; have HO139 := n1_; have HO142 := n2_; have HO145 := n3_; have HO150 := n4_; have HO154 := n5_; have HO158 := n6_; have HO162 := n7_; have HO166 := n8_; have HO170 := n9_; have HO174 := n10_; have HO178 := n11_; have HO182 := n12_; have HO185 := n13_; have HO188 := n14_; have HO191 := n15_; have HO196 := n16_; have HO199 := n17_; have HO202 := n18_; have HO205 := n19_; have BK147 := n20_; have HB := n21_; clear n0_ n1_ n2_ n3_ n4_ n5_ n6_ n7_ n8_ n9_ n10_ n11_ n12_ n13_ n14_ n15_ n16_ n17_ n18_ n19_ n20_ n21_; (try clear hb); (try clear hb2); (try clear hk); (try clear hi)))
          go_ret
          exact ⟨au30, au3⟩
         ·
          rw [if_neg c20] at H
          exact absurd H (by simp)
        ·
         rw [if_neg c17] at H
         exact absurd H (by simp)
       ·
        replace c16 := Bool.eq_false_iff.mpr c16
        subst c16
        have H1 : (none) = some r := by rw [if_neg (show ¬ (false = true) by decide)] at H; exact H
        clear H
        have H := H1
        clear H1
        exact absurd H (by simp)
      ·
       rw [if_neg c14] at H
       exact absurd H (by simp)
     ·
      replace c13 := Bool.eq_false_iff.mpr c13
      subst c13
      have H1 : (none) = some r := by rw [if_neg (show ¬ (false = true) by decide)] at H; exact H
      clear H
      have H := H1
      clear H1
      exact absurd H (by simp)
    ·
     rw [if_neg c11] at H
     exact absurd H (by simp)
   ·
    replace c10 := Bool.eq_false_iff.mpr c10
    subst c10
    have H1 : (none) = some r := by rw [if_neg (show ¬ (false = true) by decide)] at H; exact H
    clear H
    have H := H1
    clear H1
    exact absurd H (by simp)
  ·
   rw [if_neg c8] at H
   exact absurd H (by simp)
 ·
  replace c7 := Bool.eq_false_iff.mpr c7
  subst c7
  have H1 : (none) = some r := by rw [if_neg (show ¬ (false = true) by decide)] at H; exact H
  clear H
  have H := H1
  clear H1
  exact absurd H (by simp)

end Go.Proofs.Ytkmnachdibhdhaa.Q
