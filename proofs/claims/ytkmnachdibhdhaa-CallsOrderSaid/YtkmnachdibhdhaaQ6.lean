/- Contracts of the functions of this seat (each: the call of the function does what the plain Lean function of the same name tells; the conditions stand in each statement). Written by a program of this session and by hand; checked by Lean. -/
import Derived.Test.YtkmnachdibhdhaaQ0
import Derived.Test.YtkmnachdibhdhaaQ1
import Derived.Test.YtkmnachdibhdhaaQ2
import Derived.Test.YtkmnachdibhdhaaQ3
import Derived.Test.YtkmnachdibhdhaaQ5
namespace Go.Proofs.Ytkmnachdibhdhaa.Q
open Go.RowKit Go.Proofs.YtkmnachdibhdhaaW.PrintWords Go.Proofs.YtkmnachdibhdhaaW.PrintLast Go.Proofs.YtkmnachdibhdhaaW.PrintMore
attribute [local go_sem] max2_int min2_int max_two min_two max_three min_three max_four min_four   -- for this text's walks alone
set_option linter.unusedVariables false
set_option linter.unusedSimpArgs false

/-! An array of one's own: its block, told as a row. -/
section
variable {P : Program} {ops : Array Oper} {rest : List Oper} {o : Oper} {a : Act} {Q : Exit → Act → World → Prop}
theorem Kd.R_array {α : Type} (enc : α → Value) {h1 : ∀ x, (enc x).oneCell' = true} {w0 W : World} (base T n : Nat) (z0 : α) (hgd : o.guard = none) {N : Tmp} (_hd : o.dst = some N) {ok : Nat → Prop}
    (hrun : (execOp a.eval o).run P W = .ok (.value (.pointer (some ⟨W.heap.size, 0, none⟩))) (W.alloc (.cells (List.replicate n (enc z0)).toArray T)))
    (hfresh : ok W.heap.size) (HB : Below base w0 W) (hbase : base ≤ W.heap.size) (hm : n ≤ 1000000)
    (h : ∀ g w1, (Kd.scalar enc h1).R T w1 base ok (.slice (some ⟨g, 0, none⟩) n n) (List.replicate n z0) → Below base w0 w1 → W.grownBy w1 none → base ≤ g → wpList P ops Q rest (a.put o.dst (.pointer (some ⟨g, 0, none⟩))) w1) : wpList P ops Q (o :: rest) a W := by
  refine Kd.event_run hgd hrun (h _ _ (Kd.R_of_own ?_ fun k hk => ?_) (HB.alloc hbase _) (World.grownBy_alloc W _ none) hbase)
  · have h2 := World.ownsRow_lit (base := base) (e := T) (size := 1) W (List.replicate n (enc z0)).toArray n hbase (by unfold maxLen; omega) (by simp)
    have e1 : encs enc (List.replicate n z0) = List.replicate n (enc z0) := by simp [encs]
    rw [e1, List.length_replicate]
    simpa using h2
  · have : W.heap.size = k := by simpa [Value.ownBlock] using hk
    subst this
    exact hfresh
end
theorem Kd.R_readsN {α : Type} {d : Kd α} {e base n c : Nat} {ok : Nat → Prop} {w : World} {A : Option Addr} {xs : List α} (h : d.R e w base ok (.slice A n c) xs) : d.C w A n xs := by
  obtain ⟨h1, _, h3⟩ := Kd.R_reads' h
  rw [h1]
  exact h3
theorem Kd.R_formN {α : Type} {d : Kd α} {e base g n c : Nat} {ok : Nat → Prop} {w : World} {xs : List α} (h : d.R e w base ok (.slice (some ⟨g, 0, none⟩) n c) xs) (hn : 0 < n) : base ≤ g ∧ ∃ cells, w.heap[g]? = some (.cells cells e (0, 0)) := by
  obtain ⟨h1, _, _⟩ := Kd.R_reads' h
  obtain ⟨g2, cap, he, hb, _, hc⟩ := Kd.R_form h (by omega)
  injection he with ha _ _
  injection ha with ha
  injection ha with ha
  subst ha
  exact ⟨hb, hc⟩
/-! ### capstanlaw11_CallsOrder: function 6 -/
mutual
def capstanlaw11_CallsOrder.l0 : Nat → List Int → List Int → List Bool → Bool → Int → List (S86) → List (S86) → List (S52) → Int → Option (Bool)
 | 0, _, _, _, _, _, _, _, _, _ => none
 | k + 1, x3, x5, x6, x7, x8, x209000, x209001, x209002, x209003 => if x8 < (x3.length : Int) then (if 0 ≤ x8 then (if (rd x3 x8) < 0 then (none) else (if (rd x3 x8) ≥ (x3.length : Int) then (none) else (if 0 ≤ (rd x3 x8) then (if (rd x3 x8) < 40 then (capstanlaw11_CallsOrder.j1 k x3 x5 x6 x7 x8 (rdOf false x6 (rd x3 x8)) x209000 x209001 x209002 x209003) else (none)) else (none)))) else (none)) else (capstanlaw11_CallsOrder.l1 k x3 x5 x7 0 x209000 x209001 x209002 x209003)
def capstanlaw11_CallsOrder.j1 : Nat → List Int → List Int → List Bool → Bool → Int → Bool → List (S86) → List (S86) → List (S52) → Int → Option (Bool)
 | 0, _, _, _, _, _, _, _, _, _, _ => none
 | k + 1, x3, x5, x6, x7, x8, x69, x209000, x209001, x209002, x209003 => if x69 = true then (none) else (if 0 ≤ x8 then (if x8 < (x3.length : Int) then (if 0 ≤ (rd x3 x8) then (if (rd x3 x8) < 40 then ((some (x6.set ((rd x3 x8) : Int).toNat true : List Bool)).bind fun y226 => ((some (x5.set ((rd x3 x8) : Int).toNat x8 : List Int)).bind fun y228 => ((calls_Whom.f x209000 x209001 x209002 x209003 x8).bind fun bt229 => (if x7 = true then (if bt229.2 = 0 then (capstanlaw11_CallsOrder.l0 k x3 y228 y226 ((bt229.1.length : Int) == 0) (wrap64 (x8 + 1)) x209000 x209001 x209002 x209003) else (none)) else (if bt229.2 = 0 then (capstanlaw11_CallsOrder.l0 k x3 y228 y226 false (wrap64 (x8 + 1)) x209000 x209001 x209002 x209003) else (none)))))) else (none)) else (none)) else (none)) else (none))
def capstanlaw11_CallsOrder.l1 : Nat → List Int → List Int → Bool → Int → List (S86) → List (S86) → List (S52) → Int → Option (Bool)
 | 0, _, _, _, _, _, _, _, _ => none
 | k + 1, x3, x5, x7, x11, x209000, x209001, x209002, x209003 => if x11 < (x3.length : Int) then ((calls_Leads.f k x209000 x209001 x209002 x209003 x11).bind fun bt233 => (if bt233.2 = 0 then (if x7 = true then (if 0 ≤ x11 then (if (rd x3 x11) = x11 then (capstanlaw11_CallsOrder.j3 k x3 x5 x7 x11 bt233.1 (decide ((bt233.1.length : Int) > 0)) x209000 x209001 x209002 x209003) else (none)) else (none)) else (capstanlaw11_CallsOrder.j3 k x3 x5 x7 x11 bt233.1 false x209000 x209001 x209002 x209003)) else (none))) else (some true)
def capstanlaw11_CallsOrder.j3 : Nat → List Int → List Int → Bool → Int → List Int → Bool → List (S86) → List (S86) → List (S52) → Int → Option (Bool)
 | 0, _, _, _, _, _, _, _, _, _, _ => none
 | k + 1, x3, x5, x7, x11, x12, x124, x209000, x209001, x209002, x209003 => if x124 = true then (none) else (capstanlaw11_CallsOrder.l2 k x3 x5 x7 x11 x12 (List.replicate 40 false) 0 x209000 x209001 x209002 x209003)
def capstanlaw11_CallsOrder.l2 : Nat → List Int → List Int → Bool → Int → List Int → List Bool → Int → List (S86) → List (S86) → List (S52) → Int → Option (Bool)
 | 0, _, _, _, _, _, _, _, _, _, _, _ => none
 | k + 1, x3, x5, x7, x11, x12, x14, x15, x209000, x209001, x209002, x209003 => if x15 < (x12.length : Int) then (if 0 ≤ x15 then (if (rd x12 x15) < 0 then (none) else (if (rd x12 x15) ≥ (x3.length : Int) then (none) else (if (rd x12 x15) = x11 then (none) else (if 0 ≤ (rd x12 x15) then (if (rd x12 x15) < 40 then (if 0 ≤ x11 then (if x11 < 40 then (if (rd x5 (rd x12 x15)) ≥ (rd x5 x11) then (none) else (if x15 > 0 then (if 0 ≤ (wrap64 (x15 - 1)) then (if (wrap64 (x15 - 1)) < (x12.length : Int) then (if (rd x12 x15) ≤ (rd x12 (wrap64 (x15 - 1))) then (none) else (capstanlaw11_CallsOrder.l2 k x3 x5 x7 x11 x12 (x14.set ((rd x12 x15) : Int).toNat true) (wrap64 (x15 + 1)) x209000 x209001 x209002 x209003)) else (none)) else (none)) else (capstanlaw11_CallsOrder.l2 k x3 x5 x7 x11 x12 (x14.set ((rd x12 x15) : Int).toNat true) (wrap64 (x15 + 1)) x209000 x209001 x209002 x209003))) else (none)) else (none)) else (none)) else (none))))) else (none)) else ((calls_Whom.f x209000 x209001 x209002 x209003 x11).bind fun bt253 => (capstanlaw11_CallsOrder.l3 k x3 x5 x7 x11 x14 bt253.1 0 x209000 x209001 x209002 x209003))
def capstanlaw11_CallsOrder.l3 : Nat → List Int → List Int → Bool → Int → List Bool → List Int → Int → List (S86) → List (S86) → List (S52) → Int → Option (Bool)
 | 0, _, _, _, _, _, _, _, _, _, _, _ => none
 | k + 1, x3, x5, x7, x11, x14, x16, x18, x209000, x209001, x209002, x209003 => if x18 < (x16.length : Int) then (if 0 ≤ x18 then ((calls_Leads.f k x209000 x209001 x209002 x209003 (rd x16 x18)).bind fun bt258 => (if (rd x16 x18) < 0 then (none) else (if (rd x16 x18) ≥ (x3.length : Int) then (none) else (if 0 ≤ (rd x16 x18) then (if (rd x16 x18) < 40 then (if (rdOf false x14 (rd x16 x18) = true) then (capstanlaw11_CallsOrder.j6 k x3 x5 x7 x11 x14 x16 x18 bt258.1 (bt258.2 != 0) x209000 x209001 x209002 x209003) else (none)) else (none)) else (none))))) else (none)) else (capstanlaw11_CallsOrder.l1 k x3 x5 x7 (wrap64 (x11 + 1)) x209000 x209001 x209002 x209003)
def capstanlaw11_CallsOrder.j6 : Nat → List Int → List Int → Bool → Int → List Bool → List Int → Int → List Int → Bool → List (S86) → List (S86) → List (S52) → Int → Option (Bool)
 | 0, _, _, _, _, _, _, _, _, _, _, _, _, _ => none
 | k + 1, x3, x5, x7, x11, x14, x16, x18, x19, x233, x209000, x209001, x209002, x209003 => if x233 = true then (none) else (capstanlaw11_CallsOrder.l4 k x3 x5 x7 x11 x14 x16 x18 x19 0 x209000 x209001 x209002 x209003)
def capstanlaw11_CallsOrder.l4 : Nat → List Int → List Int → Bool → Int → List Bool → List Int → Int → List Int → Int → List (S86) → List (S86) → List (S52) → Int → Option (Bool)
 | 0, _, _, _, _, _, _, _, _, _, _, _, _, _ => none
 | k + 1, x3, x5, x7, x11, x14, x16, x18, x19, x21, x209000, x209001, x209002, x209003 => if x21 < (x19.length : Int) then (if 0 ≤ x21 then (if (rd x19 x21) < 0 then (none) else (if (rd x19 x21) ≥ (x3.length : Int) then (none) else (if 0 ≤ (rd x19 x21) then (if (rd x19 x21) < 40 then (if (rdOf false x14 (rd x19 x21) = true) then (capstanlaw11_CallsOrder.l4 k x3 x5 x7 x11 x14 x16 x18 x19 (wrap64 (x21 + 1)) x209000 x209001 x209002 x209003) else (none)) else (none)) else (none)))) else (none)) else (capstanlaw11_CallsOrder.l3 k x3 x5 x7 x11 x14 x16 (wrap64 (x18 + 1)) x209000 x209001 x209002 x209003)
end
def capstanlaw11_CallsOrder.f (k : Nat) (l0_0 : List (S86)) (l0_1 : List (S86)) (l0_2 : List (S52)) (a0_3 : Int) : Option (Bool) := (capstanlaw11_awake.f k).bind fun t209 => (if t209 = true then ((capstanlaw08_Great.f k l0_0 l0_1 l0_2 a0_3).bind fun t210 => (if t210 = true then (some true) else ((calls_Order.f k l0_0 l0_1 l0_2 a0_3).bind fun bt211 => (if bt211.2 = 0 then (if (bt211.1.length : Int) = (l0_2.length : Int) then (capstanlaw11_CallsOrder.l0 k bt211.1 (List.replicate 40 0) (List.replicate 40 false) true 0 l0_0 l0_1 l0_2 a0_3) else (none)) else (some ((bt211.1.length : Int) == 0)))))) else (none))
theorem capstanlaw11_CallsOrder.mono_l : ∀ k, (∀ y0 y1 y2 y3 y4 y5 y6 y7 y8, LeO (capstanlaw11_CallsOrder.l0 k y0 y1 y2 y3 y4 y5 y6 y7 y8) (capstanlaw11_CallsOrder.l0 (k + 1) y0 y1 y2 y3 y4 y5 y6 y7 y8)) ∧ (∀ y0 y1 y2 y3 y4 y5 y6 y7 y8 y9, LeO (capstanlaw11_CallsOrder.j1 k y0 y1 y2 y3 y4 y5 y6 y7 y8 y9) (capstanlaw11_CallsOrder.j1 (k + 1) y0 y1 y2 y3 y4 y5 y6 y7 y8 y9)) ∧ (∀ y0 y1 y2 y3 y4 y5 y6 y7, LeO (capstanlaw11_CallsOrder.l1 k y0 y1 y2 y3 y4 y5 y6 y7) (capstanlaw11_CallsOrder.l1 (k + 1) y0 y1 y2 y3 y4 y5 y6 y7)) ∧ (∀ y0 y1 y2 y3 y4 y5 y6 y7 y8 y9, LeO (capstanlaw11_CallsOrder.j3 k y0 y1 y2 y3 y4 y5 y6 y7 y8 y9) (capstanlaw11_CallsOrder.j3 (k + 1) y0 y1 y2 y3 y4 y5 y6 y7 y8 y9)) ∧ (∀ y0 y1 y2 y3 y4 y5 y6 y7 y8 y9 y10, LeO (capstanlaw11_CallsOrder.l2 k y0 y1 y2 y3 y4 y5 y6 y7 y8 y9 y10) (capstanlaw11_CallsOrder.l2 (k + 1) y0 y1 y2 y3 y4 y5 y6 y7 y8 y9 y10)) ∧ (∀ y0 y1 y2 y3 y4 y5 y6 y7 y8 y9 y10, LeO (capstanlaw11_CallsOrder.l3 k y0 y1 y2 y3 y4 y5 y6 y7 y8 y9 y10) (capstanlaw11_CallsOrder.l3 (k + 1) y0 y1 y2 y3 y4 y5 y6 y7 y8 y9 y10)) ∧ (∀ y0 y1 y2 y3 y4 y5 y6 y7 y8 y9 y10 y11 y12, LeO (capstanlaw11_CallsOrder.j6 k y0 y1 y2 y3 y4 y5 y6 y7 y8 y9 y10 y11 y12) (capstanlaw11_CallsOrder.j6 (k + 1) y0 y1 y2 y3 y4 y5 y6 y7 y8 y9 y10 y11 y12)) ∧ (∀ y0 y1 y2 y3 y4 y5 y6 y7 y8 y9 y10 y11 y12, LeO (capstanlaw11_CallsOrder.l4 k y0 y1 y2 y3 y4 y5 y6 y7 y8 y9 y10 y11 y12) (capstanlaw11_CallsOrder.l4 (k + 1) y0 y1 y2 y3 y4 y5 y6 y7 y8 y9 y10 y11 y12))
 | 0 => ⟨fun _ _ _ _ _ _ _ _ _ r h => by simp [capstanlaw11_CallsOrder.l0] at h, fun _ _ _ _ _ _ _ _ _ _ r h => by simp [capstanlaw11_CallsOrder.j1] at h, fun _ _ _ _ _ _ _ _ r h => by simp [capstanlaw11_CallsOrder.l1] at h, fun _ _ _ _ _ _ _ _ _ _ r h => by simp [capstanlaw11_CallsOrder.j3] at h, fun _ _ _ _ _ _ _ _ _ _ _ r h => by simp [capstanlaw11_CallsOrder.l2] at h, fun _ _ _ _ _ _ _ _ _ _ _ r h => by simp [capstanlaw11_CallsOrder.l3] at h, fun _ _ _ _ _ _ _ _ _ _ _ _ _ r h => by simp [capstanlaw11_CallsOrder.j6] at h, fun _ _ _ _ _ _ _ _ _ _ _ _ _ r h => by simp [capstanlaw11_CallsOrder.l4] at h⟩
 | k + 1 => by
  obtain ⟨ih0, ih1, ih2, ih3, ih4, ih5, ih6, ih7⟩ := capstanlaw11_CallsOrder.mono_l k
  refine ⟨?_, ?_, ?_, ?_, ?_, ?_, ?_, ?_⟩
  ·
   intro y0 y1 y2 y3 y4 y5 y6 y7 y8
   unfold capstanlaw11_CallsOrder.l0
   repeat' first
   | (with_reducible exact ih0 _ _ _ _ _ _ _ _ _)
   | (with_reducible exact ih1 _ _ _ _ _ _ _ _ _ _)
   | (with_reducible exact ih2 _ _ _ _ _ _ _ _)
   | (with_reducible exact ih3 _ _ _ _ _ _ _ _ _ _)
   | (with_reducible exact ih4 _ _ _ _ _ _ _ _ _ _ _)
   | (with_reducible exact ih5 _ _ _ _ _ _ _ _ _ _ _)
   | (with_reducible exact ih6 _ _ _ _ _ _ _ _ _ _ _ _ _)
   | (with_reducible exact ih7 _ _ _ _ _ _ _ _ _ _ _ _ _)
   | (with_reducible exact calls_Leads.mono _ _ _ _ _ _)
   | (with_reducible exact calls_Order.mono _ _ _ _ _)
   | (with_reducible exact capstanlaw08_Great.mono _ _ _ _ _)
   | (with_reducible exact capstanlaw11_awake.mono _)
   | (with_reducible exact LeO.refl _)
   | (with_reducible exact LeO.none _)
   | (with_reducible refine LeO.ite ?_ ?_)
   | (with_reducible refine LeO.bind ?_ (fun _ => ?_))
   | exact ih0 _ _ _ _ _ _ _ _ _
   | exact ih1 _ _ _ _ _ _ _ _ _ _
   | exact ih2 _ _ _ _ _ _ _ _
   | exact ih3 _ _ _ _ _ _ _ _ _ _
   | exact ih4 _ _ _ _ _ _ _ _ _ _ _
   | exact ih5 _ _ _ _ _ _ _ _ _ _ _
   | exact ih6 _ _ _ _ _ _ _ _ _ _ _ _ _
   | exact ih7 _ _ _ _ _ _ _ _ _ _ _ _ _
   | exact calls_Leads.mono _ _ _ _ _ _
   | exact calls_Order.mono _ _ _ _ _
   | exact capstanlaw08_Great.mono _ _ _ _ _
   | exact capstanlaw11_awake.mono _
   | exact LeO.none _
   | refine LeO.ite ?_ ?_
   | refine LeO.bind ?_ (fun _ => ?_)
  ·
   intro y0 y1 y2 y3 y4 y5 y6 y7 y8 y9
   unfold capstanlaw11_CallsOrder.j1
   repeat' first
   | (with_reducible exact ih0 _ _ _ _ _ _ _ _ _)
   | (with_reducible exact ih1 _ _ _ _ _ _ _ _ _ _)
   | (with_reducible exact ih2 _ _ _ _ _ _ _ _)
   | (with_reducible exact ih3 _ _ _ _ _ _ _ _ _ _)
   | (with_reducible exact ih4 _ _ _ _ _ _ _ _ _ _ _)
   | (with_reducible exact ih5 _ _ _ _ _ _ _ _ _ _ _)
   | (with_reducible exact ih6 _ _ _ _ _ _ _ _ _ _ _ _ _)
   | (with_reducible exact ih7 _ _ _ _ _ _ _ _ _ _ _ _ _)
   | (with_reducible exact calls_Leads.mono _ _ _ _ _ _)
   | (with_reducible exact calls_Order.mono _ _ _ _ _)
   | (with_reducible exact capstanlaw08_Great.mono _ _ _ _ _)
   | (with_reducible exact capstanlaw11_awake.mono _)
   | (with_reducible exact LeO.refl _)
   | (with_reducible exact LeO.none _)
   | (with_reducible refine LeO.ite ?_ ?_)
   | (with_reducible refine LeO.bind ?_ (fun _ => ?_))
   | exact ih0 _ _ _ _ _ _ _ _ _
   | exact ih1 _ _ _ _ _ _ _ _ _ _
   | exact ih2 _ _ _ _ _ _ _ _
   | exact ih3 _ _ _ _ _ _ _ _ _ _
   | exact ih4 _ _ _ _ _ _ _ _ _ _ _
   | exact ih5 _ _ _ _ _ _ _ _ _ _ _
   | exact ih6 _ _ _ _ _ _ _ _ _ _ _ _ _
   | exact ih7 _ _ _ _ _ _ _ _ _ _ _ _ _
   | exact calls_Leads.mono _ _ _ _ _ _
   | exact calls_Order.mono _ _ _ _ _
   | exact capstanlaw08_Great.mono _ _ _ _ _
   | exact capstanlaw11_awake.mono _
   | exact LeO.none _
   | refine LeO.ite ?_ ?_
   | refine LeO.bind ?_ (fun _ => ?_)
  ·
   intro y0 y1 y2 y3 y4 y5 y6 y7
   unfold capstanlaw11_CallsOrder.l1
   repeat' first
   | (with_reducible exact ih0 _ _ _ _ _ _ _ _ _)
   | (with_reducible exact ih1 _ _ _ _ _ _ _ _ _ _)
   | (with_reducible exact ih2 _ _ _ _ _ _ _ _)
   | (with_reducible exact ih3 _ _ _ _ _ _ _ _ _ _)
   | (with_reducible exact ih4 _ _ _ _ _ _ _ _ _ _ _)
   | (with_reducible exact ih5 _ _ _ _ _ _ _ _ _ _ _)
   | (with_reducible exact ih6 _ _ _ _ _ _ _ _ _ _ _ _ _)
   | (with_reducible exact ih7 _ _ _ _ _ _ _ _ _ _ _ _ _)
   | (with_reducible exact calls_Leads.mono _ _ _ _ _ _)
   | (with_reducible exact calls_Order.mono _ _ _ _ _)
   | (with_reducible exact capstanlaw08_Great.mono _ _ _ _ _)
   | (with_reducible exact capstanlaw11_awake.mono _)
   | (with_reducible exact LeO.refl _)
   | (with_reducible exact LeO.none _)
   | (with_reducible refine LeO.ite ?_ ?_)
   | (with_reducible refine LeO.bind ?_ (fun _ => ?_))
   | exact ih0 _ _ _ _ _ _ _ _ _
   | exact ih1 _ _ _ _ _ _ _ _ _ _
   | exact ih2 _ _ _ _ _ _ _ _
   | exact ih3 _ _ _ _ _ _ _ _ _ _
   | exact ih4 _ _ _ _ _ _ _ _ _ _ _
   | exact ih5 _ _ _ _ _ _ _ _ _ _ _
   | exact ih6 _ _ _ _ _ _ _ _ _ _ _ _ _
   | exact ih7 _ _ _ _ _ _ _ _ _ _ _ _ _
   | exact calls_Leads.mono _ _ _ _ _ _
   | exact calls_Order.mono _ _ _ _ _
   | exact capstanlaw08_Great.mono _ _ _ _ _
   | exact capstanlaw11_awake.mono _
   | exact LeO.none _
   | refine LeO.ite ?_ ?_
   | refine LeO.bind ?_ (fun _ => ?_)
  ·
   intro y0 y1 y2 y3 y4 y5 y6 y7 y8 y9
   unfold capstanlaw11_CallsOrder.j3
   repeat' first
   | (with_reducible exact ih0 _ _ _ _ _ _ _ _ _)
   | (with_reducible exact ih1 _ _ _ _ _ _ _ _ _ _)
   | (with_reducible exact ih2 _ _ _ _ _ _ _ _)
   | (with_reducible exact ih3 _ _ _ _ _ _ _ _ _ _)
   | (with_reducible exact ih4 _ _ _ _ _ _ _ _ _ _ _)
   | (with_reducible exact ih5 _ _ _ _ _ _ _ _ _ _ _)
   | (with_reducible exact ih6 _ _ _ _ _ _ _ _ _ _ _ _ _)
   | (with_reducible exact ih7 _ _ _ _ _ _ _ _ _ _ _ _ _)
   | (with_reducible exact calls_Leads.mono _ _ _ _ _ _)
   | (with_reducible exact calls_Order.mono _ _ _ _ _)
   | (with_reducible exact capstanlaw08_Great.mono _ _ _ _ _)
   | (with_reducible exact capstanlaw11_awake.mono _)
   | (with_reducible exact LeO.refl _)
   | (with_reducible exact LeO.none _)
   | (with_reducible refine LeO.ite ?_ ?_)
   | (with_reducible refine LeO.bind ?_ (fun _ => ?_))
   | exact ih0 _ _ _ _ _ _ _ _ _
   | exact ih1 _ _ _ _ _ _ _ _ _ _
   | exact ih2 _ _ _ _ _ _ _ _
   | exact ih3 _ _ _ _ _ _ _ _ _ _
   | exact ih4 _ _ _ _ _ _ _ _ _ _ _
   | exact ih5 _ _ _ _ _ _ _ _ _ _ _
   | exact ih6 _ _ _ _ _ _ _ _ _ _ _ _ _
   | exact ih7 _ _ _ _ _ _ _ _ _ _ _ _ _
   | exact calls_Leads.mono _ _ _ _ _ _
   | exact calls_Order.mono _ _ _ _ _
   | exact capstanlaw08_Great.mono _ _ _ _ _
   | exact capstanlaw11_awake.mono _
   | exact LeO.none _
   | refine LeO.ite ?_ ?_
   | refine LeO.bind ?_ (fun _ => ?_)
  ·
   intro y0 y1 y2 y3 y4 y5 y6 y7 y8 y9 y10
   unfold capstanlaw11_CallsOrder.l2
   repeat' first
   | (with_reducible exact ih0 _ _ _ _ _ _ _ _ _)
   | (with_reducible exact ih1 _ _ _ _ _ _ _ _ _ _)
   | (with_reducible exact ih2 _ _ _ _ _ _ _ _)
   | (with_reducible exact ih3 _ _ _ _ _ _ _ _ _ _)
   | (with_reducible exact ih4 _ _ _ _ _ _ _ _ _ _ _)
   | (with_reducible exact ih5 _ _ _ _ _ _ _ _ _ _ _)
   | (with_reducible exact ih6 _ _ _ _ _ _ _ _ _ _ _ _ _)
   | (with_reducible exact ih7 _ _ _ _ _ _ _ _ _ _ _ _ _)
   | (with_reducible exact calls_Leads.mono _ _ _ _ _ _)
   | (with_reducible exact calls_Order.mono _ _ _ _ _)
   | (with_reducible exact capstanlaw08_Great.mono _ _ _ _ _)
   | (with_reducible exact capstanlaw11_awake.mono _)
   | (with_reducible exact LeO.refl _)
   | (with_reducible exact LeO.none _)
   | (with_reducible refine LeO.ite ?_ ?_)
   | (with_reducible refine LeO.bind ?_ (fun _ => ?_))
   | exact ih0 _ _ _ _ _ _ _ _ _
   | exact ih1 _ _ _ _ _ _ _ _ _ _
   | exact ih2 _ _ _ _ _ _ _ _
   | exact ih3 _ _ _ _ _ _ _ _ _ _
   | exact ih4 _ _ _ _ _ _ _ _ _ _ _
   | exact ih5 _ _ _ _ _ _ _ _ _ _ _
   | exact ih6 _ _ _ _ _ _ _ _ _ _ _ _ _
   | exact ih7 _ _ _ _ _ _ _ _ _ _ _ _ _
   | exact calls_Leads.mono _ _ _ _ _ _
   | exact calls_Order.mono _ _ _ _ _
   | exact capstanlaw08_Great.mono _ _ _ _ _
   | exact capstanlaw11_awake.mono _
   | exact LeO.none _
   | refine LeO.ite ?_ ?_
   | refine LeO.bind ?_ (fun _ => ?_)
  ·
   intro y0 y1 y2 y3 y4 y5 y6 y7 y8 y9 y10
   unfold capstanlaw11_CallsOrder.l3
   repeat' first
   | (with_reducible exact ih0 _ _ _ _ _ _ _ _ _)
   | (with_reducible exact ih1 _ _ _ _ _ _ _ _ _ _)
   | (with_reducible exact ih2 _ _ _ _ _ _ _ _)
   | (with_reducible exact ih3 _ _ _ _ _ _ _ _ _ _)
   | (with_reducible exact ih4 _ _ _ _ _ _ _ _ _ _ _)
   | (with_reducible exact ih5 _ _ _ _ _ _ _ _ _ _ _)
   | (with_reducible exact ih6 _ _ _ _ _ _ _ _ _ _ _ _ _)
   | (with_reducible exact ih7 _ _ _ _ _ _ _ _ _ _ _ _ _)
   | (with_reducible exact calls_Leads.mono _ _ _ _ _ _)
   | (with_reducible exact calls_Order.mono _ _ _ _ _)
   | (with_reducible exact capstanlaw08_Great.mono _ _ _ _ _)
   | (with_reducible exact capstanlaw11_awake.mono _)
   | (with_reducible exact LeO.refl _)
   | (with_reducible exact LeO.none _)
   | (with_reducible refine LeO.ite ?_ ?_)
   | (with_reducible refine LeO.bind ?_ (fun _ => ?_))
   | exact ih0 _ _ _ _ _ _ _ _ _
   | exact ih1 _ _ _ _ _ _ _ _ _ _
   | exact ih2 _ _ _ _ _ _ _ _
   | exact ih3 _ _ _ _ _ _ _ _ _ _
   | exact ih4 _ _ _ _ _ _ _ _ _ _ _
   | exact ih5 _ _ _ _ _ _ _ _ _ _ _
   | exact ih6 _ _ _ _ _ _ _ _ _ _ _ _ _
   | exact ih7 _ _ _ _ _ _ _ _ _ _ _ _ _
   | exact calls_Leads.mono _ _ _ _ _ _
   | exact calls_Order.mono _ _ _ _ _
   | exact capstanlaw08_Great.mono _ _ _ _ _
   | exact capstanlaw11_awake.mono _
   | exact LeO.none _
   | refine LeO.ite ?_ ?_
   | refine LeO.bind ?_ (fun _ => ?_)
  ·
   intro y0 y1 y2 y3 y4 y5 y6 y7 y8 y9 y10 y11 y12
   unfold capstanlaw11_CallsOrder.j6
   repeat' first
   | (with_reducible exact ih0 _ _ _ _ _ _ _ _ _)
   | (with_reducible exact ih1 _ _ _ _ _ _ _ _ _ _)
   | (with_reducible exact ih2 _ _ _ _ _ _ _ _)
   | (with_reducible exact ih3 _ _ _ _ _ _ _ _ _ _)
   | (with_reducible exact ih4 _ _ _ _ _ _ _ _ _ _ _)
   | (with_reducible exact ih5 _ _ _ _ _ _ _ _ _ _ _)
   | (with_reducible exact ih6 _ _ _ _ _ _ _ _ _ _ _ _ _)
   | (with_reducible exact ih7 _ _ _ _ _ _ _ _ _ _ _ _ _)
   | (with_reducible exact calls_Leads.mono _ _ _ _ _ _)
   | (with_reducible exact calls_Order.mono _ _ _ _ _)
   | (with_reducible exact capstanlaw08_Great.mono _ _ _ _ _)
   | (with_reducible exact capstanlaw11_awake.mono _)
   | (with_reducible exact LeO.refl _)
   | (with_reducible exact LeO.none _)
   | (with_reducible refine LeO.ite ?_ ?_)
   | (with_reducible refine LeO.bind ?_ (fun _ => ?_))
   | exact ih0 _ _ _ _ _ _ _ _ _
   | exact ih1 _ _ _ _ _ _ _ _ _ _
   | exact ih2 _ _ _ _ _ _ _ _
   | exact ih3 _ _ _ _ _ _ _ _ _ _
   | exact ih4 _ _ _ _ _ _ _ _ _ _ _
   | exact ih5 _ _ _ _ _ _ _ _ _ _ _
   | exact ih6 _ _ _ _ _ _ _ _ _ _ _ _ _
   | exact ih7 _ _ _ _ _ _ _ _ _ _ _ _ _
   | exact calls_Leads.mono _ _ _ _ _ _
   | exact calls_Order.mono _ _ _ _ _
   | exact capstanlaw08_Great.mono _ _ _ _ _
   | exact capstanlaw11_awake.mono _
   | exact LeO.none _
   | refine LeO.ite ?_ ?_
   | refine LeO.bind ?_ (fun _ => ?_)
  ·
   intro y0 y1 y2 y3 y4 y5 y6 y7 y8 y9 y10 y11 y12
   unfold capstanlaw11_CallsOrder.l4
   repeat' first
   | (with_reducible exact ih0 _ _ _ _ _ _ _ _ _)
   | (with_reducible exact ih1 _ _ _ _ _ _ _ _ _ _)
   | (with_reducible exact ih2 _ _ _ _ _ _ _ _)
   | (with_reducible exact ih3 _ _ _ _ _ _ _ _ _ _)
   | (with_reducible exact ih4 _ _ _ _ _ _ _ _ _ _ _)
   | (with_reducible exact ih5 _ _ _ _ _ _ _ _ _ _ _)
   | (with_reducible exact ih6 _ _ _ _ _ _ _ _ _ _ _ _ _)
   | (with_reducible exact ih7 _ _ _ _ _ _ _ _ _ _ _ _ _)
   | (with_reducible exact calls_Leads.mono _ _ _ _ _ _)
   | (with_reducible exact calls_Order.mono _ _ _ _ _)
   | (with_reducible exact capstanlaw08_Great.mono _ _ _ _ _)
   | (with_reducible exact capstanlaw11_awake.mono _)
   | (with_reducible exact LeO.refl _)
   | (with_reducible exact LeO.none _)
   | (with_reducible refine LeO.ite ?_ ?_)
   | (with_reducible refine LeO.bind ?_ (fun _ => ?_))
   | exact ih0 _ _ _ _ _ _ _ _ _
   | exact ih1 _ _ _ _ _ _ _ _ _ _
   | exact ih2 _ _ _ _ _ _ _ _
   | exact ih3 _ _ _ _ _ _ _ _ _ _
   | exact ih4 _ _ _ _ _ _ _ _ _ _ _
   | exact ih5 _ _ _ _ _ _ _ _ _ _ _
   | exact ih6 _ _ _ _ _ _ _ _ _ _ _ _ _
   | exact ih7 _ _ _ _ _ _ _ _ _ _ _ _ _
   | exact calls_Leads.mono _ _ _ _ _ _
   | exact calls_Order.mono _ _ _ _ _
   | exact capstanlaw08_Great.mono _ _ _ _ _
   | exact capstanlaw11_awake.mono _
   | exact LeO.none _
   | refine LeO.ite ?_ ?_
   | refine LeO.bind ?_ (fun _ => ?_)
theorem capstanlaw11_CallsOrder.mono : ∀ a0 a1 a2 a3 k, LeO (capstanlaw11_CallsOrder.f k a0 a1 a2 a3) (capstanlaw11_CallsOrder.f (k + 1) a0 a1 a2 a3) := by
 intro a0 a1 a2 a3 k
 obtain ⟨ih0, ih1, ih2, ih3, ih4, ih5, ih6, ih7⟩ := capstanlaw11_CallsOrder.mono_l k
 unfold capstanlaw11_CallsOrder.f
 repeat' first
   | (with_reducible exact ih0 _ _ _ _ _ _ _ _ _)
   | (with_reducible exact ih1 _ _ _ _ _ _ _ _ _ _)
   | (with_reducible exact ih2 _ _ _ _ _ _ _ _)
   | (with_reducible exact ih3 _ _ _ _ _ _ _ _ _ _)
   | (with_reducible exact ih4 _ _ _ _ _ _ _ _ _ _ _)
   | (with_reducible exact ih5 _ _ _ _ _ _ _ _ _ _ _)
   | (with_reducible exact ih6 _ _ _ _ _ _ _ _ _ _ _ _ _)
   | (with_reducible exact ih7 _ _ _ _ _ _ _ _ _ _ _ _ _)
   | (with_reducible exact calls_Leads.mono _ _ _ _ _ _)
   | (with_reducible exact calls_Order.mono _ _ _ _ _)
   | (with_reducible exact capstanlaw08_Great.mono _ _ _ _ _)
   | (with_reducible exact capstanlaw11_awake.mono _)
   | (with_reducible exact LeO.refl _)
   | (with_reducible exact LeO.none _)
   | (with_reducible refine LeO.ite ?_ ?_)
   | (with_reducible refine LeO.bind ?_ (fun _ => ?_))
   | exact ih0 _ _ _ _ _ _ _ _ _
   | exact ih1 _ _ _ _ _ _ _ _ _ _
   | exact ih2 _ _ _ _ _ _ _ _
   | exact ih3 _ _ _ _ _ _ _ _ _ _
   | exact ih4 _ _ _ _ _ _ _ _ _ _ _
   | exact ih5 _ _ _ _ _ _ _ _ _ _ _
   | exact ih6 _ _ _ _ _ _ _ _ _ _ _ _ _
   | exact ih7 _ _ _ _ _ _ _ _ _ _ _ _ _
   | exact calls_Leads.mono _ _ _ _ _ _
   | exact calls_Order.mono _ _ _ _ _
   | exact capstanlaw08_Great.mono _ _ _ _ _
   | exact capstanlaw11_awake.mono _
   | exact LeO.none _
   | refine LeO.ite ?_ ?_
   | refine LeO.bind ?_ (fun _ => ?_)
def capstanlaw11_CallsOrder.T34 : Bool × List (List Nat × List Nat) := (true, [([], []), ([], []), ([0, 1], [0, 1]), ([2], [2]), ([3], [3]), ([4], [4]), ([5], [5]), ([5], [5]), ([6, 7, 5], [5, 6, 7]), ([8, 5], [5, 8]), ([5], [5]), ([10, 5], [5, 10]), ([9, 11, 5], [5, 9, 11]), ([5, 12], [5, 12]), ([13, 5], [13]), ([14], [14]), ([14], [14]), ([15, 16, 14], [14, 15, 16]), ([17, 14], [14, 17]), ([14], [14]), ([18, 19, 14], [14, 18, 19]), ([14, 20], [14, 20]), ([21, 14], [21]), ([22], [22]), ([22], [22]), ([23, 24, 22], [22, 23, 24]), ([25, 22], [22, 25]), ([26, 22], [22, 26]), ([27, 22], [22, 27]), ([22], [22]), ([29, 22], [22, 29]), ([30, 22], [22, 30]), ([28, 31, 22], [22, 28, 31]), ([22, 32], [22, 32]), ([33, 22], [33]), ([34], [34]), ([35, 34], [34, 35]), ([36, 34, 34], [34, 36]), ([37], [37]), ([37], [37]), ([38, 39, 37], [37, 38, 39]), ([40, 37], [37, 40]), ([37], [37]), ([37], [37]), ([43, 37], [37, 43]), ([42, 44, 37], [37, 42, 44]), ([45, 37], [37, 45]), ([41, 46, 37], [37, 41, 46]), ([37, 47, 34], [34, 37, 47]), ([34, 48], [34, 48])])
def capstanlaw11_CallsOrder.B34 : List Nat := [0, 0, 3, 7, 15, 31, 63, 63, 255, 511, 63, 1087, 4095, 8191, 16383, 32767, 32767, 131071, 262143, 32767, 1048575, 2097151, 4194303, 8388607, 8388607, 33554431, 67108863, 134217727, 268435455, 8388607, 545259519, 1619001343, 4294967295, 8589934591, 17179869183, 34359738367, 68719476735, 137438953471, 274877906943, 274877906943, 1099511627775, 2199023255551, 274877906943, 274877906943, 9070970929151, 31061203484671, 66245575573503, 140737488355327, 281474976710655, 562949953421311]
theorem capstanlaw11_CallsOrder.tab34 : rtab .any (opsOf Try.f6 34) = capstanlaw11_CallsOrder.T34 := by kernel_rfl
theorem capstanlaw11_CallsOrder.bits34 : waitsOk capstanlaw11_CallsOrder.T34.2 capstanlaw11_CallsOrder.B34 = true := by kernel_rfl
def capstanlaw11_CallsOrder.T41 : Bool × List (List Nat × List Nat) := (true, [([], []), ([], []), ([], []), ([1, 2], [1, 2]), ([3], [3]), ([0, 4], [0, 4]), ([5], [5]), ([6], [6]), ([6], [6]), ([7, 5, 0, 1, 2, 3, 4, 5, 6, 7], [7]), ([8, 9, 0, 1, 2, 3, 4, 5, 6, 7, 8, 9], [8])])
def capstanlaw11_CallsOrder.B41 : List Nat := [0, 0, 0, 6, 14, 31, 63, 127, 127, 255, 1023]
theorem capstanlaw11_CallsOrder.tab41 : rtab .any (opsOf Try.f6 41) = capstanlaw11_CallsOrder.T41 := by kernel_rfl
theorem capstanlaw11_CallsOrder.bits41 : waitsOk capstanlaw11_CallsOrder.T41.2 capstanlaw11_CallsOrder.B41 = true := by kernel_rfl
set_option maxHeartbeats 8000000 in
set_option maxRecDepth 100000 in
theorem capstanlaw11_CallsOrder.calls (k : Nat) (A0_0 : Option Addr) (c0_0 : Nat) (l0_0 : List (S86)) (A0_1 : Option Addr) (c0_1 : Nat) (l0_1 : List (S86)) (A0_2 : Option Addr) (c0_2 : Nat) (l0_2 : List (S52)) (a0_3 : Int) (r : Bool) (w : World) (hr0_0 : Kd.C k86 w A0_0 l0_0.length l0_0) (hc0_0 : l0_0.length ≤ c0_0) (hr0_1 : Kd.C k86 w A0_1 l0_1.length l0_1) (hc0_1 : l0_1.length ≤ c0_1) (hr0_2 : Kd.C k52 w A0_2 l0_2.length l0_2) (hc0_2 : l0_2.length ≤ c0_2) (h : capstanlaw11_CallsOrder.f k l0_0 l0_1 l0_2 a0_3 = some r) :
  Calls Try.prog 6 #[.agg #[.slice A0_0 l0_0.length c0_0, .slice A0_1 l0_1.length c0_1, .slice A0_2 l0_2.length c0_2, .int .i64 a0_3]] w fun e w' => e = .returned (.bool r) ∧ Below w.heap.size w w' := by
 have hu25 := Try.underlying25
 have HR0_0 := Aside0.mk hr0_0
 have HC0_0 := Aside0.mk hc0_0
 clear hr0_0 hc0_0
 have HR0_1 := Aside0.mk hr0_1
 have HC0_1 := Aside0.mk hc0_1
 clear hr0_1 hc0_1
 have HR0_2 := Aside0.mk hr0_2
 have HC0_2 := Aside0.mk hc0_2
 clear hr0_2 hc0_2
 have HB := Aside0.mk (Below.refl w.heap.size w)
 have H : ((capstanlaw11_awake.f k).bind fun t209 => (if t209 = true then ((capstanlaw08_Great.f k l0_0 l0_1 l0_2 a0_3).bind fun t210 => (if t210 = true then (some true) else ((calls_Order.f k l0_0 l0_1 l0_2 a0_3).bind fun bt211 => (if bt211.2 = 0 then (if (bt211.1.length : Int) = (l0_2.length : Int) then (capstanlaw11_CallsOrder.l0 k bt211.1 (List.replicate 40 0) (List.replicate 40 false) true 0 l0_0 l0_1 l0_2 a0_3) else (none)) else (some ((bt211.1.length : Int) == 0)))))) else (none))) = some r := h
 clear h
 replace H := Option.bind_eq_some_iff.mp H
 obtain ⟨t209, A20, H⟩ := H
 replace H : (if t209 = true then ((capstanlaw08_Great.f k l0_0 l0_1 l0_2 a0_3).bind fun t210 => (if t210 = true then (some true) else ((calls_Order.f k l0_0 l0_1 l0_2 a0_3).bind fun bt211 => (if bt211.2 = 0 then (if (bt211.1.length : Int) = (l0_2.length : Int) then (capstanlaw11_CallsOrder.l0 k bt211.1 (List.replicate 40 0) (List.replicate 40 false) true 0 l0_0 l0_1 l0_2 a0_3) else (none)) else (some ((bt211.1.length : Int) == 0)))))) else (none)) = some r := H
 have A2 := Aside0.mk A20
 clear A20
 by_cases c3 : t209 = true
 ·
  subst c3
  have H1 : ((capstanlaw08_Great.f k l0_0 l0_1 l0_2 a0_3).bind fun t210 => (if t210 = true then (some true) else ((calls_Order.f k l0_0 l0_1 l0_2 a0_3).bind fun bt211 => (if bt211.2 = 0 then (if (bt211.1.length : Int) = (l0_2.length : Int) then (capstanlaw11_CallsOrder.l0 k bt211.1 (List.replicate 40 0) (List.replicate 40 false) true 0 l0_0 l0_1 l0_2 a0_3) else (none)) else (some ((bt211.1.length : Int) == 0)))))) = some r := by rw [if_pos rfl] at H; exact H
  clear H
  have H := H1
  clear H1
  replace H := Option.bind_eq_some_iff.mp H
  obtain ⟨t210, A40, H⟩ := H
  replace H : (if t210 = true then (some true) else ((calls_Order.f k l0_0 l0_1 l0_2 a0_3).bind fun bt211 => (if bt211.2 = 0 then (if (bt211.1.length : Int) = (l0_2.length : Int) then (capstanlaw11_CallsOrder.l0 k bt211.1 (List.replicate 40 0) (List.replicate 40 false) true 0 l0_0 l0_1 l0_2 a0_3) else (none)) else (some ((bt211.1.length : Int) == 0))))) = some r := H
  have A4 := Aside0.mk A40
  clear A40
  by_cases c5 : t210 = true
  ·
   subst c5
   have H1 : (some true) = some r := by rw [if_pos rfl] at H; exact H
   clear H
   have H := H1
   clear H1
   obtain rfl := Option.some.inj H
   go_enter Try.func6, Try.ntmps6
   go_wp2_with (first | ((with_reducible refine gate_dst (N := 1) rfl ?_); (try (refine gate_guard (by rfl) ?_; dsimp only)); refine box_event ?hg (N := 1) ?hd (cs := #[.slice A0_0 l0_0.length c0_0, .slice A0_1 l0_1.length c0_1, .slice A0_2 l0_2.length c0_2, .int .i64 a0_3]) (t := 25) ?hr ?_; (case hd => rfl); (case hg => rfl); (case hr => first | (go_simp; done) | (go_simp; rfl)); intro gb208 hg w6 hbox hb; have n0_ := Aside0.mk (below_step (au2) hb); have n1_ := Aside0.mk (hbox); have n2_ := Aside0.mk ((au47 : w.heap.size ≤ gb208)); have n3_ := Aside0.mk ((au47 : w.heap.size ≤ gb208)); clear HB; have HB := n0_; have BK208 := n1_; have GW208 := n2_; have GE208 := n3_; clear n0_ n1_ n2_ n3_; clear hb hbox hg) | ((with_reducible refine gate_callee (f := 36) rfl ?_); refine goesL_ (some 22) rfl rfl Try.func36 (by kernel_rfl) rfl #[] rfl (au9) ?_; (with_reducible refine (capstanlaw11_awake.calls k  true _ A2.out).mono ?_); rintro e w7 ⟨rfl, hb⟩; refine ⟨_, rfl, ?_⟩; have n0_ := Aside0.mk (blk_below (g := gb208) (o := .cells #[.slice A0_0 l0_0.length c0_0, .slice A0_1 l0_1.length c0_1, .slice A0_2 l0_2.length c0_2, .int .i64 a0_3] 25 (0, 0)) (au5) hb); have n1_ := Aside0.mk (below_step (au1) hb); clear BK208; clear HB; have BK208 := n0_; have HB := n1_; clear n0_ n1_; (try clear hb); (try clear hb2); (try clear hk); (try clear hi); obtain ⟨hcz8_0, hcz8_1, hcz8_2, hcz8_3, hfz8_0, hfz8_1, hfz8_2, hfz8_3⟩ := blk_all4 BK208.out) | ((with_reducible refine gate_callee (f := 11) rfl ?_); refine goesL_ (some 25) rfl rfl Try.func11 (by kernel_rfl) rfl #[.agg #[.slice A0_0 l0_0.length c0_0, .slice A0_1 l0_1.length c0_1, .slice A0_2 l0_2.length c0_2, .int .i64 a0_3]] rfl (au9) ?_; (with_reducible refine (capstanlaw08_Great.calls k _ _ l0_0 _ _ l0_1 _ _ l0_2 a0_3 true _ ?side1 ?side2 ?side3 ?side4 ?side5 ?side6 A4.out).mono ?_); (case side1 => exact au19); (case side2 => exact HC0_0.out); (case side3 => exact au20); (case side4 => exact HC0_1.out); (case side5 => exact au21); (case side6 => exact HC0_2.out); rintro e w9 ⟨rfl, hb⟩; refine ⟨_, rfl, ?_⟩; have n0_ := Aside0.mk (blk_below (g := gb208) (o := .cells #[.slice A0_0 l0_0.length c0_0, .slice A0_1 l0_1.length c0_1, .slice A0_2 l0_2.length c0_2, .int .i64 a0_3] 25 (0, 0)) (au5) hb); have n1_ := Aside0.mk (below_step (au1) hb); clear BK208; clear HB; have BK208 := n0_; have HB := n1_; clear n0_ n1_; (try clear hb); (try clear hb2); (try clear hk); (try clear hi)))
   go_ret
   exact ⟨au30, au1⟩
  ·
   replace c5 := Bool.eq_false_iff.mpr c5
   subst c5
   have H1 : ((calls_Order.f k l0_0 l0_1 l0_2 a0_3).bind fun bt211 => (if bt211.2 = 0 then (if (bt211.1.length : Int) = (l0_2.length : Int) then (capstanlaw11_CallsOrder.l0 k bt211.1 (List.replicate 40 0) (List.replicate 40 false) true 0 l0_0 l0_1 l0_2 a0_3) else (none)) else (some ((bt211.1.length : Int) == 0)))) = some r := by rw [if_neg (show ¬ (false = true) by decide)] at H; exact H
   clear H
   have H := H1
   clear H1
   replace H := Option.bind_eq_some_iff.mp H
   obtain ⟨⟨t211, t214⟩, A100, H⟩ := H
   replace H : (if t214 = 0 then (if (t211.length : Int) = (l0_2.length : Int) then (capstanlaw11_CallsOrder.l0 k t211 (List.replicate 40 0) (List.replicate 40 false) true 0 l0_0 l0_1 l0_2 a0_3) else (none)) else (some ((t211.length : Int) == 0))) = some r := H
   have A10 := Aside0.mk A100
   clear A100
   by_cases c11 : t214 = 0
   ·
    rw [if_pos c11] at H
    have c11b0 : (t214 == 0) = true := beq_iff_eq.mpr c11
    have c11b1 : (t214 != 0) = false := bne_eq_false_iff_eq.mpr c11
    clear c11
    by_cases c12 : (t211.length : Int) = (l0_2.length : Int)
    ·
     rw [if_pos c12] at H
     have c12b0 : ((t211.length : Int) == (l0_2.length : Int)) = true := beq_iff_eq.mpr c12
     have c12b1 : ((t211.length : Int) != (l0_2.length : Int)) = false := bne_eq_false_iff_eq.mpr c12
     have c12b2 : (t211.length == l0_2.length) = true := by first | simpa using c12 | (simp at c12 ⊢; omega)
     clear c12
     obtain ⟨y215, hy215⟩ : ∃ y_ : List Int, y_ = (List.replicate 40 0) := ⟨_, rfl⟩
     replace H : (capstanlaw11_CallsOrder.l0 k t211 y215 (List.replicate 40 false) true 0 l0_0 l0_1 l0_2 a0_3) = some r := by first | (rw [hy215]; with_reducible exact H) | (have H2_ := (Option.bind_some _ _).symm.trans H; rw [hy215]; with_reducible exact H2_) | (have H2_ := (Option.bind_some _ _).symm.trans H; with_reducible exact H2_) | with_reducible exact H | (rw [hy215]; exact H) | exact H
     have Ny215 := Aside0.mk hy215
     clear hy215
     obtain ⟨y218, hy218⟩ : ∃ y_ : List Bool, y_ = (List.replicate 40 false) := ⟨_, rfl⟩
     replace H : (capstanlaw11_CallsOrder.l0 k t211 y215 y218 true 0 l0_0 l0_1 l0_2 a0_3) = some r := by first | (rw [hy218]; with_reducible exact H) | (have H2_ := (Option.bind_some _ _).symm.trans H; rw [hy218]; with_reducible exact H2_) | (have H2_ := (Option.bind_some _ _).symm.trans H; with_reducible exact H2_) | with_reducible exact H | (rw [hy218]; exact H) | exact H
     have Ny218 := Aside0.mk hy218
     clear hy218
     as_aux_lemma =>
      have H' := Aside0.mk H
      clear H
      go_enter Try.func6, Try.ntmps6
      go_wp2_with (first | ((with_reducible refine gate_dst (N := 1) rfl ?_); (try (refine gate_guard (by rfl) ?_; dsimp only)); refine box_event ?hg (N := 1) ?hd (cs := #[.slice A0_0 l0_0.length c0_0, .slice A0_1 l0_1.length c0_1, .slice A0_2 l0_2.length c0_2, .int .i64 a0_3]) (t := 25) ?hr ?_; (case hd => rfl); (case hg => rfl); (case hr => first | (go_simp; done) | (go_simp; rfl)); intro gb208 hg w13 hbox hb; have n0_ := Aside0.mk (below_step (au2) hb); have n1_ := Aside0.mk (hbox); have n2_ := Aside0.mk ((au47 : w.heap.size ≤ gb208)); have n3_ := Aside0.mk ((au47 : w.heap.size ≤ gb208)); clear HB; have HB := n0_; have BK208 := n1_; have GW208 := n2_; have GE208 := n3_; clear n0_ n1_ n2_ n3_; clear hb hbox hg) | ((with_reducible refine gate_callee (f := 36) rfl ?_); refine goesL_ (some 22) rfl rfl Try.func36 (by kernel_rfl) rfl #[] rfl (au9) ?_; (with_reducible refine (capstanlaw11_awake.calls k  true _ A2.out).mono ?_); rintro e w14 ⟨rfl, hb⟩; refine ⟨_, rfl, ?_⟩; have n0_ := Aside0.mk (blk_below (g := gb208) (o := .cells #[.slice A0_0 l0_0.length c0_0, .slice A0_1 l0_1.length c0_1, .slice A0_2 l0_2.length c0_2, .int .i64 a0_3] 25 (0, 0)) (au5) hb); have n1_ := Aside0.mk (below_step (au1) hb); clear BK208; clear HB; have BK208 := n0_; have HB := n1_; clear n0_ n1_; (try clear hb); (try clear hb2); (try clear hk); (try clear hi); obtain ⟨hcz15_0, hcz15_1, hcz15_2, hcz15_3, hfz15_0, hfz15_1, hfz15_2, hfz15_3⟩ := blk_all4 BK208.out) | ((with_reducible refine gate_callee (f := 11) rfl ?_); refine goesL_ (some 25) rfl rfl Try.func11 (by kernel_rfl) rfl #[.agg #[.slice A0_0 l0_0.length c0_0, .slice A0_1 l0_1.length c0_1, .slice A0_2 l0_2.length c0_2, .int .i64 a0_3]] rfl (au9) ?_; (with_reducible refine (capstanlaw08_Great.calls k _ _ l0_0 _ _ l0_1 _ _ l0_2 a0_3 false _ ?side1 ?side2 ?side3 ?side4 ?side5 ?side6 A4.out).mono ?_); (case side1 => exact au19); (case side2 => exact HC0_0.out); (case side3 => exact au20); (case side4 => exact HC0_1.out); (case side5 => exact au21); (case side6 => exact HC0_2.out); rintro e w16 ⟨rfl, hb⟩; refine ⟨_, rfl, ?_⟩; have n0_ := Aside0.mk (blk_below (g := gb208) (o := .cells #[.slice A0_0 l0_0.length c0_0, .slice A0_1 l0_1.length c0_1, .slice A0_2 l0_2.length c0_2, .int .i64 a0_3] 25 (0, 0)) (au5) hb); have n1_ := Aside0.mk (below_step (au1) hb); clear BK208; clear HB; have BK208 := n0_; have HB := n1_; clear n0_ n1_; (try clear hb); (try clear hb2); (try clear hk); (try clear hi); obtain ⟨hcz17_0, hcz17_1, hcz17_2, hcz17_3, hfz17_0, hfz17_1, hfz17_2, hfz17_3⟩ := blk_all4 BK208.out) | ((with_reducible refine gate_callee (f := 30) rfl ?_); refine goesL_ (some 28) rfl rfl Try.func30 (by kernel_rfl) rfl #[.agg #[.slice A0_0 l0_0.length c0_0, .slice A0_1 l0_1.length c0_1, .slice A0_2 l0_2.length c0_2, .int .i64 a0_3]] rfl (au9) ?_; (with_reducible refine (calls_Order.calls k _ _ l0_0 _ _ l0_1 _ _ l0_2 a0_3 t211 t214 _ ?side1 ?side2 ?side3 ?side4 ?side5 ?side6 A10.out).mono ?_); (case side1 => exact au19); (case side2 => exact HC0_0.out); (case side3 => exact au20); (case side4 => exact HC0_1.out); (case side5 => exact au21); (case side6 => exact HC0_2.out); rintro e w18 ⟨v212, rfl, ho0, hb⟩; refine ⟨_, rfl, ?_⟩; have n0_ := Aside0.mk (Kd.R_lower ho0 (below_size (au1))); have n1_ := Aside0.mk (blk_below (g := gb208) (o := .cells #[.slice A0_0 l0_0.length c0_0, .slice A0_1 l0_1.length c0_1, .slice A0_2 l0_2.length c0_2, .int .i64 a0_3] 25 (0, 0)) (au5) hb); have n2_ := Aside0.mk (below_step (au1) hb); clear BK208; clear HB; have HO213 := n0_; have BK208 := n1_; have HB := n2_; clear n0_ n1_ n2_; (try clear hb); (try clear hb2); (try clear hk); (try clear hi); (try clear ho0); obtain ⟨Ao19, co19, eo19⟩ := Kd.R_slice HO213.out; subst eo19; obtain ⟨hcz20_0, hcz20_1, hcz20_2, hcz20_3, hfz20_0, hfz20_1, hfz20_2, hfz20_3⟩ := blk_all4 BK208.out) | ((with_reducible refine gate_dst (N := 5) rfl ?_); (try (refine gate_guard (by rfl) ?_; dsimp only)); refine Kd.R_array (h1 := fun _ => rfl) (Value.int .i64) _ 62 40 0 ?hg (N := 5) ?hd (ok := fun _ => True) ?hr trivial (Below.refl _ _) (Nat.le_refl _) (by decide) ?_; (case hd => rfl); (case hg => rfl); (case hr => first | (go_simp; done) | (go_simp; rfl)); intro goa62xy215 w21 ho22 hb hg_ hnew_; clear hg_ hnew_; (first | rw [← Ny215.out] at ho22 | (simp only [Int.reduceToNat] at ho22; rw [← Ny215.out] at ho22)); have n0_ := Aside0.mk (Kd.R_elder' (au62) (Kd.R_base ho22) hb); have n1_ := Aside0.mk (Kd.R_lower (Kd.R_new' ho22 (Kd.R_lt (au62))) (below_size (au1))); have n2_ := Aside0.mk (blk_below (g := gb208) (o := .cells #[.slice A0_0 l0_0.length c0_0, .slice A0_1 l0_1.length c0_1, .slice A0_2 l0_2.length c0_2, .int .i64 a0_3] 25 (0, 0)) (au5) hb); have n3_ := Aside0.mk (below_step (au1) hb); clear HO213; clear BK208; clear HB; have HO213 := n0_; have HO217 := n1_; have BK208 := n2_; have HB := n3_; clear n0_ n1_ n2_ n3_; clear hb ho22; have GBa62xy215 := Aside0.mk (Kd.R_formN HO217.out (by decide)).1; have GGa62xy215 := Aside0.mk (Kd.R_formN HO217.out (by decide)).2) | ((with_reducible refine gate_dst (N := 6) rfl ?_); (try (refine gate_guard (by rfl) ?_; dsimp only)); refine Kd.R_array (h1 := fun _ => rfl) Value.bool _ 63 40 false ?hg (N := 6) ?hd (ok := fun _ => True) ?hr trivial (Below.refl _ _) (Nat.le_refl _) (by decide) ?_; (case hd => rfl); (case hg => rfl); (case hr => first | (go_simp; done) | (go_simp; rfl)); intro goa63xy218 w23 ho24 hb hg_ hnew_; clear hg_ hnew_; (first | rw [← Ny218.out] at ho24 | (simp only [Int.reduceToNat] at ho24; rw [← Ny218.out] at ho24)); have n0_ := Aside0.mk (Kd.R_below (au62) hb); have n1_ := Aside0.mk (Kd.R_below (by (with_reducible repeat (first | apply Kd.R_alloc | apply Kd.R_drewN | apply Kd.R_drew)); first | exact HO217.out | exact Kd.R_mono (HO217.out) (fun _ h_ => h_.2)) hb); have n2_ := Aside0.mk (Kd.R_lower ho24 (below_size (au1))); have n3_ := Aside0.mk (blk_below (g := gb208) (o := .cells #[.slice A0_0 l0_0.length c0_0, .slice A0_1 l0_1.length c0_1, .slice A0_2 l0_2.length c0_2, .int .i64 a0_3] 25 (0, 0)) (au5) hb); have n4_ := Aside0.mk (below_step (au1) hb); clear HO213; clear HO217; clear BK208; clear HB; have HO213 := n0_; have HO217 := n1_; have HO220 := n2_; have BK208 := n3_; have HB := n4_; clear n0_ n1_ n2_ n3_ n4_; clear hb ho24; have GBa63xy218 := Aside0.mk (Kd.R_formN HO220.out (by decide)).1; have GGa63xy218 := Aside0.mk (Kd.R_formN HO220.out (by decide)).2))
      go_loopg [7, 8] k (fun kq v7 v8 w' => ∃ (x5_1 : List Int) (x6_1 : List Bool) (x7_1 : Bool) (x8_1 : Int), v7 = .bool x7_1 ∧ v8 = .int .i64 x8_1 ∧ Aside0 (capstanlaw11_CallsOrder.l0 kq t211 x5_1 x6_1 x7_1 x8_1 l0_0 l0_1 l0_2 a0_3 = some r) ∧ Aside0 (kq ≤ k) ∧ Aside0 (Kd.R (Kd.int .i64) 3 w' w.heap.size (fun k_ => some k_ ≠ ((.slice (some ⟨goa62xy215, 0, none⟩) 40 40) : Value).ownBlock) (.slice Ao19 t211.length co19) t211) ∧ Aside0 (Kd.R (Kd.int .i64) 62 w' w.heap.size (fun k_ => some k_ ≠ ((.slice Ao19 t211.length co19) : Value).ownBlock) (.slice (some ⟨goa62xy215, 0, none⟩) 40 40) x5_1) ∧ Aside0 (Kd.R Kd.bool 63 w' w.heap.size (fun _ => True) (.slice (some ⟨goa63xy218, 0, none⟩) 40 40) x6_1) ∧ Aside0 (w'.heap[gb208]? = some (.cells #[(.slice A0_0 l0_0.length c0_0), (.slice A0_1 l0_1.length c0_1), (.slice A0_2 l0_2.length c0_2), .int .i64 a0_3] 25 (0, 0))) ∧ Aside0 (Below w.heap.size w w'))
      case atStart => exact ⟨(y215), (y218), (true), (0), (au25), (au25), H', ⟨Nat.le_refl _⟩, ⟨by (with_reducible repeat (first | apply Kd.R_alloc | apply Kd.R_drewN | apply Kd.R_drew)); first | exact Kd.R_mono HO213.out (fun _ hk => hk.2) | exact Kd.R_mono (Kd.R_mono HO213.out (fun _ hk => hk.2)) (fun _ h_ => h_.2)⟩, ⟨by (with_reducible repeat (first | apply Kd.R_alloc | apply Kd.R_drewN | apply Kd.R_drew)); first | exact Kd.R_mono HO217.out (fun _ hk => hk.2) | exact Kd.R_mono (Kd.R_mono HO217.out (fun _ hk => hk.2)) (fun _ h_ => h_.2)⟩, ⟨by (with_reducible repeat (first | apply Kd.R_alloc | apply Kd.R_drewN | apply Kd.R_drew)); first | exact HO220.out | exact Kd.R_mono (HO220.out) (fun _ h_ => h_.2)⟩, ⟨au5⟩, ⟨au1⟩⟩
      case round =>
       clear H'
       try clear c1
       try clear p2
       try clear c3
       try clear c5
       try clear c6
       try clear c11
       try clear c11b0
       try clear c11b1
       try clear c12
       try clear c12b0
       try clear c12b1
       try clear c12b2
       try clear hcz15_0
       try clear hcz15_1
       try clear hcz15_2
       try clear hcz15_3
       try clear hcz17_0
       try clear hcz17_1
       try clear hcz17_2
       try clear hcz17_3
       try clear hcz20_0
       try clear hcz20_1
       try clear hcz20_2
       try clear hcz20_3
       try clear hcz8_0
       try clear hcz8_1
       try clear hcz8_2
       try clear hcz8_3
       try clear hfz15_0
       try clear hfz15_1
       try clear hfz15_2
       try clear hfz15_3
       try clear hfz17_0
       try clear hfz17_1
       try clear hfz17_2
       try clear hfz17_3
       try clear hfz20_0
       try clear hfz20_1
       try clear hfz20_2
       try clear hfz20_3
       try clear hfz8_0
       try clear hfz8_1
       try clear hfz8_2
       try clear hfz8_3
       obtain ⟨x5_1, x6_1, x7_1, x8_1, rfl, rfl, HA, HK1, HO_3, HO_5, HO_6, BK208, HB⟩ := hrel
       cases gk with
       | zero => exact absurd HA.out (by simp [capstanlaw11_CallsOrder.l0])
       | succ k1 =>
        have H := HA.out
        clear HA
        simp only [capstanlaw11_CallsOrder.l0] at H
        by_cases c25 : x8_1 < (t211.length : Int)
        ·
         rw [if_pos c25] at H
         have c25b0 : decide (x8_1 < (t211.length : Int)) = true := decide_eq_true c25
         clear c25
         have HC26 := Aside0.mk H
         clear H
         go_upto_region 16 with (fail)
         go_cut [69] (fun v69 wc => ∃ (kq : Nat) (x69_25 : Bool), v69 = .bool x69_25 ∧ Aside0 (capstanlaw11_CallsOrder.j1 kq t211 x5_1 x6_1 x7_1 x8_1 x69_25 l0_0 l0_1 l0_2 a0_3 = some r) ∧ Aside0 (kq ≤ k1) ∧ Aside0 (Kd.R (Kd.int .i64) 3 wc w.heap.size (fun k_ => some k_ ≠ ((.slice (some ⟨goa62xy215, 0, none⟩) 40 40) : Value).ownBlock) (.slice Ao19 t211.length co19) t211) ∧ Aside0 (Kd.R (Kd.int .i64) 62 wc w.heap.size (fun k_ => some k_ ≠ ((.slice Ao19 t211.length co19) : Value).ownBlock) (.slice (some ⟨goa62xy215, 0, none⟩) 40 40) x5_1) ∧ Aside0 (Kd.R Kd.bool 63 wc w.heap.size (fun _ => True) (.slice (some ⟨goa63xy218, 0, none⟩) 40 40) x6_1) ∧ Aside0 (wc.heap[gb208]? = some (.cells #[(.slice A0_0 l0_0.length c0_0), (.slice A0_1 l0_1.length c0_1), (.slice A0_2 l0_2.length c0_2), .int .i64 a0_3] 25 (0, 0))) ∧ Aside0 (Below w.heap.size w wc))
         case first =>
          have H := HC26.out
          clear HC26
          by_cases c27 : 0 ≤ x8_1
          ·
           rw [if_pos c27] at H
           have c27b0 : decide (0 ≤ x8_1) = true := decide_eq_true c27
           clear c27
           (first | rw [c27b0] | (simp only [i64_w, i32_w]; rw [c27b0]) | skip)
           by_cases c28 : (rd t211 x8_1) < 0
           ·
            rw [if_pos c28] at H
            exact absurd H (by simp)
           ·
            rw [if_neg c28] at H
            have c28b0 : decide ((rd t211 x8_1) < 0) = false := decide_eq_false c28
            clear c28
            by_cases c29 : (rd t211 x8_1) ≥ (t211.length : Int)
            ·
             rw [if_pos c29] at H
             exact absurd H (by simp)
            ·
             rw [if_neg c29] at H
             have c29b0 : decide ((t211.length : Int) ≤ (rd t211 x8_1)) = false := decide_eq_false c29
             clear c29
             by_cases c30 : 0 ≤ (rd t211 x8_1)
             ·
              rw [if_pos c30] at H
              have c30b0 : decide (0 ≤ (rd t211 x8_1)) = true := decide_eq_true c30
              clear c30
              by_cases c31 : (rd t211 x8_1) < 40
              ·
               rw [if_pos c31] at H
               have c31b0 : decide ((rd t211 x8_1) < 40) = true := decide_eq_true c31
               clear c31
               as_aux_lemma =>
                have H' := Aside0.mk H
                clear H
                have p221 : 0 ≤ (x8_1 : Int) := of_decide_eq_true (au4)
                have q221 : x8_1 < (t211.length : Int) := of_decide_eq_true (au4)
                obtain ⟨ad221, e221, hx221_0⟩ := Kd.at_int (Kd.R_readsN HO_3.out) x8_1 p221 q221
                cases e221
                replace p221 := eq_true p221
                replace q221 := eq_true q221
                have p222 : 0 ≤ (x8_1 : Int) := of_decide_eq_true (au4)
                have q222 : x8_1 < (t211.length : Int) := of_decide_eq_true (au4)
                obtain ⟨ad222, e222, hx222_0⟩ := Kd.at_int (Kd.R_readsN HO_3.out) x8_1 p222 q222
                obtain rfl : ad221 = ad222 := (by injection e222)
                replace p222 := eq_true p222
                replace q222 := eq_true q222
                have p223 : 0 ≤ (x8_1 : Int) := of_decide_eq_true (au4)
                have q223 : x8_1 < (t211.length : Int) := of_decide_eq_true (au4)
                obtain ⟨ad223, e223, hx223_0⟩ := Kd.at_int (Kd.R_readsN HO_3.out) x8_1 p223 q223
                obtain rfl : ad221 = ad223 := (by injection e223)
                replace p223 := eq_true p223
                replace q223 := eq_true q223
                have p224 : 0 ≤ ((rd t211 x8_1) : Int) := of_decide_eq_true (au4)
                have q224 : (rd t211 x8_1) < (40 : Int) := of_decide_eq_true (au4)
                obtain ⟨ad224, e224, hx224_0⟩ := Kd.at_bool (Kd.R_readsN HO_6.out) (rd t211 x8_1) p224 q224
                obtain rfl : (⟨goa63xy218, 0, none⟩ : Addr) = ad224 := (by injection e224)
                (first | simp only [add_plain] at hx224_0 | simp only [add_at] at hx224_0 | simp only [Addr.add, Nat.zero_add] at hx224_0 | skip)
                replace p224 := eq_true p224
                replace q224 := eq_true q224
                go_wp2
                go_meet
                case rel => exact ⟨_, (rdOf false x6_1 (rd t211 x8_1)), (au25), H', ⟨by have := HK1.out; first | omega | exact Nat.le_refl _⟩, ⟨au7⟩, ⟨au8⟩, ⟨au36⟩, ⟨au5⟩, ⟨au1⟩⟩
              ·
               rw [if_neg c31] at H
               exact absurd H (by simp)
             ·
              rw [if_neg c30] at H
              exact absurd H (by simp)
          ·
           rw [if_neg c27] at H
           exact absurd H (by simp)
         case rest =>
          clear HC26
          try clear c1
          try clear c2
          try clear p2
          try clear q2
          try clear hx2
          try clear c3
          try clear c5
          try clear c6
          try clear c11
          try clear c11b0
          try clear c11b1
          try clear c12
          try clear c12b0
          try clear c12b1
          try clear c12b2
          try clear p22
          try clear q22
          try clear hx22
          try clear c25
          try clear c25b0
          try clear c27
          try clear c27b0
          try clear c28
          try clear c28b0
          try clear c29
          try clear c29b0
          try clear c30
          try clear c30b0
          try clear c31
          try clear c31b0
          try clear hcz15_0
          try clear hcz15_1
          try clear hcz15_2
          try clear hcz15_3
          try clear hcz17_0
          try clear hcz17_1
          try clear hcz17_2
          try clear hcz17_3
          try clear hcz20_0
          try clear hcz20_1
          try clear hcz20_2
          try clear hcz20_3
          try clear hcz8_0
          try clear hcz8_1
          try clear hcz8_2
          try clear hcz8_3
          try clear hfz15_0
          try clear hfz15_1
          try clear hfz15_2
          try clear hfz15_3
          try clear hfz17_0
          try clear hfz17_1
          try clear hfz17_2
          try clear hfz17_3
          try clear hfz20_0
          try clear hfz20_1
          try clear hfz20_2
          try clear hfz20_3
          try clear hfz8_0
          try clear hfz8_1
          try clear hfz8_2
          try clear hfz8_3
          try clear hx221_0
          try clear hx222_0
          try clear hx223_0
          try clear hx224_0
          try clear p2
          try clear p221
          try clear p222
          try clear p223
          try clear p224
          try clear q221
          try clear q222
          try clear q223
          try clear q224
          obtain ⟨kq, x69_25, rfl, HA, HJ25, HO_3, HO_5, HO_6, BK208, HB⟩ := hcut
          cases kq with
          | zero => exact absurd HA.out (by simp [capstanlaw11_CallsOrder.j1])
          | succ kj25 =>
           have H := HA.out
           clear HA
           simp only [capstanlaw11_CallsOrder.j1] at H
           by_cases c32 : x69_25 = true
           ·
            subst c32
            have H1 : (none) = some r := by rw [if_pos rfl] at H; exact H
            clear H
            have H := H1
            clear H1
            exact absurd H (by simp)
           ·
            replace c32 := Bool.eq_false_iff.mpr c32
            subst c32
            have H1 : (if 0 ≤ x8_1 then (if x8_1 < (t211.length : Int) then (if 0 ≤ (rd t211 x8_1) then (if (rd t211 x8_1) < 40 then ((some (x6_1.set ((rd t211 x8_1) : Int).toNat true : List Bool)).bind fun y226 => ((some (x5_1.set ((rd t211 x8_1) : Int).toNat x8_1 : List Int)).bind fun y228 => ((calls_Whom.f l0_0 l0_1 l0_2 a0_3 x8_1).bind fun bt229 => (if x7_1 = true then (if bt229.2 = 0 then (capstanlaw11_CallsOrder.l0 kj25 t211 y228 y226 ((bt229.1.length : Int) == 0) (wrap64 (x8_1 + 1)) l0_0 l0_1 l0_2 a0_3) else (none)) else (if bt229.2 = 0 then (capstanlaw11_CallsOrder.l0 kj25 t211 y228 y226 false (wrap64 (x8_1 + 1)) l0_0 l0_1 l0_2 a0_3) else (none)))))) else (none)) else (none)) else (none)) else (none)) = some r := by rw [if_neg (show ¬ (false = true) by decide)] at H; exact H
            clear H
            have H := H1
            clear H1
            by_cases c33 : 0 ≤ x8_1
            ·
             rw [if_pos c33] at H
             have c33b0 : decide (0 ≤ x8_1) = true := decide_eq_true c33
             clear c33
             by_cases c34 : x8_1 < (t211.length : Int)
             ·
              rw [if_pos c34] at H
              have c34b0 : decide (x8_1 < (t211.length : Int)) = true := decide_eq_true c34
              clear c34
              by_cases c35 : 0 ≤ (rd t211 x8_1)
              ·
               rw [if_pos c35] at H
               have c35b0 : decide (0 ≤ (rd t211 x8_1)) = true := decide_eq_true c35
               clear c35
               by_cases c36 : (rd t211 x8_1) < 40
               ·
                rw [if_pos c36] at H
                have c36b0 : decide ((rd t211 x8_1) < 40) = true := decide_eq_true c36
                clear c36
                obtain ⟨y226, hy226⟩ : ∃ y_ : List Bool, y_ = (x6_1.set ((rd t211 x8_1) : Int).toNat true) := ⟨_, rfl⟩
                replace H : ((some (x5_1.set ((rd t211 x8_1) : Int).toNat x8_1 : List Int)).bind fun y228 => ((calls_Whom.f l0_0 l0_1 l0_2 a0_3 x8_1).bind fun bt229 => (if x7_1 = true then (if bt229.2 = 0 then (capstanlaw11_CallsOrder.l0 kj25 t211 y228 y226 ((bt229.1.length : Int) == 0) (wrap64 (x8_1 + 1)) l0_0 l0_1 l0_2 a0_3) else (none)) else (if bt229.2 = 0 then (capstanlaw11_CallsOrder.l0 kj25 t211 y228 y226 false (wrap64 (x8_1 + 1)) l0_0 l0_1 l0_2 a0_3) else (none))))) = some r := by first | (rw [hy226]; with_reducible exact H) | (have H2_ := (Option.bind_some _ _).symm.trans H; rw [hy226]; with_reducible exact H2_) | (have H2_ := (Option.bind_some _ _).symm.trans H; with_reducible exact H2_) | with_reducible exact H | (rw [hy226]; exact H) | exact H
                have Ny226 := Aside0.mk hy226
                clear hy226
                obtain ⟨y228, hy228⟩ : ∃ y_ : List Int, y_ = (x5_1.set ((rd t211 x8_1) : Int).toNat x8_1) := ⟨_, rfl⟩
                replace H : ((calls_Whom.f l0_0 l0_1 l0_2 a0_3 x8_1).bind fun bt229 => (if x7_1 = true then (if bt229.2 = 0 then (capstanlaw11_CallsOrder.l0 kj25 t211 y228 y226 ((bt229.1.length : Int) == 0) (wrap64 (x8_1 + 1)) l0_0 l0_1 l0_2 a0_3) else (none)) else (if bt229.2 = 0 then (capstanlaw11_CallsOrder.l0 kj25 t211 y228 y226 false (wrap64 (x8_1 + 1)) l0_0 l0_1 l0_2 a0_3) else (none)))) = some r := by first | (rw [hy228]; with_reducible exact H) | (have H2_ := (Option.bind_some _ _).symm.trans H; rw [hy228]; with_reducible exact H2_) | (have H2_ := (Option.bind_some _ _).symm.trans H; with_reducible exact H2_) | with_reducible exact H | (rw [hy228]; exact H) | exact H
                have Ny228 := Aside0.mk hy228
                clear hy228
                replace H := Option.bind_eq_some_iff.mp H
                obtain ⟨⟨t229, t232⟩, A390, H⟩ := H
                replace H : (if x7_1 = true then (if t232 = 0 then (capstanlaw11_CallsOrder.l0 kj25 t211 y228 y226 ((t229.length : Int) == 0) (wrap64 (x8_1 + 1)) l0_0 l0_1 l0_2 a0_3) else (none)) else (if t232 = 0 then (capstanlaw11_CallsOrder.l0 kj25 t211 y228 y226 false (wrap64 (x8_1 + 1)) l0_0 l0_1 l0_2 a0_3) else (none))) = some r := H
                have A39 := Aside0.mk A390
                clear A390
                by_cases c40 : x7_1 = true
                ·
                 subst c40
                 have H1 : (if t232 = 0 then (capstanlaw11_CallsOrder.l0 kj25 t211 y228 y226 ((t229.length : Int) == 0) (wrap64 (x8_1 + 1)) l0_0 l0_1 l0_2 a0_3) else (none)) = some r := by rw [if_pos rfl] at H; exact H
                 clear H
                 have H := H1
                 clear H1
                 by_cases c41 : t232 = 0
                 ·
                  rw [if_pos c41] at H
                  have c41b0 : (t232 == 0) = true := beq_iff_eq.mpr c41
                  have c41b1 : (t232 != 0) = false := bne_eq_false_iff_eq.mpr c41
                  clear c41
                  as_aux_lemma =>
                   have H' := Aside0.mk H
                   clear H
                   have p225 : 0 ≤ (x8_1 : Int) := of_decide_eq_true (au4)
                   have q225 : x8_1 < (t211.length : Int) := of_decide_eq_true (au4)
                   obtain ⟨ad225, e225, hx225_0⟩ := Kd.at_int (Kd.R_readsN HO_3.out) x8_1 p225 q225
                   cases e225
                   replace p225 := eq_true p225
                   replace q225 := eq_true q225
                   have p37 : 0 ≤ ((rd t211 x8_1) : Int) := of_decide_eq_true (au4)
                   have q37 : ((rd t211 x8_1) : Int) < (40 : Int) := of_decide_eq_true (au4)
                   obtain ⟨hx37_0, hf37_0⟩ := Kd.R_celln false HO_6.out ((rd t211 x8_1) : Int) p37 q37
                   replace p37 := eq_true p37
                   replace q37 := eq_true q37
                   have HP42 := Kd.R_putg HO_6.out ((rd t211 x8_1) : Int) true
                   go_wp2_with (first | ((with_reducible refine gate_store (t := 4) (p := 74) rfl ?_); refine store_event (t := 4) (p := 74) (v := ?vo_w43) (w1 := (wc.setCell ⟨goa63xy218, ((rd t211 x8_1) : Int).toNat, none⟩ (.bool true))) ?hg ?ho ?hn ?hr ?_; (case ho => rfl); (case hg => rfl); (case hn => rfl); (case hr => first | (go_simp; done) | (go_simp; rfl)); intro w43 hw; have hg : wc.grownBy w43 (some goa63xy218) := (by rw [hw]; exact HP42.2); have hp_ : Kd.R Kd.bool 63 w43 w.heap.size (fun _ => True) (.slice (some ⟨goa63xy218, 0, none⟩) 40 40) y226 := (by rw [hw, Ny226.out]; exact HP42.1); clear HP42; have n0_ := Aside0.mk (Kd.R_over' (v := (.slice (some ⟨goa63xy218, 0, none⟩) 40 40)) (au7) (Kd.R_typed HO_6.out) (by decide) hg); have n1_ := Aside0.mk (Kd.R_over' (v := (.slice (some ⟨goa63xy218, 0, none⟩) 40 40)) (au8) (Kd.R_typed HO_6.out) (by decide) hg); have n2_ := Aside0.mk (hp_); have n3_ := Aside0.mk (blk_grown (g := gb208) (o := .cells #[.slice A0_0 l0_0.length c0_0, .slice A0_1 l0_1.length c0_1, .slice A0_2 l0_2.length c0_2, .int .i64 a0_3] 25 (0, 0)) (au5) hg (Kd.R_ne HO_6.out BK208.out (by decide))); have n4_ := Aside0.mk ((by rw [hw]; exact below_set (HB.out) GBa63xy218.out : Below w.heap.size w w43)); clear HO_3; clear HO_5; clear HO_6; clear BK208; clear HB; have HO_3 := n0_; have HO_5 := n1_; have HO_6 := n2_; have BK208 := n3_; have HB := n4_; clear n0_ n1_ n2_ n3_ n4_; clear hg hw hp_; have p227 : 0 ≤ (x8_1 : Int) := of_decide_eq_true (au4); have q227 : x8_1 < (t211.length : Int) := of_decide_eq_true (au4); obtain ⟨ad227, e227, hx227_0⟩ := Kd.at_int (Kd.R_readsN HO_3.out) x8_1 p227 q227; obtain rfl : ad225 = ad227 := (by injection e227); replace p227 := eq_true p227; replace q227 := eq_true q227; have p38 : 0 ≤ ((rd t211 x8_1) : Int) := of_decide_eq_true (au4); have q38 : ((rd t211 x8_1) : Int) < (40 : Int) := of_decide_eq_true (au4); obtain ⟨hx38_0, hf38_0⟩ := Kd.R_celln 0 HO_5.out ((rd t211 x8_1) : Int) p38 q38; replace p38 := eq_true p38; replace q38 := eq_true q38; obtain ⟨hy44_, hz44_⟩ := Kd.R_celln 0 HO_5.out ((rd t211 x8_1) : Int) (of_decide_eq_true (au4)) (of_decide_eq_true (au4)); have HP44 := Kd.R_putg HO_5.out ((rd t211 x8_1) : Int) x8_1) | ((with_reducible refine gate_store (t := 3) (p := 80) rfl ?_); refine store_event (t := 3) (p := 80) (v := ?vo_w45) (w1 := (w43.setCell ⟨goa62xy215, ((rd t211 x8_1) : Int).toNat, none⟩ (.int .i64 x8_1))) ?hg ?ho ?hn ?hr ?_; (case ho => rfl); (case hg => rfl); (case hn => rfl); (case hr => first | (go_simp; done) | (go_simp; rfl)); intro w45 hw; have hg : w43.grownBy w45 (some goa62xy215) := (by rw [hw]; exact HP44.2); have hp_ : Kd.R (Kd.int .i64) 62 w45 w.heap.size (fun k_ => some k_ ≠ (.slice (some ad225) t211.length co19 : Value).ownBlock) (.slice (some ⟨goa62xy215, 0, none⟩) 40 40) y228 := (by rw [hw, Ny228.out]; exact HP44.1); clear HP44; have n0_ := Aside0.mk (Kd.R_after (v := (.slice (some ⟨goa62xy215, 0, none⟩) 40 40)) (v1 := (.slice (some ⟨goa62xy215, 0, none⟩) 40 40)) (ok := (fun _ => True)) (by (with_reducible repeat (first | apply Kd.R_alloc | apply Kd.R_drewN | apply Kd.R_drew)); first | exact Kd.R_mono HO_3.out (fun _ hk => ⟨trivial, hk⟩) | exact Kd.R_mono (Kd.R_mono HO_3.out (fun _ hk => ⟨trivial, hk⟩)) (fun _ h_ => h_.2)) hg (.inl rfl)); have n1_ := Aside0.mk (hp_); have n2_ := Aside0.mk (Kd.R_over' (v := (.slice (some ⟨goa62xy215, 0, none⟩) 40 40)) (au36) (Kd.R_typed HO_5.out) (by decide) hg); have n3_ := Aside0.mk (blk_grown (g := gb208) (o := .cells #[.slice A0_0 l0_0.length c0_0, .slice A0_1 l0_1.length c0_1, .slice A0_2 l0_2.length c0_2, .int .i64 a0_3] 25 (0, 0)) (au5) hg (Kd.R_ne HO_5.out BK208.out (by decide))); have n4_ := Aside0.mk ((by rw [hw]; exact below_set (HB.out) GBa62xy215.out : Below w.heap.size w w45)); clear HO_3; clear HO_5; clear HO_6; clear BK208; clear HB; have HO_3 := n0_; have HO_5 := n1_; have HO_6 := n2_; have BK208 := n3_; have HB := n4_; clear n0_ n1_ n2_ n3_ n4_; clear hg hw hp_; obtain ⟨hcz46_0, hcz46_1, hcz46_2, hcz46_3, hfz46_0, hfz46_1, hfz46_2, hfz46_3⟩ := blk_all4 BK208.out) | ((with_reducible refine gate_callee (f := 29) rfl ?_); refine goesL_ (some 84) rfl rfl Try.func29 (by kernel_rfl) rfl #[.agg #[.slice A0_0 l0_0.length c0_0, .slice A0_1 l0_1.length c0_1, .slice A0_2 l0_2.length c0_2, .int .i64 a0_3], .int .i64 x8_1] rfl (au9) ?_; (with_reducible refine (calls_Whom.calls _ _ l0_0 _ _ l0_1 _ _ l0_2 a0_3 x8_1 t229 t232 _ ?side1 ?side2 ?side3 ?side4 ?side5 ?side6 A39.out).mono ?_); (case side1 => exact au19); (case side2 => exact HC0_0.out); (case side3 => exact au20); (case side4 => exact HC0_1.out); (case side5 => exact au21); (case side6 => exact HC0_2.out); rintro e w47 ⟨v230, rfl, ho0, hb⟩; refine ⟨_, rfl, ?_⟩; have n0_ := Aside0.mk (Kd.R_elder' (au7) (Kd.R_base ho0) hb); have n1_ := Aside0.mk (Kd.R_elder' (au8) (Kd.R_base ho0) hb); have n2_ := Aside0.mk (Kd.R_below (au36) hb); have n3_ := Aside0.mk (Kd.R_lower (Kd.R_new' (Kd.R_new' ho0 (Kd.R_lt (au7))) (Kd.R_lt (au8))) (below_size (au1))); have n4_ := Aside0.mk (blk_below (g := gb208) (o := .cells #[.slice A0_0 l0_0.length c0_0, .slice A0_1 l0_1.length c0_1, .slice A0_2 l0_2.length c0_2, .int .i64 a0_3] 25 (0, 0)) (au5) hb); have n5_ := Aside0.mk (below_step (au1) hb); clear HO_3; clear HO_5; clear HO_6; clear BK208; clear HB; have HO_3 := n0_; have HO_5 := n1_; have HO_6 := n2_; have HO231 := n3_; have BK208 := n4_; have HB := n5_; clear n0_ n1_ n2_ n3_ n4_ n5_; (try clear hb); (try clear hb2); (try clear hk); (try clear hi); (try clear ho0); obtain ⟨Ao48, co48, eo48⟩ := Kd.R_slice HO231.out; subst eo48))
                   go_roundg kj25
                   case measure => have := HK1.out; have := HJ25.out; omega
                   case rel => exact ⟨(y228), (y226), (((t229.length : Int) == 0)), (wrap64 (x8_1 + 1)), (au25), (au25), H', ⟨by have := HK1.out; have := HJ25.out; omega⟩, ⟨by (with_reducible repeat (first | apply Kd.R_alloc | apply Kd.R_drewN | apply Kd.R_drew)); first | exact Kd.R_mono HO_3.out (fun _ hk => hk.1.2) | exact Kd.R_mono (Kd.R_mono HO_3.out (fun _ hk => hk.1.2)) (fun _ h_ => h_.2)⟩, ⟨au54⟩, ⟨au36⟩, ⟨au5⟩, ⟨au1⟩⟩
                 ·
                  rw [if_neg c41] at H
                  exact absurd H (by simp)
                ·
                 replace c40 := Bool.eq_false_iff.mpr c40
                 subst c40
                 have H1 : (if t232 = 0 then (capstanlaw11_CallsOrder.l0 kj25 t211 y228 y226 false (wrap64 (x8_1 + 1)) l0_0 l0_1 l0_2 a0_3) else (none)) = some r := by rw [if_neg (show ¬ (false = true) by decide)] at H; exact H
                 clear H
                 have H := H1
                 clear H1
                 by_cases c49 : t232 = 0
                 ·
                  rw [if_pos c49] at H
                  have c49b0 : (t232 == 0) = true := beq_iff_eq.mpr c49
                  have c49b1 : (t232 != 0) = false := bne_eq_false_iff_eq.mpr c49
                  clear c49
                  as_aux_lemma =>
                   have H' := Aside0.mk H
                   clear H
                   have p225 : 0 ≤ (x8_1 : Int) := of_decide_eq_true (au4)
                   have q225 : x8_1 < (t211.length : Int) := of_decide_eq_true (au4)
                   obtain ⟨ad225, e225, hx225_0⟩ := Kd.at_int (Kd.R_readsN HO_3.out) x8_1 p225 q225
                   cases e225
                   replace p225 := eq_true p225
                   replace q225 := eq_true q225
                   have p37 : 0 ≤ ((rd t211 x8_1) : Int) := of_decide_eq_true (au4)
                   have q37 : ((rd t211 x8_1) : Int) < (40 : Int) := of_decide_eq_true (au4)
                   obtain ⟨hx37_0, hf37_0⟩ := Kd.R_celln false HO_6.out ((rd t211 x8_1) : Int) p37 q37
                   replace p37 := eq_true p37
                   replace q37 := eq_true q37
                   have HP50 := Kd.R_putg HO_6.out ((rd t211 x8_1) : Int) true
                   go_wp2_with (first | ((with_reducible refine gate_store (t := 4) (p := 74) rfl ?_); refine store_event (t := 4) (p := 74) (v := ?vo_w51) (w1 := (wc.setCell ⟨goa63xy218, ((rd t211 x8_1) : Int).toNat, none⟩ (.bool true))) ?hg ?ho ?hn ?hr ?_; (case ho => rfl); (case hg => rfl); (case hn => rfl); (case hr => first | (go_simp; done) | (go_simp; rfl)); intro w51 hw; have hg : wc.grownBy w51 (some goa63xy218) := (by rw [hw]; exact HP50.2); have hp_ : Kd.R Kd.bool 63 w51 w.heap.size (fun _ => True) (.slice (some ⟨goa63xy218, 0, none⟩) 40 40) y226 := (by rw [hw, Ny226.out]; exact HP50.1); clear HP50; have n0_ := Aside0.mk (Kd.R_over' (v := (.slice (some ⟨goa63xy218, 0, none⟩) 40 40)) (au7) (Kd.R_typed HO_6.out) (by decide) hg); have n1_ := Aside0.mk (Kd.R_over' (v := (.slice (some ⟨goa63xy218, 0, none⟩) 40 40)) (au8) (Kd.R_typed HO_6.out) (by decide) hg); have n2_ := Aside0.mk (hp_); have n3_ := Aside0.mk (blk_grown (g := gb208) (o := .cells #[.slice A0_0 l0_0.length c0_0, .slice A0_1 l0_1.length c0_1, .slice A0_2 l0_2.length c0_2, .int .i64 a0_3] 25 (0, 0)) (au5) hg (Kd.R_ne HO_6.out BK208.out (by decide))); have n4_ := Aside0.mk ((by rw [hw]; exact below_set (HB.out) GBa63xy218.out : Below w.heap.size w w51)); clear HO_3; clear HO_5; clear HO_6; clear BK208; clear HB; have HO_3 := n0_; have HO_5 := n1_; have HO_6 := n2_; have BK208 := n3_; have HB := n4_; clear n0_ n1_ n2_ n3_ n4_; clear hg hw hp_; have p227 : 0 ≤ (x8_1 : Int) := of_decide_eq_true (au4); have q227 : x8_1 < (t211.length : Int) := of_decide_eq_true (au4); obtain ⟨ad227, e227, hx227_0⟩ := Kd.at_int (Kd.R_readsN HO_3.out) x8_1 p227 q227; obtain rfl : ad225 = ad227 := (by injection e227); replace p227 := eq_true p227; replace q227 := eq_true q227; have p38 : 0 ≤ ((rd t211 x8_1) : Int) := of_decide_eq_true (au4); have q38 : ((rd t211 x8_1) : Int) < (40 : Int) := of_decide_eq_true (au4); obtain ⟨hx38_0, hf38_0⟩ := Kd.R_celln 0 HO_5.out ((rd t211 x8_1) : Int) p38 q38; replace p38 := eq_true p38; replace q38 := eq_true q38; obtain ⟨hy52_, hz52_⟩ := Kd.R_celln 0 HO_5.out ((rd t211 x8_1) : Int) (of_decide_eq_true (au4)) (of_decide_eq_true (au4)); have HP52 := Kd.R_putg HO_5.out ((rd t211 x8_1) : Int) x8_1) | ((with_reducible refine gate_store (t := 3) (p := 80) rfl ?_); refine store_event (t := 3) (p := 80) (v := ?vo_w53) (w1 := (w51.setCell ⟨goa62xy215, ((rd t211 x8_1) : Int).toNat, none⟩ (.int .i64 x8_1))) ?hg ?ho ?hn ?hr ?_; (case ho => rfl); (case hg => rfl); (case hn => rfl); (case hr => first | (go_simp; done) | (go_simp; rfl)); intro w53 hw; have hg : w51.grownBy w53 (some goa62xy215) := (by rw [hw]; exact HP52.2); have hp_ : Kd.R (Kd.int .i64) 62 w53 w.heap.size (fun k_ => some k_ ≠ (.slice (some ad225) t211.length co19 : Value).ownBlock) (.slice (some ⟨goa62xy215, 0, none⟩) 40 40) y228 := (by rw [hw, Ny228.out]; exact HP52.1); clear HP52; have n0_ := Aside0.mk (Kd.R_after (v := (.slice (some ⟨goa62xy215, 0, none⟩) 40 40)) (v1 := (.slice (some ⟨goa62xy215, 0, none⟩) 40 40)) (ok := (fun _ => True)) (by (with_reducible repeat (first | apply Kd.R_alloc | apply Kd.R_drewN | apply Kd.R_drew)); first | exact Kd.R_mono HO_3.out (fun _ hk => ⟨trivial, hk⟩) | exact Kd.R_mono (Kd.R_mono HO_3.out (fun _ hk => ⟨trivial, hk⟩)) (fun _ h_ => h_.2)) hg (.inl rfl)); have n1_ := Aside0.mk (hp_); have n2_ := Aside0.mk (Kd.R_over' (v := (.slice (some ⟨goa62xy215, 0, none⟩) 40 40)) (au36) (Kd.R_typed HO_5.out) (by decide) hg); have n3_ := Aside0.mk (blk_grown (g := gb208) (o := .cells #[.slice A0_0 l0_0.length c0_0, .slice A0_1 l0_1.length c0_1, .slice A0_2 l0_2.length c0_2, .int .i64 a0_3] 25 (0, 0)) (au5) hg (Kd.R_ne HO_5.out BK208.out (by decide))); have n4_ := Aside0.mk ((by rw [hw]; exact below_set (HB.out) GBa62xy215.out : Below w.heap.size w w53)); clear HO_3; clear HO_5; clear HO_6; clear BK208; clear HB; have HO_3 := n0_; have HO_5 := n1_; have HO_6 := n2_; have BK208 := n3_; have HB := n4_; clear n0_ n1_ n2_ n3_ n4_; clear hg hw hp_; obtain ⟨hcz54_0, hcz54_1, hcz54_2, hcz54_3, hfz54_0, hfz54_1, hfz54_2, hfz54_3⟩ := blk_all4 BK208.out) | ((with_reducible refine gate_callee (f := 29) rfl ?_); refine goesL_ (some 84) rfl rfl Try.func29 (by kernel_rfl) rfl #[.agg #[.slice A0_0 l0_0.length c0_0, .slice A0_1 l0_1.length c0_1, .slice A0_2 l0_2.length c0_2, .int .i64 a0_3], .int .i64 x8_1] rfl (au9) ?_; (with_reducible refine (calls_Whom.calls _ _ l0_0 _ _ l0_1 _ _ l0_2 a0_3 x8_1 t229 t232 _ ?side1 ?side2 ?side3 ?side4 ?side5 ?side6 A39.out).mono ?_); (case side1 => exact au19); (case side2 => exact HC0_0.out); (case side3 => exact au20); (case side4 => exact HC0_1.out); (case side5 => exact au21); (case side6 => exact HC0_2.out); rintro e w55 ⟨v230, rfl, ho0, hb⟩; refine ⟨_, rfl, ?_⟩; have n0_ := Aside0.mk (Kd.R_elder' (au7) (Kd.R_base ho0) hb); have n1_ := Aside0.mk (Kd.R_elder' (au8) (Kd.R_base ho0) hb); have n2_ := Aside0.mk (Kd.R_below (au36) hb); have n3_ := Aside0.mk (Kd.R_lower (Kd.R_new' (Kd.R_new' ho0 (Kd.R_lt (au7))) (Kd.R_lt (au8))) (below_size (au1))); have n4_ := Aside0.mk (blk_below (g := gb208) (o := .cells #[.slice A0_0 l0_0.length c0_0, .slice A0_1 l0_1.length c0_1, .slice A0_2 l0_2.length c0_2, .int .i64 a0_3] 25 (0, 0)) (au5) hb); have n5_ := Aside0.mk (below_step (au1) hb); clear HO_3; clear HO_5; clear HO_6; clear BK208; clear HB; have HO_3 := n0_; have HO_5 := n1_; have HO_6 := n2_; have HO231 := n3_; have BK208 := n4_; have HB := n5_; clear n0_ n1_ n2_ n3_ n4_ n5_; (try clear hb); (try clear hb2); (try clear hk); (try clear hi); (try clear ho0)))
                   go_roundg kj25
                   case measure => have := HK1.out; have := HJ25.out; omega
                   case rel => exact ⟨(y228), (y226), (false), (wrap64 (x8_1 + 1)), (au25), (au25), H', ⟨by have := HK1.out; have := HJ25.out; omega⟩, ⟨by (with_reducible repeat (first | apply Kd.R_alloc | apply Kd.R_drewN | apply Kd.R_drew)); first | exact Kd.R_mono HO_3.out (fun _ hk => hk.1.2) | exact Kd.R_mono (Kd.R_mono HO_3.out (fun _ hk => hk.1.2)) (fun _ h_ => h_.2)⟩, ⟨au54⟩, ⟨au36⟩, ⟨au5⟩, ⟨au1⟩⟩
                 ·
                  rw [if_neg c49] at H
                  exact absurd H (by simp)
               ·
                rw [if_neg c36] at H
                exact absurd H (by simp)
              ·
               rw [if_neg c35] at H
               exact absurd H (by simp)
             ·
              rw [if_neg c34] at H
              exact absurd H (by simp)
            ·
             rw [if_neg c33] at H
             exact absurd H (by simp)
        ·
         rw [if_neg c25] at H
         have c25b0 : decide (x8_1 < (t211.length : Int)) = false := decide_eq_false c25
         clear c25
         as_aux_lemma =>
          have H' := Aside0.mk H
          clear H
          go_wp2
          go_loopg [11] k1 (fun kq v11 w' => ∃ (x11_2 : Int), v11 = .int .i64 x11_2 ∧ Aside0 (capstanlaw11_CallsOrder.l1 kq t211 x5_1 x7_1 x11_2 l0_0 l0_1 l0_2 a0_3 = some r) ∧ Aside0 (kq ≤ k1) ∧ Aside0 (Kd.R (Kd.int .i64) 3 w' w.heap.size (fun k_ => some k_ ≠ ((.slice (some ⟨goa62xy215, 0, none⟩) 40 40) : Value).ownBlock) (.slice Ao19 t211.length co19) t211) ∧ Aside0 (Kd.R (Kd.int .i64) 62 w' w.heap.size (fun k_ => some k_ ≠ ((.slice Ao19 t211.length co19) : Value).ownBlock) (.slice (some ⟨goa62xy215, 0, none⟩) 40 40) x5_1) ∧ Aside0 (w'.heap[gb208]? = some (.cells #[(.slice A0_0 l0_0.length c0_0), (.slice A0_1 l0_1.length c0_1), (.slice A0_2 l0_2.length c0_2), .int .i64 a0_3] 25 (0, 0))) ∧ Aside0 (Below w.heap.size w w'))
          case atStart => exact ⟨(0), (au25), H', ⟨Nat.le_refl _⟩, ⟨au7⟩, ⟨au8⟩, ⟨au5⟩, ⟨au1⟩⟩
          case round =>
           clear H'
           try clear c1
           try clear c2
           try clear p2
           try clear q2
           try clear hx2
           try clear c3
           try clear p3
           try clear q3
           try clear hx3
           try clear hf3
           try clear c4
           try clear c5
           try clear c6
           try clear p6
           try clear c11
           try clear c11b0
           try clear c11b1
           try clear c12
           try clear c12b0
           try clear c12b1
           try clear c12b2
           try clear p22
           try clear q22
           try clear hx22
           try clear c25
           try clear c25b0
           try clear c27
           try clear c27b0
           try clear c28
           try clear c28b0
           try clear c29
           try clear c29b0
           try clear c30
           try clear c30b0
           try clear c31
           try clear c31b0
           try clear c32
           try clear c33
           try clear c33b0
           try clear c34
           try clear c34b0
           try clear c35
           try clear c35b0
           try clear c36
           try clear c36b0
           try clear p37
           try clear q37
           try clear hx37
           try clear hf37
           try clear p38
           try clear q38
           try clear hx38
           try clear hf38
           try clear c40
           try clear c41
           try clear c41b0
           try clear c41b1
           try clear c49
           try clear c49b0
           try clear c49b1
           try clear hcz15_0
           try clear hcz15_1
           try clear hcz15_2
           try clear hcz15_3
           try clear hcz17_0
           try clear hcz17_1
           try clear hcz17_2
           try clear hcz17_3
           try clear hcz20_0
           try clear hcz20_1
           try clear hcz20_2
           try clear hcz20_3
           try clear hcz46_0
           try clear hcz46_1
           try clear hcz46_2
           try clear hcz46_3
           try clear hcz54_0
           try clear hcz54_1
           try clear hcz54_2
           try clear hcz54_3
           try clear hcz8_0
           try clear hcz8_1
           try clear hcz8_2
           try clear hcz8_3
           try clear hfz15_0
           try clear hfz15_1
           try clear hfz15_2
           try clear hfz15_3
           try clear hfz17_0
           try clear hfz17_1
           try clear hfz17_2
           try clear hfz17_3
           try clear hfz20_0
           try clear hfz20_1
           try clear hfz20_2
           try clear hfz20_3
           try clear hfz46_0
           try clear hfz46_1
           try clear hfz46_2
           try clear hfz46_3
           try clear hfz54_0
           try clear hfz54_1
           try clear hfz54_2
           try clear hfz54_3
           try clear hfz8_0
           try clear hfz8_1
           try clear hfz8_2
           try clear hfz8_3
           try clear hx221_0
           try clear hx222_0
           try clear hx223_0
           try clear hx224_0
           try clear hx225_0
           try clear hx227_0
           try clear hx37_0
           try clear hx38_0
           try clear p2
           try clear p22
           try clear p221
           try clear p222
           try clear p223
           try clear p224
           try clear p225
           try clear p227
           try clear p37
           try clear p38
           try clear q2
           try clear q22
           try clear q221
           try clear q222
           try clear q223
           try clear q224
           try clear q225
           try clear q227
           try clear q37
           try clear q38
           obtain ⟨x11_2, rfl, HA, HK2, HO_3, HO_5, BK208, HB⟩ := hrel
           cases gk with
           | zero => exact absurd HA.out (by simp [capstanlaw11_CallsOrder.l1])
           | succ k2 =>
            have H := HA.out
            clear HA
            simp only [capstanlaw11_CallsOrder.l1] at H
            by_cases c56 : x11_2 < (t211.length : Int)
            ·
             rw [if_pos c56] at H
             have c56b0 : decide (x11_2 < (t211.length : Int)) = true := decide_eq_true c56
             clear c56
             replace H := Option.bind_eq_some_iff.mp H
             obtain ⟨⟨t233, t236⟩, A570, H⟩ := H
             replace H : (if t236 = 0 then (if x7_1 = true then (if 0 ≤ x11_2 then (if (rd t211 x11_2) = x11_2 then (capstanlaw11_CallsOrder.j3 k2 t211 x5_1 x7_1 x11_2 t233 (decide ((t233.length : Int) > 0)) l0_0 l0_1 l0_2 a0_3) else (none)) else (none)) else (capstanlaw11_CallsOrder.j3 k2 t211 x5_1 x7_1 x11_2 t233 false l0_0 l0_1 l0_2 a0_3)) else (none)) = some r := H
             have A57 := Aside0.mk A570
             clear A570
             have HC58 := Aside0.mk H
             clear H
             obtain ⟨hcz59_0, hcz59_1, hcz59_2, hcz59_3, hfz59_0, hfz59_1, hfz59_2, hfz59_3⟩ := blk_all4 BK208.out
             go_upto_region 28 with (first | ((with_reducible refine gate_callee (f := 31) rfl ?_); refine goesL_ (some 104) rfl rfl Try.func31 (by kernel_rfl) rfl #[.agg #[.slice A0_0 l0_0.length c0_0, .slice A0_1 l0_1.length c0_1, .slice A0_2 l0_2.length c0_2, .int .i64 a0_3], .int .i64 x11_2] rfl (au9) ?_; (with_reducible refine (calls_Leads.calls k2 _ _ l0_0 _ _ l0_1 _ _ l0_2 a0_3 x11_2 t233 t236 _ ?side1 ?side2 ?side3 ?side4 ?side5 ?side6 A57.out).mono ?_); (case side1 => exact au19); (case side2 => exact HC0_0.out); (case side3 => exact au20); (case side4 => exact HC0_1.out); (case side5 => exact au21); (case side6 => exact HC0_2.out); rintro e w60 ⟨v234, rfl, ho0, hb⟩; refine ⟨_, rfl, ?_⟩; have n0_ := Aside0.mk (Kd.R_elder' (au7) (Kd.R_base ho0) hb); have n1_ := Aside0.mk (Kd.R_elder' (au8) (Kd.R_base ho0) hb); have n2_ := Aside0.mk (Kd.R_lower (Kd.R_new' (Kd.R_new' ho0 (Kd.R_lt (au7))) (Kd.R_lt (au8))) (below_size (au1))); have n3_ := Aside0.mk (blk_below (g := gb208) (o := .cells #[.slice A0_0 l0_0.length c0_0, .slice A0_1 l0_1.length c0_1, .slice A0_2 l0_2.length c0_2, .int .i64 a0_3] 25 (0, 0)) (au5) hb); have n4_ := Aside0.mk (below_step (au1) hb); clear HO_3; clear HO_5; clear BK208; clear HB; have HO_3 := n0_; have HO_5 := n1_; have HO235 := n2_; have BK208 := n3_; have HB := n4_; clear n0_ n1_ n2_ n3_ n4_; (try clear hb); (try clear hb2); (try clear hk); (try clear hi); (try clear ho0)))
             (try simp only [Act.put, List.setIfInBounds_toArray, List.set_cons_zero, List.set_cons_succ])
             go_cut [124] (fun v124 wc => ∃ (kq : Nat) (x124_57 : Bool), v124 = .bool x124_57 ∧ Aside0 (capstanlaw11_CallsOrder.j3 kq t211 x5_1 x7_1 x11_2 t233 x124_57 l0_0 l0_1 l0_2 a0_3 = some r) ∧ Aside0 (kq ≤ k2) ∧ Aside0 (Kd.R (Kd.int .i64) 3 wc w.heap.size (fun k_ => some k_ ≠ ((.slice (some ⟨goa62xy215, 0, none⟩) 40 40) : Value).ownBlock ∧ some k_ ≠ (v234 : Value).ownBlock) (.slice Ao19 t211.length co19) t211) ∧ Aside0 (Kd.R (Kd.int .i64) 62 wc w.heap.size (fun k_ => some k_ ≠ ((.slice Ao19 t211.length co19) : Value).ownBlock ∧ some k_ ≠ (v234 : Value).ownBlock) (.slice (some ⟨goa62xy215, 0, none⟩) 40 40) x5_1) ∧ Aside0 (Kd.R (Kd.int .i64) 3 wc w.heap.size (fun k_ => some k_ ≠ ((.slice Ao19 t211.length co19) : Value).ownBlock ∧ some k_ ≠ ((.slice (some ⟨goa62xy215, 0, none⟩) 40 40) : Value).ownBlock) v234 t233) ∧ Aside0 (wc.heap[gb208]? = some (.cells #[(.slice A0_0 l0_0.length c0_0), (.slice A0_1 l0_1.length c0_1), (.slice A0_2 l0_2.length c0_2), .int .i64 a0_3] 25 (0, 0))) ∧ Aside0 (Below w.heap.size w wc))
             case first =>
              have H := HC58.out
              clear HC58
              by_cases c61 : t236 = 0
              ·
               rw [if_pos c61] at H
               have c61b0 : (t236 == 0) = true := beq_iff_eq.mpr c61
               have c61b1 : (t236 != 0) = false := bne_eq_false_iff_eq.mpr c61
               clear c61
               (first | rw [c61b0] | (simp only [i64_w, i32_w]; rw [c61b0]) | skip)
               by_cases c62 : x7_1 = true
               ·
                subst c62
                have H1 : (if 0 ≤ x11_2 then (if (rd t211 x11_2) = x11_2 then (capstanlaw11_CallsOrder.j3 k2 t211 x5_1 true x11_2 t233 (decide ((t233.length : Int) > 0)) l0_0 l0_1 l0_2 a0_3) else (none)) else (none)) = some r := by rw [if_pos rfl] at H; exact H
                clear H
                have H := H1
                clear H1
                by_cases c63 : 0 ≤ x11_2
                ·
                 rw [if_pos c63] at H
                 have c63b0 : decide (0 ≤ x11_2) = true := decide_eq_true c63
                 clear c63
                 by_cases c64 : (rd t211 x11_2) = x11_2
                 ·
                  rw [if_pos c64] at H
                  have c64b0 : ((rd t211 x11_2) == x11_2) = true := beq_iff_eq.mpr c64
                  have c64b1 : ((rd t211 x11_2) != x11_2) = false := bne_eq_false_iff_eq.mpr c64
                  clear c64
                  as_aux_lemma =>
                   have H' := Aside0.mk H
                   clear H
                   have p237 : 0 ≤ (x11_2 : Int) := of_decide_eq_true (au4)
                   have q237 : x11_2 < (t211.length : Int) := of_decide_eq_true (au4)
                   obtain ⟨ad237, e237, hx237_0⟩ := Kd.at_int (Kd.R_readsN HO_3.out) x11_2 p237 q237
                   cases e237
                   replace p237 := eq_true p237
                   replace q237 := eq_true q237
                   obtain ⟨Ao65, co65, eo65⟩ := Kd.R_slice HO235.out
                   subst eo65
                   go_wp2
                   go_meet
                   case rel => exact ⟨_, (decide ((t233.length : Int) > 0)), (au25), H', ⟨by have := HK1.out; have := HK2.out; first | omega | exact Nat.le_refl _⟩, ⟨au7⟩, ⟨au8⟩, ⟨by (with_reducible repeat (first | apply Kd.R_alloc | apply Kd.R_drewN | apply Kd.R_drew)); first | exact Kd.R_mono HO235.out (fun _ hk => ⟨hk.1.2, hk.2⟩) | exact Kd.R_mono (Kd.R_mono HO235.out (fun _ hk => ⟨hk.1.2, hk.2⟩)) (fun _ h_ => h_.2)⟩, ⟨au5⟩, ⟨au1⟩⟩
                 ·
                  rw [if_neg c64] at H
                  exact absurd H (by simp)
                ·
                 rw [if_neg c63] at H
                 exact absurd H (by simp)
               ·
                replace c62 := Bool.eq_false_iff.mpr c62
                subst c62
                have H1 : (capstanlaw11_CallsOrder.j3 k2 t211 x5_1 false x11_2 t233 false l0_0 l0_1 l0_2 a0_3) = some r := by rw [if_neg (show ¬ (false = true) by decide)] at H; exact H
                clear H
                have H := H1
                clear H1
                as_aux_lemma =>
                 have H' := Aside0.mk H
                 clear H
                 go_wp2
                 go_meet
                 case rel => exact ⟨_, (false), (au25), H', ⟨by have := HK1.out; have := HK2.out; first | omega | exact Nat.le_refl _⟩, ⟨au7⟩, ⟨au8⟩, ⟨by (with_reducible repeat (first | apply Kd.R_alloc | apply Kd.R_drewN | apply Kd.R_drew)); first | exact Kd.R_mono HO235.out (fun _ hk => ⟨hk.1.2, hk.2⟩) | exact Kd.R_mono (Kd.R_mono HO235.out (fun _ hk => ⟨hk.1.2, hk.2⟩)) (fun _ h_ => h_.2)⟩, ⟨au5⟩, ⟨au1⟩⟩
              ·
               rw [if_neg c61] at H
               exact absurd H (by simp)
             case rest =>
              clear HC58
              try clear c1
              try clear c2
              try clear p2
              try clear q2
              try clear hx2
              try clear c3
              try clear p3
              try clear q3
              try clear hx3
              try clear hf3
              try clear c4
              try clear c5
              try clear c6
              try clear p6
              try clear c11
              try clear c11b0
              try clear c11b1
              try clear c12
              try clear c12b0
              try clear c12b1
              try clear c12b2
              try clear p22
              try clear q22
              try clear hx22
              try clear p23
              try clear q23
              try clear hx23
              try clear c25
              try clear c25b0
              try clear c27
              try clear c27b0
              try clear c28
              try clear c28b0
              try clear c29
              try clear c29b0
              try clear c30
              try clear c30b0
              try clear c31
              try clear c31b0
              try clear c32
              try clear c33
              try clear c33b0
              try clear c34
              try clear c34b0
              try clear c35
              try clear c35b0
              try clear c36
              try clear c36b0
              try clear p37
              try clear q37
              try clear hx37
              try clear hf37
              try clear p38
              try clear q38
              try clear hx38
              try clear hf38
              try clear c40
              try clear c41
              try clear c41b0
              try clear c41b1
              try clear c49
              try clear c49b0
              try clear c49b1
              try clear c56
              try clear c56b0
              try clear c61
              try clear c61b0
              try clear c61b1
              try clear c62
              try clear c63
              try clear c63b0
              try clear c64
              try clear c64b0
              try clear c64b1
              try clear p64
              try clear hcz15_0
              try clear hcz15_1
              try clear hcz15_2
              try clear hcz15_3
              try clear hcz17_0
              try clear hcz17_1
              try clear hcz17_2
              try clear hcz17_3
              try clear hcz20_0
              try clear hcz20_1
              try clear hcz20_2
              try clear hcz20_3
              try clear hcz46_0
              try clear hcz46_1
              try clear hcz46_2
              try clear hcz46_3
              try clear hcz54_0
              try clear hcz54_1
              try clear hcz54_2
              try clear hcz54_3
              try clear hcz59_0
              try clear hcz59_1
              try clear hcz59_2
              try clear hcz59_3
              try clear hcz8_0
              try clear hcz8_1
              try clear hcz8_2
              try clear hcz8_3
              try clear hfz15_0
              try clear hfz15_1
              try clear hfz15_2
              try clear hfz15_3
              try clear hfz17_0
              try clear hfz17_1
              try clear hfz17_2
              try clear hfz17_3
              try clear hfz20_0
              try clear hfz20_1
              try clear hfz20_2
              try clear hfz20_3
              try clear hfz46_0
              try clear hfz46_1
              try clear hfz46_2
              try clear hfz46_3
              try clear hfz54_0
              try clear hfz54_1
              try clear hfz54_2
              try clear hfz54_3
              try clear hfz59_0
              try clear hfz59_1
              try clear hfz59_2
              try clear hfz59_3
              try clear hfz8_0
              try clear hfz8_1
              try clear hfz8_2
              try clear hfz8_3
              try clear hx221_0
              try clear hx222_0
              try clear hx223_0
              try clear hx224_0
              try clear hx225_0
              try clear hx227_0
              try clear hx237_0
              try clear hx37_0
              try clear hx38_0
              try clear p2
              try clear p22
              try clear p221
              try clear p222
              try clear p223
              try clear p224
              try clear p225
              try clear p227
              try clear p237
              try clear p3
              try clear p37
              try clear p38
              try clear p6
              try clear q2
              try clear q22
              try clear q221
              try clear q222
              try clear q223
              try clear q224
              try clear q225
              try clear q227
              try clear q237
              try clear q3
              try clear q37
              try clear q38
              obtain ⟨kq, x124_57, rfl, HA, HJ57, HO_3, HO_5, HO_12, BK208, HB⟩ := hcut
              cases kq with
              | zero => exact absurd HA.out (by simp [capstanlaw11_CallsOrder.j3])
              | succ kj57 =>
               have H := HA.out
               clear HA
               simp only [capstanlaw11_CallsOrder.j3] at H
               by_cases c66 : x124_57 = true
               ·
                subst c66
                have H1 : (none) = some r := by rw [if_pos rfl] at H; exact H
                clear H
                have H := H1
                clear H1
                exact absurd H (by simp)
               ·
                replace c66 := Bool.eq_false_iff.mpr c66
                subst c66
                have H1 : (capstanlaw11_CallsOrder.l2 kj57 t211 x5_1 x7_1 x11_2 t233 (List.replicate 40 false) 0 l0_0 l0_1 l0_2 a0_3) = some r := by rw [if_neg (show ¬ (false = true) by decide)] at H; exact H
                clear H
                have H := H1
                clear H1
                obtain ⟨y238, hy238⟩ : ∃ y_ : List Bool, y_ = (List.replicate 40 false) := ⟨_, rfl⟩
                replace H : (capstanlaw11_CallsOrder.l2 kj57 t211 x5_1 x7_1 x11_2 t233 y238 0 l0_0 l0_1 l0_2 a0_3) = some r := by first | (rw [hy238]; with_reducible exact H) | (have H2_ := (Option.bind_some _ _).symm.trans H; rw [hy238]; with_reducible exact H2_) | (have H2_ := (Option.bind_some _ _).symm.trans H; with_reducible exact H2_) | with_reducible exact H | (rw [hy238]; exact H) | exact H
                have Ny238 := Aside0.mk hy238
                clear hy238
                as_aux_lemma =>
                 have H' := Aside0.mk H
                 clear H
                 go_wp2_with (first | ((with_reducible refine gate_dst (N := 14) rfl ?_); (try (refine gate_guard (by rfl) ?_; dsimp only)); refine Kd.R_array (h1 := fun _ => rfl) Value.bool _ 63 40 false ?hg (N := 14) ?hd (ok := fun _ => True) ?hr trivial (Below.refl _ _) (Nat.le_refl _) (by decide) ?_; (case hd => rfl); (case hg => rfl); (case hr => first | (go_simp; done) | (go_simp; rfl)); intro goa63xy238 w67 ho68 hb hg_ hnew_; clear hg_ hnew_; (first | rw [← Ny238.out] at ho68 | (simp only [Int.reduceToNat] at ho68; rw [← Ny238.out] at ho68)); have n0_ := Aside0.mk (Kd.R_below (au7) hb); have n1_ := Aside0.mk (Kd.R_below (au8) hb); have n2_ := Aside0.mk (Kd.R_below (au27) hb); have n3_ := Aside0.mk (Kd.R_lower ho68 (below_size (au1))); have n4_ := Aside0.mk (blk_below (g := gb208) (o := .cells #[.slice A0_0 l0_0.length c0_0, .slice A0_1 l0_1.length c0_1, .slice A0_2 l0_2.length c0_2, .int .i64 a0_3] 25 (0, 0)) (au5) hb); have n5_ := Aside0.mk (below_step (au1) hb); clear HO_3; clear HO_5; clear HO_12; clear BK208; clear HB; have HO_3 := n0_; have HO_5 := n1_; have HO_12 := n2_; have HO240 := n3_; have BK208 := n4_; have HB := n5_; clear n0_ n1_ n2_ n3_ n4_ n5_; clear hb ho68; have GBa63xy238 := Aside0.mk (Kd.R_formN HO240.out (by decide)).1; have GGa63xy238 := Aside0.mk (Kd.R_formN HO240.out (by decide)).2))
                 go_loopg [15] kj57 (fun kq v15 w' => ∃ (x14_4 : List Bool) (x15_4 : Int), v15 = .int .i64 x15_4 ∧ Aside0 (capstanlaw11_CallsOrder.l2 kq t211 x5_1 x7_1 x11_2 t233 x14_4 x15_4 l0_0 l0_1 l0_2 a0_3 = some r) ∧ Aside0 (kq ≤ kj57) ∧ Aside0 (Kd.R (Kd.int .i64) 3 w' w.heap.size (fun k_ => some k_ ≠ ((.slice (some ⟨goa62xy215, 0, none⟩) 40 40) : Value).ownBlock ∧ some k_ ≠ (v234 : Value).ownBlock) (.slice Ao19 t211.length co19) t211) ∧ Aside0 (Kd.R (Kd.int .i64) 62 w' w.heap.size (fun k_ => some k_ ≠ ((.slice Ao19 t211.length co19) : Value).ownBlock ∧ some k_ ≠ (v234 : Value).ownBlock) (.slice (some ⟨goa62xy215, 0, none⟩) 40 40) x5_1) ∧ Aside0 (Kd.R (Kd.int .i64) 3 w' w.heap.size (fun k_ => some k_ ≠ ((.slice Ao19 t211.length co19) : Value).ownBlock ∧ some k_ ≠ ((.slice (some ⟨goa62xy215, 0, none⟩) 40 40) : Value).ownBlock) v234 t233) ∧ Aside0 (Kd.R Kd.bool 63 w' w.heap.size (fun _ => True) (.slice (some ⟨goa63xy238, 0, none⟩) 40 40) x14_4) ∧ Aside0 (w'.heap[gb208]? = some (.cells #[(.slice A0_0 l0_0.length c0_0), (.slice A0_1 l0_1.length c0_1), (.slice A0_2 l0_2.length c0_2), .int .i64 a0_3] 25 (0, 0))) ∧ Aside0 (Below w.heap.size w w'))
                 case atStart => exact ⟨(y238), (0), (au25), H', ⟨Nat.le_refl _⟩, ⟨au7⟩, ⟨au8⟩, ⟨au27⟩, ⟨by (with_reducible repeat (first | apply Kd.R_alloc | apply Kd.R_drewN | apply Kd.R_drew)); first | exact HO240.out | exact Kd.R_mono (HO240.out) (fun _ h_ => h_.2)⟩, ⟨au5⟩, ⟨au1⟩⟩
                 case round =>
                  clear H'
                  try clear c1
                  try clear c2
                  try clear p2
                  try clear q2
                  try clear hx2
                  try clear c3
                  try clear p3
                  try clear q3
                  try clear hx3
                  try clear hf3
                  try clear c4
                  try clear c5
                  try clear c6
                  try clear p6
                  try clear c11
                  try clear c11b0
                  try clear c11b1
                  try clear c12
                  try clear c12b0
                  try clear c12b1
                  try clear c12b2
                  try clear p22
                  try clear q22
                  try clear hx22
                  try clear p23
                  try clear q23
                  try clear hx23
                  try clear c25
                  try clear c25b0
                  try clear c27
                  try clear c27b0
                  try clear c28
                  try clear c28b0
                  try clear c29
                  try clear c29b0
                  try clear c30
                  try clear c30b0
                  try clear c31
                  try clear c31b0
                  try clear c32
                  try clear c33
                  try clear c33b0
                  try clear c34
                  try clear c34b0
                  try clear c35
                  try clear c35b0
                  try clear c36
                  try clear c36b0
                  try clear p37
                  try clear q37
                  try clear hx37
                  try clear hf37
                  try clear p38
                  try clear q38
                  try clear hx38
                  try clear hf38
                  try clear c40
                  try clear c41
                  try clear c41b0
                  try clear c41b1
                  try clear c49
                  try clear c49b0
                  try clear c49b1
                  try clear c56
                  try clear c56b0
                  try clear c61
                  try clear c61b0
                  try clear c61b1
                  try clear c62
                  try clear c63
                  try clear c63b0
                  try clear c64
                  try clear c64b0
                  try clear c64b1
                  try clear p64
                  try clear c66
                  try clear hcz15_0
                  try clear hcz15_1
                  try clear hcz15_2
                  try clear hcz15_3
                  try clear hcz17_0
                  try clear hcz17_1
                  try clear hcz17_2
                  try clear hcz17_3
                  try clear hcz20_0
                  try clear hcz20_1
                  try clear hcz20_2
                  try clear hcz20_3
                  try clear hcz46_0
                  try clear hcz46_1
                  try clear hcz46_2
                  try clear hcz46_3
                  try clear hcz54_0
                  try clear hcz54_1
                  try clear hcz54_2
                  try clear hcz54_3
                  try clear hcz59_0
                  try clear hcz59_1
                  try clear hcz59_2
                  try clear hcz59_3
                  try clear hcz8_0
                  try clear hcz8_1
                  try clear hcz8_2
                  try clear hcz8_3
                  try clear hfz15_0
                  try clear hfz15_1
                  try clear hfz15_2
                  try clear hfz15_3
                  try clear hfz17_0
                  try clear hfz17_1
                  try clear hfz17_2
                  try clear hfz17_3
                  try clear hfz20_0
                  try clear hfz20_1
                  try clear hfz20_2
                  try clear hfz20_3
                  try clear hfz46_0
                  try clear hfz46_1
                  try clear hfz46_2
                  try clear hfz46_3
                  try clear hfz54_0
                  try clear hfz54_1
                  try clear hfz54_2
                  try clear hfz54_3
                  try clear hfz59_0
                  try clear hfz59_1
                  try clear hfz59_2
                  try clear hfz59_3
                  try clear hfz8_0
                  try clear hfz8_1
                  try clear hfz8_2
                  try clear hfz8_3
                  try clear hx221_0
                  try clear hx222_0
                  try clear hx223_0
                  try clear hx224_0
                  try clear hx225_0
                  try clear hx227_0
                  try clear hx237_0
                  try clear hx37_0
                  try clear hx38_0
                  try clear p2
                  try clear p22
                  try clear p221
                  try clear p222
                  try clear p223
                  try clear p224
                  try clear p225
                  try clear p227
                  try clear p23
                  try clear p237
                  try clear p3
                  try clear p37
                  try clear p38
                  try clear p6
                  try clear p64
                  try clear q2
                  try clear q22
                  try clear q221
                  try clear q222
                  try clear q223
                  try clear q224
                  try clear q225
                  try clear q227
                  try clear q23
                  try clear q237
                  try clear q3
                  try clear q37
                  try clear q38
                  obtain ⟨x14_4, x15_4, rfl, HA, HK4, HO_3, HO_5, HO_12, HO_14, BK208, HB⟩ := hrel
                  cases gk with
                  | zero => exact absurd HA.out (by simp [capstanlaw11_CallsOrder.l2])
                  | succ k4 =>
                   have H := HA.out
                   clear HA
                   simp only [capstanlaw11_CallsOrder.l2] at H
                   by_cases c69 : x15_4 < (t233.length : Int)
                   ·
                    rw [if_pos c69] at H
                    have c69b0 : decide (x15_4 < (t233.length : Int)) = true := decide_eq_true c69
                    clear c69
                    by_cases c70 : 0 ≤ x15_4
                    ·
                     rw [if_pos c70] at H
                     have c70b0 : decide (0 ≤ x15_4) = true := decide_eq_true c70
                     clear c70
                     by_cases c71 : (rd t233 x15_4) < 0
                     ·
                      rw [if_pos c71] at H
                      exact absurd H (by simp)
                     ·
                      rw [if_neg c71] at H
                      have c71b0 : decide ((rd t233 x15_4) < 0) = false := decide_eq_false c71
                      clear c71
                      by_cases c72 : (rd t233 x15_4) ≥ (t211.length : Int)
                      ·
                       rw [if_pos c72] at H
                       exact absurd H (by simp)
                      ·
                       rw [if_neg c72] at H
                       have c72b0 : decide ((t211.length : Int) ≤ (rd t233 x15_4)) = false := decide_eq_false c72
                       clear c72
                       by_cases c73 : (rd t233 x15_4) = x11_2
                       ·
                        rw [if_pos c73] at H
                        exact absurd H (by simp)
                       ·
                        rw [if_neg c73] at H
                        have c73b0 : ((rd t233 x15_4) == x11_2) = false := beq_eq_false_iff_ne.mpr c73
                        have c73b1 : ((rd t233 x15_4) != x11_2) = true := bne_iff_ne.mpr c73
                        by_cases c74 : 0 ≤ (rd t233 x15_4)
                        ·
                         rw [if_pos c74] at H
                         have c74b0 : decide (0 ≤ (rd t233 x15_4)) = true := decide_eq_true c74
                         clear c74
                         by_cases c75 : (rd t233 x15_4) < 40
                         ·
                          rw [if_pos c75] at H
                          have c75b0 : decide ((rd t233 x15_4) < 40) = true := decide_eq_true c75
                          clear c75
                          by_cases c76 : 0 ≤ x11_2
                          ·
                           rw [if_pos c76] at H
                           have c76b0 : decide (0 ≤ x11_2) = true := decide_eq_true c76
                           clear c76
                           by_cases c77 : x11_2 < 40
                           ·
                            rw [if_pos c77] at H
                            have c77b0 : decide (x11_2 < 40) = true := decide_eq_true c77
                            clear c77
                            by_cases c78 : (rd x5_1 (rd t233 x15_4)) ≥ (rd x5_1 x11_2)
                            ·
                             rw [if_pos c78] at H
                             exact absurd H (by simp)
                            ·
                             rw [if_neg c78] at H
                             have c78b0 : decide ((rd x5_1 x11_2) ≤ (rd x5_1 (rd t233 x15_4))) = false := decide_eq_false c78
                             clear c78
                             by_cases c79 : x15_4 > 0
                             ·
                              rw [if_pos c79] at H
                              have c79b0 : decide (0 < x15_4) = true := decide_eq_true c79
                              clear c79
                              obtain ⟨ji80, hji80⟩ : ∃ j_ : Int, (wrap64 (x15_4 - 1)) = j_ := ⟨_, rfl⟩
                              replace H : (if 0 ≤ (ji80) then (if (ji80) < (t233.length : Int) then (if (rd t233 x15_4) ≤ (rd t233 (ji80)) then (none) else (capstanlaw11_CallsOrder.l2 k4 t211 x5_1 x7_1 x11_2 t233 (x14_4.set ((rd t233 x15_4) : Int).toNat true) (wrap64 (x15_4 + 1)) l0_0 l0_1 l0_2 a0_3)) else (none)) else (none)) = some r := by first | (rw [hji80] at H; exact H) | (simp only [hji80] at H ⊢; exact H)
                              have hji80w : (IntKind.i64.wrap (x15_4 - 1)) = ji80 := (i64_w _).trans hji80
                              by_cases c81 : 0 ≤ (ji80)
                              ·
                               rw [if_pos c81] at H
                               have c81b0 : decide (0 ≤ (ji80)) = true := decide_eq_true c81
                               clear c81
                               by_cases c82 : (ji80) < (t233.length : Int)
                               ·
                                rw [if_pos c82] at H
                                have c82b0 : decide ((ji80) < (t233.length : Int)) = true := decide_eq_true c82
                                clear c82
                                by_cases c83 : (rd t233 x15_4) ≤ (rd t233 (ji80))
                                ·
                                 rw [if_pos c83] at H
                                 exact absurd H (by simp)
                                ·
                                 rw [if_neg c83] at H
                                 have c83b0 : decide ((rd t233 x15_4) ≤ (rd t233 (ji80))) = false := decide_eq_false c83
                                 clear c83
                                 obtain ⟨y250, hy250⟩ : ∃ y_ : List Bool, y_ = (x14_4.set ((rd t233 x15_4) : Int).toNat true) := ⟨_, rfl⟩
                                 replace H : (capstanlaw11_CallsOrder.l2 k4 t211 x5_1 x7_1 x11_2 t233 y250 (wrap64 (x15_4 + 1)) l0_0 l0_1 l0_2 a0_3) = some r := by first | (rw [hy250]; with_reducible exact H) | (have H2_ := (Option.bind_some _ _).symm.trans H; rw [hy250]; with_reducible exact H2_) | (have H2_ := (Option.bind_some _ _).symm.trans H; with_reducible exact H2_) | with_reducible exact H | (rw [hy250]; exact H) | exact H
                                 have Ny250 := Aside0.mk hy250
                                 clear hy250
                                 as_aux_lemma =>
                                  have H' := Aside0.mk H
                                  clear H
                                  obtain ⟨Ao85, co85, eo85⟩ := Kd.R_slice HO_12.out
                                  subst eo85
                                  try go_wp2
                                  (try (rw [drewN_self wr]; generalize hq_ : World.drewN wr _ = wr; have n0_ : Aside0 (Kd.R (Kd.int .i64) 3 wr w.heap.size (fun k_ => some k_ ≠ (.slice Ao19 t211.length co19 : Value).ownBlock ∧ some k_ ≠ (.slice (some ⟨goa62xy215, 0, none⟩) 40 40 : Value).ownBlock) (.slice Ao85 t233.length co85) t233) := ⟨by rw [← hq_]; exact (au27)⟩; have n1_ : Aside0 (Kd.R Kd.bool 63 wr w.heap.size (fun _ => True) (.slice (some ⟨goa63xy238, 0, none⟩) 40 40) x14_4) := ⟨by rw [← hq_]; exact (au24)⟩; have n2_ : Aside0 (Kd.R (Kd.int .i64) 3 wr w.heap.size (fun k_ => some k_ ≠ (.slice Ao85 t233.length co85 : Value).ownBlock ∧ some k_ ≠ (.slice (some ⟨goa62xy215, 0, none⟩) 40 40 : Value).ownBlock) (.slice Ao19 t211.length co19) t211) := ⟨au48⟩; have n3_ : Aside0 (Kd.R (Kd.int .i64) 62 wr w.heap.size (fun k_ => some k_ ≠ (.slice Ao85 t233.length co85 : Value).ownBlock ∧ some k_ ≠ (.slice Ao19 t211.length co19 : Value).ownBlock) (.slice (some ⟨goa62xy215, 0, none⟩) 40 40) x5_1) := ⟨au49⟩; have n4_ : Aside0 (wr.heap[gb208]? = some (.cells #[.slice A0_0 l0_0.length c0_0, .slice A0_1 l0_1.length c0_1, .slice A0_2 l0_2.length c0_2, .int .i64 a0_3] 25 (0, 0))) := ⟨by rw [← hq_]; exact (au5)⟩; have n5_ : Aside0 (Below w.heap.size w wr) := ⟨by rw [← hq_]; exact (au1)⟩; clear HO_12 HO_14 HO_3 HO_5 BK208 HB hq_; have HO_12 := n0_; have HO_14 := n1_; have HO_3 := n2_; have HO_5 := n3_; have BK208 := n4_; have HB := n5_; clear n0_ n1_ n2_ n3_ n4_ n5_))
                                  (try obtain ⟨hcu86_0, hcu86_1, hcu86_2, hcu86_3, hfu86_0, hfu86_1, hfu86_2, hfu86_3⟩ := blk_all4 BK208.out)
                                  have n0_ := Aside0.mk (Kd.R_drew HO_3.out)
                                  have n1_ := Aside0.mk (Kd.R_drew HO_5.out)
                                  have n2_ := Aside0.mk (Kd.R_drew HO_12.out)
                                  have n3_ := Aside0.mk (Kd.R_drew HO_14.out)
                                  have n4_ := Aside0.mk (blk_drew BK208.out)
                                  have n5_ := Aside0.mk (below_drew1 HB.out)
                                  clear HO_3
                                  clear HO_5
                                  clear HO_12
                                  clear HO_14
                                  clear BK208
                                  clear HB
                                  have HO_3 := n0_
                                  have HO_5 := n1_
                                  have HO_12 := n2_
                                  have HO_14 := n3_
                                  have BK208 := n4_
                                  have HB := n5_
                                  clear n0_ n1_ n2_ n3_ n4_ n5_
                                  have p241 : 0 ≤ (x15_4 : Int) := of_decide_eq_true (au4)
                                  have q241 : x15_4 < (t233.length : Int) := of_decide_eq_true (au4)
                                  obtain ⟨ad241, e241, hx241_0⟩ := Kd.at_int (Kd.R_readsN HO_12.out) x15_4 p241 q241
                                  cases e241
                                  replace p241 := eq_true p241
                                  replace q241 := eq_true q241
                                  have p242 : 0 ≤ (x15_4 : Int) := of_decide_eq_true (au4)
                                  have q242 : x15_4 < (t233.length : Int) := of_decide_eq_true (au4)
                                  obtain ⟨ad242, e242, hx242_0⟩ := Kd.at_int (Kd.R_readsN HO_12.out) x15_4 p242 q242
                                  obtain rfl : ad241 = ad242 := (by injection e242)
                                  replace p242 := eq_true p242
                                  replace q242 := eq_true q242
                                  have p243 : 0 ≤ (x15_4 : Int) := of_decide_eq_true (au4)
                                  have q243 : x15_4 < (t233.length : Int) := of_decide_eq_true (au4)
                                  obtain ⟨ad243, e243, hx243_0⟩ := Kd.at_int (Kd.R_readsN HO_12.out) x15_4 p243 q243
                                  obtain rfl : ad241 = ad243 := (by injection e243)
                                  replace p243 := eq_true p243
                                  replace q243 := eq_true q243
                                  have p244 : 0 ≤ (x15_4 : Int) := of_decide_eq_true (au4)
                                  have q244 : x15_4 < (t233.length : Int) := of_decide_eq_true (au4)
                                  obtain ⟨ad244, e244, hx244_0⟩ := Kd.at_int (Kd.R_readsN HO_12.out) x15_4 p244 q244
                                  obtain rfl : ad241 = ad244 := (by injection e244)
                                  replace p244 := eq_true p244
                                  replace q244 := eq_true q244
                                  have p245 : 0 ≤ ((rd t233 x15_4) : Int) := of_decide_eq_true (au4)
                                  have q245 : (rd t233 x15_4) < (40 : Int) := of_decide_eq_true (au4)
                                  obtain ⟨ad245, e245, hx245_0⟩ := Kd.at_int (Kd.R_readsN HO_5.out) (rd t233 x15_4) p245 q245
                                  obtain rfl : (⟨goa62xy215, 0, none⟩ : Addr) = ad245 := (by injection e245)
                                  (first | simp only [add_plain] at hx245_0 | simp only [add_at] at hx245_0 | simp only [Addr.add, Nat.zero_add] at hx245_0 | skip)
                                  replace p245 := eq_true p245
                                  replace q245 := eq_true q245
                                  have p246 : 0 ≤ (x11_2 : Int) := of_decide_eq_true (au4)
                                  have q246 : x11_2 < (40 : Int) := of_decide_eq_true (au4)
                                  obtain ⟨ad246, e246, hx246_0⟩ := Kd.at_int (Kd.R_readsN HO_5.out) x11_2 p246 q246
                                  obtain rfl : (⟨goa62xy215, 0, none⟩ : Addr) = ad246 := (by injection e246)
                                  (first | simp only [add_plain] at hx246_0 | simp only [add_at] at hx246_0 | simp only [Addr.add, Nat.zero_add] at hx246_0 | skip)
                                  replace p246 := eq_true p246
                                  replace q246 := eq_true q246
                                  have p247 : 0 ≤ (x15_4 : Int) := of_decide_eq_true (au4)
                                  have q247 : x15_4 < (t233.length : Int) := of_decide_eq_true (au4)
                                  obtain ⟨ad247, e247, hx247_0⟩ := Kd.at_int (Kd.R_readsN HO_12.out) x15_4 p247 q247
                                  obtain rfl : ad241 = ad247 := (by injection e247)
                                  replace p247 := eq_true p247
                                  replace q247 := eq_true q247
                                  have p248 : 0 ≤ ((ji80) : Int) := of_decide_eq_true (au4)
                                  have q248 : (ji80) < (t233.length : Int) := of_decide_eq_true (au4)
                                  obtain ⟨ad248, e248, hx248_0⟩ := Kd.at_int (Kd.R_readsN HO_12.out) (ji80) p248 q248
                                  obtain rfl : ad241 = ad248 := (by injection e248)
                                  replace p248 := eq_true p248
                                  replace q248 := eq_true q248
                                  refine start_ (n := 50) (S := fun w' => w'.cell? (ad241.add (x15_4).toNat) = some (.int .i64 (rd t233 x15_4)) ∧ w'.cell? (ad241.add (x15_4).toNat) = some (.int .i64 (rd t233 x15_4)) ∧ w'.cell? (ad241.add (x15_4).toNat) = some (.int .i64 (rd t233 x15_4)) ∧ w'.cell? (ad241.add (x15_4).toNat) = some (.int .i64 (rd t233 x15_4)) ∧ w'.cell? ⟨goa62xy215, ((rd t233 x15_4)).toNat, none⟩ = some (.int .i64 (rd x5_1 (rd t233 x15_4))) ∧ w'.cell? ⟨goa62xy215, (x11_2).toNat, none⟩ = some (.int .i64 (rd x5_1 x11_2)) ∧ w'.cell? (ad241.add (x15_4).toNat) = some (.int .i64 (rd t233 x15_4)) ∧ w'.cell? (ad241.add ((ji80)).toNat) = some (.int .i64 (rd t233 (ji80)))) (ds := []) #[false, false, false, false, false, false, false, false, false, false, false, false, false, false, false, false, false, false, false, false, false, false, false, false, false, false, false, false, false, false, false, false, false, false, false, false, false, false, false, false, false, false, false, false, false, false, false, false, false, false] (by kernel_rfl) rfl rfl ⟨hx241_0, hx242_0, hx243_0, hx244_0, hx245_0, hx246_0, hx247_0, hx248_0⟩ (fun hHeld => ?_); refine with_tabW capstanlaw11_CallsOrder.tab34 capstanlaw11_CallsOrder.bits34 (fun HT_ HW_ => ?_)
                                  generalize wr.drew = w87 at HO_3 HO_5 HO_12 HO_14 BK208 HB hx241_0 hx242_0 hx243_0 hx244_0 hx245_0 hx246_0 hx247_0 hx248_0 hHeld ⊢
                                  refine pure_ (i := 0) (N := some 131) (v := ?_) (a' := ?_) #[true, false, false, false, false, false, false, false, false, false, false, false, false, false, false, false, false, false, false, false, false, false, false, false, false, false, false, false, false, false, false, false, false, false, false, false, false, false, false, false, false, false, false, false, false, false, false, false, false, false] rfl rfl (any_of HT_.out (by kernel_rfl)) (fun _ _ _ h => h) (Or.inl ⟨by rfl, ?_⟩) ?_ ?_
                                  rotate_left
                                  ·
                                   intro w'
                                   go_simp
                                   with_reducible rfl
                                  rotate_left
                                  ·
                                   simp only [Act.put, List.setIfInBounds_toArray, List.set_cons_zero, List.set_cons_succ, i64_w, i32_w]
                                   rfl
                                  refine pure_ (i := 1) (N := some 132) (v := ?_) (a' := ?_) #[true, true, false, false, false, false, false, false, false, false, false, false, false, false, false, false, false, false, false, false, false, false, false, false, false, false, false, false, false, false, false, false, false, false, false, false, false, false, false, false, false, false, false, false, false, false, false, false, false, false] rfl rfl (any_of HT_.out (by kernel_rfl)) (fun _ _ _ h => h) (Or.inl ⟨by rfl, ?_⟩) ?_ ?_
                                  rotate_left
                                  ·
                                   intro w'
                                   go_simp
                                   with_reducible rfl
                                  rotate_left
                                  ·
                                   simp only [Act.put, List.setIfInBounds_toArray, List.set_cons_zero, List.set_cons_succ, i64_w, i32_w]
                                   rfl
                                  refine pure_ (i := 2) (N := some 133) (v := ?_) (a' := ?_) #[true, true, true, false, false, false, false, false, false, false, false, false, false, false, false, false, false, false, false, false, false, false, false, false, false, false, false, false, false, false, false, false, false, false, false, false, false, false, false, false, false, false, false, false, false, false, false, false, false, false] rfl rfl (any_of HT_.out (by kernel_rfl)) (fun _ _ _ h => h) (Or.inl ⟨by rfl, ?_⟩) ?_ ?_
                                  rotate_left
                                  ·
                                   intro w'
                                   go_simp
                                   with_reducible rfl
                                  rotate_left
                                  ·
                                   simp only [Act.put, List.setIfInBounds_toArray, List.set_cons_zero, List.set_cons_succ, i64_w, i32_w]
                                   rfl
                                  refine take_ (i := 3) (N := some 134) (v := ?_) (a' := ?_) #[true, true, true, true, false, false, false, false, false, false, false, false, false, false, false, false, false, false, false, false, false, false, false, false, false, false, false, false, false, false, false, false, false, false, false, false, false, false, false, false, false, false, false, false, false, false, false, false, false, false] rfl rfl (take_ofW HT_.out HW_.out (by kernel_rfl)) (fun _ _ _ h => h) (Or.inl ⟨by rfl, ?_⟩) hHeld ?_ ?_
                                  rotate_left
                                  ·
                                   rintro w' ⟨s0, s1, s2, s3, s4, s5, s6, s7⟩
                                   go_simp
                                   with_reducible rfl
                                  rotate_left
                                  ·
                                   simp only [Act.put, List.setIfInBounds_toArray, List.set_cons_zero, List.set_cons_succ, i64_w, i32_w]
                                   rfl
                                  refine pure_ (i := 4) (N := some 135) (v := ?_) (a' := ?_) #[true, true, true, true, true, false, false, false, false, false, false, false, false, false, false, false, false, false, false, false, false, false, false, false, false, false, false, false, false, false, false, false, false, false, false, false, false, false, false, false, false, false, false, false, false, false, false, false, false, false] rfl rfl (any_of HT_.out (by kernel_rfl)) (fun _ _ _ h => h) (Or.inl ⟨by rfl, ?_⟩) ?_ ?_
                                  rotate_left
                                  ·
                                   intro w'
                                   go_simp
                                   with_reducible rfl
                                  rotate_left
                                  ·
                                   simp only [Act.put, List.setIfInBounds_toArray, List.set_cons_zero, List.set_cons_succ, i64_w, i32_w]
                                   rfl
                                  refine pure_ (i := 5) (N := some 136) (v := ?_) (a' := ?_) #[true, true, true, true, true, true, false, false, false, false, false, false, false, false, false, false, false, false, false, false, false, false, false, false, false, false, false, false, false, false, false, false, false, false, false, false, false, false, false, false, false, false, false, false, false, false, false, false, false, false] rfl rfl (any_of HT_.out (by kernel_rfl)) (fun _ _ _ h => h) (Or.inl ⟨by rfl, ?_⟩) ?_ ?_
                                  rotate_left
                                  ·
                                   intro w'
                                   go_simp
                                   with_reducible rfl
                                  rotate_left
                                  ·
                                   simp only [Act.put, List.setIfInBounds_toArray, List.set_cons_zero, List.set_cons_succ, i64_w, i32_w]
                                   rfl
                                  refine pure_ (i := 6) (N := some 137) (v := ?_) (a' := ?_) #[true, true, true, true, true, true, true, false, false, false, false, false, false, false, false, false, false, false, false, false, false, false, false, false, false, false, false, false, false, false, false, false, false, false, false, false, false, false, false, false, false, false, false, false, false, false, false, false, false, false] rfl rfl (any_of HT_.out (by kernel_rfl)) (fun _ _ _ h => h) (Or.inl ⟨by rfl, ?_⟩) ?_ ?_
                                  rotate_left
                                  ·
                                   intro w'
                                   go_simp
                                   with_reducible rfl
                                  rotate_left
                                  ·
                                   simp only [Act.put, List.setIfInBounds_toArray, List.set_cons_zero, List.set_cons_succ, i64_w, i32_w]
                                   rfl
                                  refine pure_ (i := 7) (N := some 138) (v := ?_) (a' := ?_) #[true, true, true, true, true, true, true, true, false, false, false, false, false, false, false, false, false, false, false, false, false, false, false, false, false, false, false, false, false, false, false, false, false, false, false, false, false, false, false, false, false, false, false, false, false, false, false, false, false, false] rfl rfl (any_of HT_.out (by kernel_rfl)) (fun _ _ _ h => h) (Or.inl ⟨by rfl, ?_⟩) ?_ ?_
                                  rotate_left
                                  ·
                                   intro w'
                                   go_simp
                                   with_reducible rfl
                                  rotate_left
                                  ·
                                   simp only [Act.put, List.setIfInBounds_toArray, List.set_cons_zero, List.set_cons_succ, i64_w, i32_w]
                                   rfl
                                  refine pure_ (i := 8) (N := some 139) (v := ?_) (a' := ?_) #[true, true, true, true, true, true, true, true, true, false, false, false, false, false, false, false, false, false, false, false, false, false, false, false, false, false, false, false, false, false, false, false, false, false, false, false, false, false, false, false, false, false, false, false, false, false, false, false, false, false] rfl rfl (any_of HT_.out (by kernel_rfl)) (fun _ _ _ h => h) (Or.inl ⟨by rfl, ?_⟩) ?_ ?_
                                  rotate_left
                                  ·
                                   intro w'
                                   go_simp
                                   with_reducible rfl
                                  rotate_left
                                  ·
                                   simp only [Act.put, List.setIfInBounds_toArray, List.set_cons_zero, List.set_cons_succ, i64_w, i32_w]
                                   rfl
                                  refine pure_ (i := 10) (N := some 141) (v := ?_) (a' := ?_) #[true, true, true, true, true, true, true, true, true, false, true, false, false, false, false, false, false, false, false, false, false, false, false, false, false, false, false, false, false, false, false, false, false, false, false, false, false, false, false, false, false, false, false, false, false, false, false, false, false, false] rfl rfl (any_of HT_.out (by kernel_rfl)) (fun _ _ _ h => h) (Or.inl ⟨by rfl, ?_⟩) ?_ ?_
                                  rotate_left
                                  ·
                                   intro w'
                                   go_simp
                                   with_reducible rfl
                                  rotate_left
                                  ·
                                   simp only [Act.put, List.setIfInBounds_toArray, List.set_cons_zero, List.set_cons_succ, i64_w, i32_w]
                                   rfl
                                  refine pure_ (i := 11) (N := some 142) (v := ?_) (a' := ?_) #[true, true, true, true, true, true, true, true, true, false, true, true, false, false, false, false, false, false, false, false, false, false, false, false, false, false, false, false, false, false, false, false, false, false, false, false, false, false, false, false, false, false, false, false, false, false, false, false, false, false] rfl rfl (any_of HT_.out (by kernel_rfl)) (fun _ _ _ h => h) (Or.inl ⟨by rfl, ?_⟩) ?_ ?_
                                  rotate_left
                                  ·
                                   intro w'
                                   go_simp
                                   with_reducible rfl
                                  rotate_left
                                  ·
                                   simp only [Act.put, List.setIfInBounds_toArray, List.set_cons_zero, List.set_cons_succ, i64_w, i32_w]
                                   rfl
                                  refine take_ (i := 9) (N := some 140) (v := ?_) (a' := ?_) #[true, true, true, true, true, true, true, true, true, true, true, true, false, false, false, false, false, false, false, false, false, false, false, false, false, false, false, false, false, false, false, false, false, false, false, false, false, false, false, false, false, false, false, false, false, false, false, false, false, false] rfl rfl (take_ofW HT_.out HW_.out (by kernel_rfl)) (fun _ _ _ h => h) (Or.inl ⟨by rfl, ?_⟩) hHeld ?_ ?_
                                  rotate_left
                                  ·
                                   rintro w' ⟨s0, s1, s2, s3, s4, s5, s6, s7⟩
                                   go_simp
                                   with_reducible rfl
                                  rotate_left
                                  ·
                                   simp only [Act.put, List.setIfInBounds_toArray, List.set_cons_zero, List.set_cons_succ, i64_w, i32_w]
                                   rfl
                                  refine pure_ (i := 12) (N := some 143) (v := ?_) (a' := ?_) #[true, true, true, true, true, true, true, true, true, true, true, true, true, false, false, false, false, false, false, false, false, false, false, false, false, false, false, false, false, false, false, false, false, false, false, false, false, false, false, false, false, false, false, false, false, false, false, false, false, false] rfl rfl (any_of HT_.out (by kernel_rfl)) (fun _ _ _ h => h) (Or.inl ⟨by rfl, ?_⟩) ?_ ?_
                                  rotate_left
                                  ·
                                   intro w'
                                   go_simp
                                   with_reducible rfl
                                  rotate_left
                                  ·
                                   simp only [Act.put, List.setIfInBounds_toArray, List.set_cons_zero, List.set_cons_succ, i64_w, i32_w]
                                   rfl
                                  refine pure_ (i := 13) (N := some 144) (v := ?_) (a' := ?_) #[true, true, true, true, true, true, true, true, true, true, true, true, true, true, false, false, false, false, false, false, false, false, false, false, false, false, false, false, false, false, false, false, false, false, false, false, false, false, false, false, false, false, false, false, false, false, false, false, false, false] rfl rfl (any_of HT_.out (by kernel_rfl)) (fun _ _ _ h => h) (Or.inl ⟨by rfl, ?_⟩) ?_ ?_
                                  rotate_left
                                  ·
                                   intro w'
                                   go_simp
                                   with_reducible rfl
                                  rotate_left
                                  ·
                                   simp only [Act.put, List.setIfInBounds_toArray, List.set_cons_zero, List.set_cons_succ, i64_w, i32_w]
                                   rfl
                                  refine pure_ (i := 14) (N := some 145) (v := ?_) (a' := ?_) #[true, true, true, true, true, true, true, true, true, true, true, true, true, true, true, false, false, false, false, false, false, false, false, false, false, false, false, false, false, false, false, false, false, false, false, false, false, false, false, false, false, false, false, false, false, false, false, false, false, false] rfl rfl (any_of HT_.out (by kernel_rfl)) (fun _ _ _ h => h) (Or.inl ⟨by rfl, ?_⟩) ?_ ?_
                                  rotate_left
                                  ·
                                   intro w'
                                   go_simp
                                   with_reducible rfl
                                  rotate_left
                                  ·
                                   simp only [Act.put, List.setIfInBounds_toArray, List.set_cons_zero, List.set_cons_succ, i64_w, i32_w]
                                   rfl
                                  refine pure_ (i := 15) (N := some 146) (v := ?_) (a' := ?_) #[true, true, true, true, true, true, true, true, true, true, true, true, true, true, true, true, false, false, false, false, false, false, false, false, false, false, false, false, false, false, false, false, false, false, false, false, false, false, false, false, false, false, false, false, false, false, false, false, false, false] rfl rfl (any_of HT_.out (by kernel_rfl)) (fun _ _ _ h => h) (Or.inl ⟨by rfl, ?_⟩) ?_ ?_
                                  rotate_left
                                  ·
                                   intro w'
                                   go_simp
                                   with_reducible rfl
                                  rotate_left
                                  ·
                                   simp only [Act.put, List.setIfInBounds_toArray, List.set_cons_zero, List.set_cons_succ, i64_w, i32_w]
                                   rfl
                                  refine pure_ (i := 16) (N := some 147) (v := ?_) (a' := ?_) #[true, true, true, true, true, true, true, true, true, true, true, true, true, true, true, true, true, false, false, false, false, false, false, false, false, false, false, false, false, false, false, false, false, false, false, false, false, false, false, false, false, false, false, false, false, false, false, false, false, false] rfl rfl (any_of HT_.out (by kernel_rfl)) (fun _ _ _ h => h) (Or.inl ⟨by rfl, ?_⟩) ?_ ?_
                                  rotate_left
                                  ·
                                   intro w'
                                   go_simp
                                   with_reducible rfl
                                  rotate_left
                                  ·
                                   simp only [Act.put, List.setIfInBounds_toArray, List.set_cons_zero, List.set_cons_succ, i64_w, i32_w]
                                   rfl
                                  refine pure_ (i := 17) (N := some 148) (v := ?_) (a' := ?_) #[true, true, true, true, true, true, true, true, true, true, true, true, true, true, true, true, true, true, false, false, false, false, false, false, false, false, false, false, false, false, false, false, false, false, false, false, false, false, false, false, false, false, false, false, false, false, false, false, false, false] rfl rfl (any_of HT_.out (by kernel_rfl)) (fun _ _ _ h => h) (Or.inl ⟨by rfl, ?_⟩) ?_ ?_
                                  rotate_left
                                  ·
                                   intro w'
                                   go_simp
                                   with_reducible rfl
                                  rotate_left
                                  ·
                                   simp only [Act.put, List.setIfInBounds_toArray, List.set_cons_zero, List.set_cons_succ, i64_w, i32_w]
                                   rfl
                                  refine pure_ (i := 19) (N := some 150) (v := ?_) (a' := ?_) #[true, true, true, true, true, true, true, true, true, true, true, true, true, true, true, true, true, true, false, true, false, false, false, false, false, false, false, false, false, false, false, false, false, false, false, false, false, false, false, false, false, false, false, false, false, false, false, false, false, false] rfl rfl (any_of HT_.out (by kernel_rfl)) (fun _ _ _ h => h) (Or.inl ⟨by rfl, ?_⟩) ?_ ?_
                                  rotate_left
                                  ·
                                   intro w'
                                   go_simp
                                   with_reducible rfl
                                  rotate_left
                                  ·
                                   simp only [Act.put, List.setIfInBounds_toArray, List.set_cons_zero, List.set_cons_succ, i64_w, i32_w]
                                   rfl
                                  refine take_ (i := 18) (N := some 149) (v := ?_) (a' := ?_) #[true, true, true, true, true, true, true, true, true, true, true, true, true, true, true, true, true, true, true, true, false, false, false, false, false, false, false, false, false, false, false, false, false, false, false, false, false, false, false, false, false, false, false, false, false, false, false, false, false, false] rfl rfl (take_ofW HT_.out HW_.out (by kernel_rfl)) (fun _ _ _ h => h) (Or.inl ⟨by rfl, ?_⟩) hHeld ?_ ?_
                                  rotate_left
                                  ·
                                   rintro w' ⟨s0, s1, s2, s3, s4, s5, s6, s7⟩
                                   go_simp
                                   with_reducible rfl
                                  rotate_left
                                  ·
                                   simp only [Act.put, List.setIfInBounds_toArray, List.set_cons_zero, List.set_cons_succ, i64_w, i32_w]
                                   rfl
                                  refine pure_ (i := 20) (N := some 151) (v := ?_) (a' := ?_) #[true, true, true, true, true, true, true, true, true, true, true, true, true, true, true, true, true, true, true, true, true, false, false, false, false, false, false, false, false, false, false, false, false, false, false, false, false, false, false, false, false, false, false, false, false, false, false, false, false, false] rfl rfl (any_of HT_.out (by kernel_rfl)) (fun _ _ _ h => h) (Or.inl ⟨by rfl, ?_⟩) ?_ ?_
                                  rotate_left
                                  ·
                                   intro w'
                                   go_simp
                                   with_reducible rfl
                                  rotate_left
                                  ·
                                   simp only [Act.put, List.setIfInBounds_toArray, List.set_cons_zero, List.set_cons_succ, i64_w, i32_w]
                                   rfl
                                  refine pure_ (i := 21) (N := some 152) (v := ?_) (a' := ?_) #[true, true, true, true, true, true, true, true, true, true, true, true, true, true, true, true, true, true, true, true, true, true, false, false, false, false, false, false, false, false, false, false, false, false, false, false, false, false, false, false, false, false, false, false, false, false, false, false, false, false] rfl rfl (any_of HT_.out (by kernel_rfl)) (fun _ _ _ h => h) (Or.inl ⟨by rfl, ?_⟩) ?_ ?_
                                  rotate_left
                                  ·
                                   intro w'
                                   go_simp
                                   with_reducible rfl
                                  rotate_left
                                  ·
                                   simp only [Act.put, List.setIfInBounds_toArray, List.set_cons_zero, List.set_cons_succ, i64_w, i32_w]
                                   rfl
                                  refine pure_ (i := 22) (N := some 153) (v := ?_) (a' := ?_) #[true, true, true, true, true, true, true, true, true, true, true, true, true, true, true, true, true, true, true, true, true, true, true, false, false, false, false, false, false, false, false, false, false, false, false, false, false, false, false, false, false, false, false, false, false, false, false, false, false, false] rfl rfl (any_of HT_.out (by kernel_rfl)) (fun _ _ _ h => h) (Or.inl ⟨by rfl, ?_⟩) ?_ ?_
                                  rotate_left
                                  ·
                                   intro w'
                                   go_simp
                                   with_reducible rfl
                                  rotate_left
                                  ·
                                   simp only [Act.put, List.setIfInBounds_toArray, List.set_cons_zero, List.set_cons_succ, i64_w, i32_w]
                                   rfl
                                  refine pure_ (i := 23) (N := some 154) (v := ?_) (a' := ?_) #[true, true, true, true, true, true, true, true, true, true, true, true, true, true, true, true, true, true, true, true, true, true, true, true, false, false, false, false, false, false, false, false, false, false, false, false, false, false, false, false, false, false, false, false, false, false, false, false, false, false] rfl rfl (any_of HT_.out (by kernel_rfl)) (fun _ _ _ h => h) (Or.inl ⟨by rfl, ?_⟩) ?_ ?_
                                  rotate_left
                                  ·
                                   intro w'
                                   go_simp
                                   with_reducible rfl
                                  rotate_left
                                  ·
                                   simp only [Act.put, List.setIfInBounds_toArray, List.set_cons_zero, List.set_cons_succ, i64_w, i32_w]
                                   rfl
                                  refine pure_ (i := 24) (N := some 155) (v := ?_) (a' := ?_) #[true, true, true, true, true, true, true, true, true, true, true, true, true, true, true, true, true, true, true, true, true, true, true, true, true, false, false, false, false, false, false, false, false, false, false, false, false, false, false, false, false, false, false, false, false, false, false, false, false, false] rfl rfl (any_of HT_.out (by kernel_rfl)) (fun _ _ _ h => h) (Or.inl ⟨by rfl, ?_⟩) ?_ ?_
                                  rotate_left
                                  ·
                                   intro w'
                                   go_simp
                                   with_reducible rfl
                                  rotate_left
                                  ·
                                   simp only [Act.put, List.setIfInBounds_toArray, List.set_cons_zero, List.set_cons_succ, i64_w, i32_w]
                                   rfl
                                  refine pure_ (i := 25) (N := some 156) (v := ?_) (a' := ?_) #[true, true, true, true, true, true, true, true, true, true, true, true, true, true, true, true, true, true, true, true, true, true, true, true, true, true, false, false, false, false, false, false, false, false, false, false, false, false, false, false, false, false, false, false, false, false, false, false, false, false] rfl rfl (any_of HT_.out (by kernel_rfl)) (fun _ _ _ h => h) (Or.inl ⟨by rfl, ?_⟩) ?_ ?_
                                  rotate_left
                                  ·
                                   intro w'
                                   go_simp
                                   with_reducible rfl
                                  rotate_left
                                  ·
                                   simp only [Act.put, List.setIfInBounds_toArray, List.set_cons_zero, List.set_cons_succ, i64_w, i32_w]
                                   rfl
                                  refine pure_ (i := 29) (N := some 160) (v := ?_) (a' := ?_) #[true, true, true, true, true, true, true, true, true, true, true, true, true, true, true, true, true, true, true, true, true, true, true, true, true, true, false, false, false, true, false, false, false, false, false, false, false, false, false, false, false, false, false, false, false, false, false, false, false, false] rfl rfl (any_of HT_.out (by kernel_rfl)) (fun _ _ _ h => h) (Or.inl ⟨by rfl, ?_⟩) ?_ ?_
                                  rotate_left
                                  ·
                                   intro w'
                                   go_simp
                                   with_reducible rfl
                                  rotate_left
                                  ·
                                   simp only [Act.put, List.setIfInBounds_toArray, List.set_cons_zero, List.set_cons_succ, i64_w, i32_w]
                                   rfl
                                  refine pure_ (i := 30) (N := some 161) (v := ?_) (a' := ?_) #[true, true, true, true, true, true, true, true, true, true, true, true, true, true, true, true, true, true, true, true, true, true, true, true, true, true, false, false, false, true, true, false, false, false, false, false, false, false, false, false, false, false, false, false, false, false, false, false, false, false] rfl rfl (any_of HT_.out (by kernel_rfl)) (fun _ _ _ h => h) (Or.inl ⟨by rfl, ?_⟩) ?_ ?_
                                  rotate_left
                                  ·
                                   intro w'
                                   go_simp
                                   with_reducible rfl
                                  rotate_left
                                  ·
                                   simp only [Act.put, List.setIfInBounds_toArray, List.set_cons_zero, List.set_cons_succ, i64_w, i32_w]
                                   rfl
                                  refine take_ (i := 26) (N := some 157) (v := ?_) (a' := ?_) #[true, true, true, true, true, true, true, true, true, true, true, true, true, true, true, true, true, true, true, true, true, true, true, true, true, true, true, false, false, true, true, false, false, false, false, false, false, false, false, false, false, false, false, false, false, false, false, false, false, false] rfl rfl (take_ofW HT_.out HW_.out (by kernel_rfl)) (fun _ _ _ h => h) (Or.inl ⟨by rfl, ?_⟩) hHeld ?_ ?_
                                  rotate_left
                                  ·
                                   rintro w' ⟨s0, s1, s2, s3, s4, s5, s6, s7⟩
                                   go_simp
                                   with_reducible rfl
                                  rotate_left
                                  ·
                                   simp only [Act.put, List.setIfInBounds_toArray, List.set_cons_zero, List.set_cons_succ, i64_w, i32_w]
                                   rfl
                                  refine pure_ (i := 27) (N := some 158) (v := ?_) (a' := ?_) #[true, true, true, true, true, true, true, true, true, true, true, true, true, true, true, true, true, true, true, true, true, true, true, true, true, true, true, true, false, true, true, false, false, false, false, false, false, false, false, false, false, false, false, false, false, false, false, false, false, false] rfl rfl (any_of HT_.out (by kernel_rfl)) (fun _ _ _ h => h) (Or.inl ⟨by rfl, ?_⟩) ?_ ?_
                                  rotate_left
                                  ·
                                   intro w'
                                   go_simp
                                   with_reducible rfl
                                  rotate_left
                                  ·
                                   simp only [Act.put, List.setIfInBounds_toArray, List.set_cons_zero, List.set_cons_succ, i64_w, i32_w]
                                   rfl
                                  refine take_ (i := 28) (N := some 159) (v := ?_) (a' := ?_) #[true, true, true, true, true, true, true, true, true, true, true, true, true, true, true, true, true, true, true, true, true, true, true, true, true, true, true, true, true, true, true, false, false, false, false, false, false, false, false, false, false, false, false, false, false, false, false, false, false, false] rfl rfl (take_ofW HT_.out HW_.out (by kernel_rfl)) (fun _ _ _ h => h) (Or.inl ⟨by rfl, ?_⟩) hHeld ?_ ?_
                                  rotate_left
                                  ·
                                   rintro w' ⟨s0, s1, s2, s3, s4, s5, s6, s7⟩
                                   go_simp
                                   with_reducible rfl
                                  rotate_left
                                  ·
                                   simp only [Act.put, List.setIfInBounds_toArray, List.set_cons_zero, List.set_cons_succ, i64_w, i32_w]
                                   rfl
                                  refine take_ (i := 31) (N := some 162) (v := ?_) (a' := ?_) #[true, true, true, true, true, true, true, true, true, true, true, true, true, true, true, true, true, true, true, true, true, true, true, true, true, true, true, true, true, true, true, true, false, false, false, false, false, false, false, false, false, false, false, false, false, false, false, false, false, false] rfl rfl (take_ofW HT_.out HW_.out (by kernel_rfl)) (fun _ _ _ h => h) (Or.inl ⟨by rfl, ?_⟩) hHeld ?_ ?_
                                  rotate_left
                                  ·
                                   rintro w' ⟨s0, s1, s2, s3, s4, s5, s6, s7⟩
                                   go_simp
                                   with_reducible rfl
                                  rotate_left
                                  ·
                                   simp only [Act.put, List.setIfInBounds_toArray, List.set_cons_zero, List.set_cons_succ, i64_w, i32_w]
                                   rfl
                                  refine pure_ (i := 32) (N := some 163) (v := ?_) (a' := ?_) #[true, true, true, true, true, true, true, true, true, true, true, true, true, true, true, true, true, true, true, true, true, true, true, true, true, true, true, true, true, true, true, true, true, false, false, false, false, false, false, false, false, false, false, false, false, false, false, false, false, false] rfl rfl (any_of HT_.out (by kernel_rfl)) (fun _ _ _ h => h) (Or.inl ⟨by rfl, ?_⟩) ?_ ?_
                                  rotate_left
                                  ·
                                   intro w'
                                   go_simp
                                   with_reducible rfl
                                  rotate_left
                                  ·
                                   simp only [Act.put, List.setIfInBounds_toArray, List.set_cons_zero, List.set_cons_succ, i64_w, i32_w]
                                   rfl
                                  refine pure_ (i := 33) (N := some 164) (v := ?_) (a' := ?_) #[true, true, true, true, true, true, true, true, true, true, true, true, true, true, true, true, true, true, true, true, true, true, true, true, true, true, true, true, true, true, true, true, true, true, false, false, false, false, false, false, false, false, false, false, false, false, false, false, false, false] rfl rfl (any_of HT_.out (by kernel_rfl)) (fun _ _ _ h => h) (Or.inl ⟨by rfl, ?_⟩) ?_ ?_
                                  rotate_left
                                  ·
                                   intro w'
                                   go_simp
                                   with_reducible rfl
                                  rotate_left
                                  ·
                                   simp only [Act.put, List.setIfInBounds_toArray, List.set_cons_zero, List.set_cons_succ, i64_w, i32_w]
                                   rfl
                                  refine pure_ (i := 34) (N := some 165) (v := ?_) (a' := ?_) #[true, true, true, true, true, true, true, true, true, true, true, true, true, true, true, true, true, true, true, true, true, true, true, true, true, true, true, true, true, true, true, true, true, true, true, false, false, false, false, false, false, false, false, false, false, false, false, false, false, false] rfl rfl (any_of HT_.out (by kernel_rfl)) (fun _ _ _ h => h) (Or.inl ⟨by rfl, ?_⟩) ?_ ?_
                                  rotate_left
                                  ·
                                   intro w'
                                   go_simp
                                   with_reducible rfl
                                  rotate_left
                                  ·
                                   simp only [Act.put, List.setIfInBounds_toArray, List.set_cons_zero, List.set_cons_succ, i64_w, i32_w]
                                   rfl
                                  refine pure_ (i := 35) (N := some 166) (v := ?_) (a' := ?_) #[true, true, true, true, true, true, true, true, true, true, true, true, true, true, true, true, true, true, true, true, true, true, true, true, true, true, true, true, true, true, true, true, true, true, true, true, false, false, false, false, false, false, false, false, false, false, false, false, false, false] rfl rfl (any_of HT_.out (by kernel_rfl)) (fun _ _ _ h => h) (Or.inl ⟨by rfl, ?_⟩) ?_ ?_
                                  rotate_left
                                  ·
                                   intro w'
                                   go_simp
                                   with_reducible rfl
                                  rotate_left
                                  ·
                                   simp only [Act.put, List.setIfInBounds_toArray, List.set_cons_zero, List.set_cons_succ, i64_w, i32_w]
                                   rfl
                                  refine pure_ (i := 36) (N := some 167) (v := ?_) (a' := ?_) #[true, true, true, true, true, true, true, true, true, true, true, true, true, true, true, true, true, true, true, true, true, true, true, true, true, true, true, true, true, true, true, true, true, true, true, true, true, false, false, false, false, false, false, false, false, false, false, false, false, false] rfl rfl (any_of HT_.out (by kernel_rfl)) (fun _ _ _ h => h) (Or.inl ⟨by rfl, ?_⟩) ?_ ?_
                                  rotate_left
                                  ·
                                   intro w'
                                   go_simp
                                   with_reducible rfl
                                  rotate_left
                                  ·
                                   simp only [Act.put, List.setIfInBounds_toArray, List.set_cons_zero, List.set_cons_succ, i64_w, i32_w]
                                   rfl
                                  refine pure_ (i := 37) (N := some 168) (v := ?_) (a' := ?_) #[true, true, true, true, true, true, true, true, true, true, true, true, true, true, true, true, true, true, true, true, true, true, true, true, true, true, true, true, true, true, true, true, true, true, true, true, true, true, false, false, false, false, false, false, false, false, false, false, false, false] rfl rfl (any_of HT_.out (by kernel_rfl)) (fun _ _ _ h => h) (Or.inl ⟨by rfl, ?_⟩) ?_ ?_
                                  rotate_left
                                  ·
                                   intro w'
                                   go_simp
                                   with_reducible rfl
                                  rotate_left
                                  ·
                                   simp only [Act.put, List.setIfInBounds_toArray, List.set_cons_zero, List.set_cons_succ, i64_w, i32_w]
                                   rfl
                                  refine pure_ (i := 38) (N := some 169) (v := ?_) (a' := ?_) #[true, true, true, true, true, true, true, true, true, true, true, true, true, true, true, true, true, true, true, true, true, true, true, true, true, true, true, true, true, true, true, true, true, true, true, true, true, true, true, false, false, false, false, false, false, false, false, false, false, false] rfl rfl (any_of HT_.out (by kernel_rfl)) (fun _ _ _ h => h) (Or.inl ⟨by rfl, ?_⟩) ?_ ?_
                                  rotate_left
                                  ·
                                   intro w'
                                   go_simp
                                   with_reducible rfl
                                  rotate_left
                                  ·
                                   simp only [Act.put, List.setIfInBounds_toArray, List.set_cons_zero, List.set_cons_succ, i64_w, i32_w]
                                   rfl
                                  refine pure_ (i := 39) (N := some 170) (v := ?_) (a' := ?_) #[true, true, true, true, true, true, true, true, true, true, true, true, true, true, true, true, true, true, true, true, true, true, true, true, true, true, true, true, true, true, true, true, true, true, true, true, true, true, true, true, false, false, false, false, false, false, false, false, false, false] rfl rfl (any_of HT_.out (by kernel_rfl)) (fun _ _ _ h => h) (Or.inl ⟨by rfl, ?_⟩) ?_ ?_
                                  rotate_left
                                  ·
                                   intro w'
                                   go_simp
                                   with_reducible rfl
                                  rotate_left
                                  ·
                                   simp only [Act.put, List.setIfInBounds_toArray, List.set_cons_zero, List.set_cons_succ, i64_w, i32_w]
                                   rfl
                                  refine pure_ (i := 40) (N := some 171) (v := ?_) (a' := ?_) #[true, true, true, true, true, true, true, true, true, true, true, true, true, true, true, true, true, true, true, true, true, true, true, true, true, true, true, true, true, true, true, true, true, true, true, true, true, true, true, true, true, false, false, false, false, false, false, false, false, false] rfl rfl (any_of HT_.out (by kernel_rfl)) (fun _ _ _ h => h) (Or.inl ⟨by rfl, ?_⟩) ?_ ?_
                                  rotate_left
                                  ·
                                   intro w'
                                   go_simp
                                   with_reducible rfl
                                  rotate_left
                                  ·
                                   simp only [Act.put, List.setIfInBounds_toArray, List.set_cons_zero, List.set_cons_succ, i64_w, i32_w]
                                   rfl
                                  refine pure_ (i := 42) (N := some 173) (v := ?_) (a' := ?_) #[true, true, true, true, true, true, true, true, true, true, true, true, true, true, true, true, true, true, true, true, true, true, true, true, true, true, true, true, true, true, true, true, true, true, true, true, true, true, true, true, true, false, true, false, false, false, false, false, false, false] rfl rfl (any_of HT_.out (by kernel_rfl)) (fun _ _ _ h => h) (Or.inl ⟨by rfl, ?_⟩) ?_ ?_
                                  rotate_left
                                  ·
                                   intro w'
                                   go_simp
                                   with_reducible rfl
                                  rotate_left
                                  ·
                                   simp only [Act.put, List.setIfInBounds_toArray, List.set_cons_zero, List.set_cons_succ, i64_w, i32_w]
                                   rfl
                                  refine pure_ (i := 43) (N := some 174) (v := ?_) (a' := ?_) #[true, true, true, true, true, true, true, true, true, true, true, true, true, true, true, true, true, true, true, true, true, true, true, true, true, true, true, true, true, true, true, true, true, true, true, true, true, true, true, true, true, false, true, true, false, false, false, false, false, false] rfl rfl (any_of HT_.out (by kernel_rfl)) (fun _ _ _ h => h) (Or.inl ⟨by rfl, ?_⟩) ?_ ?_
                                  rotate_left
                                  ·
                                   intro w'
                                   go_simp
                                   with_reducible rfl
                                  rotate_left
                                  ·
                                   simp only [Act.put, List.setIfInBounds_toArray, List.set_cons_zero, List.set_cons_succ, i64_w, i32_w]
                                   rfl
                                  refine pure_ (i := 44) (N := some 175) (v := ?_) (a' := ?_) #[true, true, true, true, true, true, true, true, true, true, true, true, true, true, true, true, true, true, true, true, true, true, true, true, true, true, true, true, true, true, true, true, true, true, true, true, true, true, true, true, true, false, true, true, true, false, false, false, false, false] rfl rfl (any_of HT_.out (by kernel_rfl)) (fun _ _ _ h => h) (Or.inl ⟨by rfl, ?_⟩) ?_ ?_
                                  rotate_left
                                  ·
                                   intro w'
                                   go_simp
                                   with_reducible rfl
                                  rotate_left
                                  ·
                                   simp only [Act.put, List.setIfInBounds_toArray, List.set_cons_zero, List.set_cons_succ, i64_w, i32_w]
                                   rfl
                                  refine pure_ (i := 45) (N := some 176) (v := ?_) (a' := ?_) #[true, true, true, true, true, true, true, true, true, true, true, true, true, true, true, true, true, true, true, true, true, true, true, true, true, true, true, true, true, true, true, true, true, true, true, true, true, true, true, true, true, false, true, true, true, true, false, false, false, false] rfl rfl (any_of HT_.out (by kernel_rfl)) (fun _ _ _ h => h) (Or.inl ⟨by rfl, ?_⟩) ?_ ?_
                                  rotate_left
                                  ·
                                   intro w'
                                   go_simp
                                   with_reducible rfl
                                  rotate_left
                                  ·
                                   simp only [Act.put, List.setIfInBounds_toArray, List.set_cons_zero, List.set_cons_succ, i64_w, i32_w]
                                   rfl
                                  refine take_ (i := 41) (N := some 172) (v := ?_) (a' := ?_) #[true, true, true, true, true, true, true, true, true, true, true, true, true, true, true, true, true, true, true, true, true, true, true, true, true, true, true, true, true, true, true, true, true, true, true, true, true, true, true, true, true, true, true, true, true, true, false, false, false, false] rfl rfl (take_ofW HT_.out HW_.out (by kernel_rfl)) (fun _ _ _ h => h) (Or.inl ⟨by rfl, ?_⟩) hHeld ?_ ?_
                                  rotate_left
                                  ·
                                   rintro w' ⟨s0, s1, s2, s3, s4, s5, s6, s7⟩
                                   go_simp
                                   with_reducible rfl
                                  rotate_left
                                  ·
                                   simp only [Act.put, List.setIfInBounds_toArray, List.set_cons_zero, List.set_cons_succ, i64_w, i32_w]
                                   rfl
                                  refine take_ (i := 46) (N := some 177) (v := ?_) (a' := ?_) #[true, true, true, true, true, true, true, true, true, true, true, true, true, true, true, true, true, true, true, true, true, true, true, true, true, true, true, true, true, true, true, true, true, true, true, true, true, true, true, true, true, true, true, true, true, true, true, false, false, false] rfl rfl (take_ofW HT_.out HW_.out (by kernel_rfl)) (fun _ _ _ h => h) (Or.inl ⟨by rfl, ?_⟩) hHeld ?_ ?_
                                  rotate_left
                                  ·
                                   rintro w' ⟨s0, s1, s2, s3, s4, s5, s6, s7⟩
                                   go_simp
                                   with_reducible rfl
                                  rotate_left
                                  ·
                                   simp only [Act.put, List.setIfInBounds_toArray, List.set_cons_zero, List.set_cons_succ, i64_w, i32_w]
                                   rfl
                                  refine pure_ (i := 47) (N := some 178) (v := ?_) (a' := ?_) #[true, true, true, true, true, true, true, true, true, true, true, true, true, true, true, true, true, true, true, true, true, true, true, true, true, true, true, true, true, true, true, true, true, true, true, true, true, true, true, true, true, true, true, true, true, true, true, true, false, false] rfl rfl (any_of HT_.out (by kernel_rfl)) (fun _ _ _ h => h) (Or.inl ⟨by rfl, ?_⟩) ?_ ?_
                                  rotate_left
                                  ·
                                   intro w'
                                   go_simp
                                   with_reducible rfl
                                  rotate_left
                                  ·
                                   simp only [Act.put, List.setIfInBounds_toArray, List.set_cons_zero, List.set_cons_succ, i64_w, i32_w]
                                   rfl
                                  refine pure_ (i := 48) (N := some 179) (v := ?_) (a' := ?_) #[true, true, true, true, true, true, true, true, true, true, true, true, true, true, true, true, true, true, true, true, true, true, true, true, true, true, true, true, true, true, true, true, true, true, true, true, true, true, true, true, true, true, true, true, true, true, true, true, true, false] rfl rfl (any_of HT_.out (by kernel_rfl)) (fun _ _ _ h => h) (Or.inl ⟨by rfl, ?_⟩) ?_ ?_
                                  rotate_left
                                  ·
                                   intro w'
                                   go_simp
                                   with_reducible rfl
                                  rotate_left
                                  ·
                                   simp only [Act.put, List.setIfInBounds_toArray, List.set_cons_zero, List.set_cons_succ, i64_w, i32_w]
                                   rfl
                                  refine pure_ (i := 49) (N := some 180) (v := ?_) (a' := ?_) #[true, true, true, true, true, true, true, true, true, true, true, true, true, true, true, true, true, true, true, true, true, true, true, true, true, true, true, true, true, true, true, true, true, true, true, true, true, true, true, true, true, true, true, true, true, true, true, true, true, true] rfl rfl (any_of HT_.out (by kernel_rfl)) (fun _ _ _ h => h) (Or.inl ⟨by rfl, ?_⟩) ?_ ?_
                                  rotate_left
                                  ·
                                   intro w'
                                   go_simp
                                   with_reducible rfl
                                  rotate_left
                                  ·
                                   simp only [Act.put, List.setIfInBounds_toArray, List.set_cons_zero, List.set_cons_succ, i64_w, i32_w]
                                   rfl
                                  refine done_ (done_of HT_.out (by kernel_rfl)) ?_
                                  have p249 : 0 ≤ (x15_4 : Int) := of_decide_eq_true (au4)
                                  have q249 : x15_4 < (t233.length : Int) := of_decide_eq_true (au4)
                                  obtain ⟨ad249, e249, hx249_0⟩ := Kd.at_int (Kd.R_readsN HO_12.out) x15_4 p249 q249
                                  obtain rfl : ad241 = ad249 := (by injection e249)
                                  replace p249 := eq_true p249
                                  replace q249 := eq_true q249
                                  have p84 : 0 ≤ ((rd t233 x15_4) : Int) := of_decide_eq_true (au4)
                                  have q84 : ((rd t233 x15_4) : Int) < (40 : Int) := of_decide_eq_true (au4)
                                  obtain ⟨hx84_0, hf84_0⟩ := Kd.R_celln false HO_14.out ((rd t233 x15_4) : Int) p84 q84
                                  replace p84 := eq_true p84
                                  replace q84 := eq_true q84
                                  obtain ⟨hy88_, hz88_⟩ := Kd.R_celln false HO_14.out ((rd t233 x15_4) : Int) (of_decide_eq_true (au4)) (of_decide_eq_true (au4))
                                  have HP88 := Kd.R_putg HO_14.out ((rd t233 x15_4) : Int) true
                                  try go_wp2_with (first | ((with_reducible refine gate_store (t := 4) (p := 185) rfl ?_); refine store_event (t := 4) (p := 185) (v := ?vo_w89) (w1 := (w87.setCell ⟨goa63xy238, ((rd t233 x15_4) : Int).toNat, none⟩ (.bool true))) ?hg ?ho ?hn ?hr ?_; (case ho => rfl); (case hg => rfl); (case hn => rfl); (case hr => first | (go_simp; done) | (go_simp; rfl)); intro w89 hw; have hg : w87.grownBy w89 (some goa63xy238) := (by rw [hw]; exact HP88.2); have hp_ : Kd.R Kd.bool 63 w89 w.heap.size (fun _ => True) (.slice (some ⟨goa63xy238, 0, none⟩) 40 40) y250 := (by rw [hw, Ny250.out]; exact HP88.1); clear HP88; have n0_ := Aside0.mk (Kd.R_over' (v := (.slice (some ⟨goa63xy238, 0, none⟩) 40 40)) (au7) (Kd.R_typed HO_14.out) (by decide) hg); have n1_ := Aside0.mk (Kd.R_over' (v := (.slice (some ⟨goa63xy238, 0, none⟩) 40 40)) (au8) (Kd.R_typed HO_14.out) (by decide) hg); have n2_ := Aside0.mk (Kd.R_over' (v := (.slice (some ⟨goa63xy238, 0, none⟩) 40 40)) (au27) (Kd.R_typed HO_14.out) (by decide) hg); have n3_ := Aside0.mk (hp_); have n4_ := Aside0.mk (blk_grown (g := gb208) (o := .cells #[.slice A0_0 l0_0.length c0_0, .slice A0_1 l0_1.length c0_1, .slice A0_2 l0_2.length c0_2, .int .i64 a0_3] 25 (0, 0)) (au5) hg (Kd.R_ne HO_14.out BK208.out (by decide))); have n5_ := Aside0.mk ((by rw [hw]; exact below_set (HB.out) GBa63xy238.out : Below w.heap.size w w89)); clear HO_3; clear HO_5; clear HO_12; clear HO_14; clear BK208; clear HB; have HO_3 := n0_; have HO_5 := n1_; have HO_12 := n2_; have HO_14 := n3_; have BK208 := n4_; have HB := n5_; clear n0_ n1_ n2_ n3_ n4_ n5_; clear hg hw hp_))
                                  go_roundg k4
                                  case measure => have := HK1.out; have := HK2.out; have := HJ57.out; have := HK4.out; omega
                                  case rel => exact ⟨(y250), (wrap64 (x15_4 + 1)), (au25), H', ⟨by have := HK1.out; have := HK2.out; have := HJ57.out; have := HK4.out; omega⟩, ⟨au7⟩, ⟨au8⟩, ⟨au27⟩, ⟨au24⟩, ⟨au5⟩, ⟨au1⟩⟩
                               ·
                                rw [if_neg c82] at H
                                exact absurd H (by simp)
                              ·
                               rw [if_neg c81] at H
                               exact absurd H (by simp)
                             ·
                              rw [if_neg c79] at H
                              have c79b0 : decide (0 < x15_4) = false := decide_eq_false c79
                              clear c79
                              obtain ⟨y252, hy252⟩ : ∃ y_ : List Bool, y_ = (x14_4.set ((rd t233 x15_4) : Int).toNat true) := ⟨_, rfl⟩
                              replace H : (capstanlaw11_CallsOrder.l2 k4 t211 x5_1 x7_1 x11_2 t233 y252 (wrap64 (x15_4 + 1)) l0_0 l0_1 l0_2 a0_3) = some r := by first | (rw [hy252]; with_reducible exact H) | (have H2_ := (Option.bind_some _ _).symm.trans H; rw [hy252]; with_reducible exact H2_) | (have H2_ := (Option.bind_some _ _).symm.trans H; with_reducible exact H2_) | with_reducible exact H | (rw [hy252]; exact H) | exact H
                              have Ny252 := Aside0.mk hy252
                              clear hy252
                              as_aux_lemma =>
                               have H' := Aside0.mk H
                               clear H
                               obtain ⟨Ao91, co91, eo91⟩ := Kd.R_slice HO_12.out
                               subst eo91
                               try go_wp2
                               (try (rw [drewN_self wr]; generalize hq_ : World.drewN wr _ = wr; have n0_ : Aside0 (Kd.R (Kd.int .i64) 3 wr w.heap.size (fun k_ => some k_ ≠ (.slice Ao19 t211.length co19 : Value).ownBlock ∧ some k_ ≠ (.slice (some ⟨goa62xy215, 0, none⟩) 40 40 : Value).ownBlock) (.slice Ao91 t233.length co91) t233) := ⟨by rw [← hq_]; exact (au27)⟩; have n1_ : Aside0 (Kd.R Kd.bool 63 wr w.heap.size (fun _ => True) (.slice (some ⟨goa63xy238, 0, none⟩) 40 40) x14_4) := ⟨by rw [← hq_]; exact (au24)⟩; have n2_ : Aside0 (Kd.R (Kd.int .i64) 3 wr w.heap.size (fun k_ => some k_ ≠ (.slice Ao91 t233.length co91 : Value).ownBlock ∧ some k_ ≠ (.slice (some ⟨goa62xy215, 0, none⟩) 40 40 : Value).ownBlock) (.slice Ao19 t211.length co19) t211) := ⟨au48⟩; have n3_ : Aside0 (Kd.R (Kd.int .i64) 62 wr w.heap.size (fun k_ => some k_ ≠ (.slice Ao91 t233.length co91 : Value).ownBlock ∧ some k_ ≠ (.slice Ao19 t211.length co19 : Value).ownBlock) (.slice (some ⟨goa62xy215, 0, none⟩) 40 40) x5_1) := ⟨au49⟩; have n4_ : Aside0 (wr.heap[gb208]? = some (.cells #[.slice A0_0 l0_0.length c0_0, .slice A0_1 l0_1.length c0_1, .slice A0_2 l0_2.length c0_2, .int .i64 a0_3] 25 (0, 0))) := ⟨by rw [← hq_]; exact (au5)⟩; have n5_ : Aside0 (Below w.heap.size w wr) := ⟨by rw [← hq_]; exact (au1)⟩; clear HO_12 HO_14 HO_3 HO_5 BK208 HB hq_; have HO_12 := n0_; have HO_14 := n1_; have HO_3 := n2_; have HO_5 := n3_; have BK208 := n4_; have HB := n5_; clear n0_ n1_ n2_ n3_ n4_ n5_))
                               (try obtain ⟨hcu92_0, hcu92_1, hcu92_2, hcu92_3, hfu92_0, hfu92_1, hfu92_2, hfu92_3⟩ := blk_all4 BK208.out)
                               have n0_ := Aside0.mk (Kd.R_drew HO_3.out)
                               have n1_ := Aside0.mk (Kd.R_drew HO_5.out)
                               have n2_ := Aside0.mk (Kd.R_drew HO_12.out)
                               have n3_ := Aside0.mk (Kd.R_drew HO_14.out)
                               have n4_ := Aside0.mk (blk_drew BK208.out)
                               have n5_ := Aside0.mk (below_drew1 HB.out)
                               clear HO_3
                               clear HO_5
                               clear HO_12
                               clear HO_14
                               clear BK208
                               clear HB
                               have HO_3 := n0_
                               have HO_5 := n1_
                               have HO_12 := n2_
                               have HO_14 := n3_
                               have BK208 := n4_
                               have HB := n5_
                               clear n0_ n1_ n2_ n3_ n4_ n5_
                               have p241 : 0 ≤ (x15_4 : Int) := of_decide_eq_true (au4)
                               have q241 : x15_4 < (t233.length : Int) := of_decide_eq_true (au4)
                               obtain ⟨ad241, e241, hx241_0⟩ := Kd.at_int (Kd.R_readsN HO_12.out) x15_4 p241 q241
                               cases e241
                               replace p241 := eq_true p241
                               replace q241 := eq_true q241
                               have p242 : 0 ≤ (x15_4 : Int) := of_decide_eq_true (au4)
                               have q242 : x15_4 < (t233.length : Int) := of_decide_eq_true (au4)
                               obtain ⟨ad242, e242, hx242_0⟩ := Kd.at_int (Kd.R_readsN HO_12.out) x15_4 p242 q242
                               obtain rfl : ad241 = ad242 := (by injection e242)
                               replace p242 := eq_true p242
                               replace q242 := eq_true q242
                               have p243 : 0 ≤ (x15_4 : Int) := of_decide_eq_true (au4)
                               have q243 : x15_4 < (t233.length : Int) := of_decide_eq_true (au4)
                               obtain ⟨ad243, e243, hx243_0⟩ := Kd.at_int (Kd.R_readsN HO_12.out) x15_4 p243 q243
                               obtain rfl : ad241 = ad243 := (by injection e243)
                               replace p243 := eq_true p243
                               replace q243 := eq_true q243
                               have p244 : 0 ≤ (x15_4 : Int) := of_decide_eq_true (au4)
                               have q244 : x15_4 < (t233.length : Int) := of_decide_eq_true (au4)
                               obtain ⟨ad244, e244, hx244_0⟩ := Kd.at_int (Kd.R_readsN HO_12.out) x15_4 p244 q244
                               obtain rfl : ad241 = ad244 := (by injection e244)
                               replace p244 := eq_true p244
                               replace q244 := eq_true q244
                               have p245 : 0 ≤ ((rd t233 x15_4) : Int) := of_decide_eq_true (au4)
                               have q245 : (rd t233 x15_4) < (40 : Int) := of_decide_eq_true (au4)
                               obtain ⟨ad245, e245, hx245_0⟩ := Kd.at_int (Kd.R_readsN HO_5.out) (rd t233 x15_4) p245 q245
                               obtain rfl : (⟨goa62xy215, 0, none⟩ : Addr) = ad245 := (by injection e245)
                               (first | simp only [add_plain] at hx245_0 | simp only [add_at] at hx245_0 | simp only [Addr.add, Nat.zero_add] at hx245_0 | skip)
                               replace p245 := eq_true p245
                               replace q245 := eq_true q245
                               have p246 : 0 ≤ (x11_2 : Int) := of_decide_eq_true (au4)
                               have q246 : x11_2 < (40 : Int) := of_decide_eq_true (au4)
                               obtain ⟨ad246, e246, hx246_0⟩ := Kd.at_int (Kd.R_readsN HO_5.out) x11_2 p246 q246
                               obtain rfl : (⟨goa62xy215, 0, none⟩ : Addr) = ad246 := (by injection e246)
                               (first | simp only [add_plain] at hx246_0 | simp only [add_at] at hx246_0 | simp only [Addr.add, Nat.zero_add] at hx246_0 | skip)
                               replace p246 := eq_true p246
                               replace q246 := eq_true q246
                               refine start_ (n := 50) (S := fun w' => w'.cell? (ad241.add (x15_4).toNat) = some (.int .i64 (rd t233 x15_4)) ∧ w'.cell? (ad241.add (x15_4).toNat) = some (.int .i64 (rd t233 x15_4)) ∧ w'.cell? (ad241.add (x15_4).toNat) = some (.int .i64 (rd t233 x15_4)) ∧ w'.cell? (ad241.add (x15_4).toNat) = some (.int .i64 (rd t233 x15_4)) ∧ w'.cell? ⟨goa62xy215, ((rd t233 x15_4)).toNat, none⟩ = some (.int .i64 (rd x5_1 (rd t233 x15_4))) ∧ w'.cell? ⟨goa62xy215, (x11_2).toNat, none⟩ = some (.int .i64 (rd x5_1 x11_2))) (ds := []) #[false, false, false, false, false, false, false, false, false, false, false, false, false, false, false, false, false, false, false, false, false, false, false, false, false, false, false, false, false, false, false, false, false, false, false, false, false, false, false, false, false, false, false, false, false, false, false, false, false, false] (by kernel_rfl) rfl rfl ⟨hx241_0, hx242_0, hx243_0, hx244_0, hx245_0, hx246_0⟩ (fun hHeld => ?_); refine with_tabW capstanlaw11_CallsOrder.tab34 capstanlaw11_CallsOrder.bits34 (fun HT_ HW_ => ?_)
                               generalize wr.drew = w93 at HO_3 HO_5 HO_12 HO_14 BK208 HB hx241_0 hx242_0 hx243_0 hx244_0 hx245_0 hx246_0 hHeld ⊢
                               refine pure_ (i := 0) (N := some 131) (v := ?_) (a' := ?_) #[true, false, false, false, false, false, false, false, false, false, false, false, false, false, false, false, false, false, false, false, false, false, false, false, false, false, false, false, false, false, false, false, false, false, false, false, false, false, false, false, false, false, false, false, false, false, false, false, false, false] rfl rfl (any_of HT_.out (by kernel_rfl)) (fun _ _ _ h => h) (Or.inl ⟨by rfl, ?_⟩) ?_ ?_
                               rotate_left
                               ·
                                intro w'
                                go_simp
                                with_reducible rfl
                               rotate_left
                               ·
                                simp only [Act.put, List.setIfInBounds_toArray, List.set_cons_zero, List.set_cons_succ, i64_w, i32_w]
                                rfl
                               refine pure_ (i := 1) (N := some 132) (v := ?_) (a' := ?_) #[true, true, false, false, false, false, false, false, false, false, false, false, false, false, false, false, false, false, false, false, false, false, false, false, false, false, false, false, false, false, false, false, false, false, false, false, false, false, false, false, false, false, false, false, false, false, false, false, false, false] rfl rfl (any_of HT_.out (by kernel_rfl)) (fun _ _ _ h => h) (Or.inl ⟨by rfl, ?_⟩) ?_ ?_
                               rotate_left
                               ·
                                intro w'
                                go_simp
                                with_reducible rfl
                               rotate_left
                               ·
                                simp only [Act.put, List.setIfInBounds_toArray, List.set_cons_zero, List.set_cons_succ, i64_w, i32_w]
                                rfl
                               refine pure_ (i := 2) (N := some 133) (v := ?_) (a' := ?_) #[true, true, true, false, false, false, false, false, false, false, false, false, false, false, false, false, false, false, false, false, false, false, false, false, false, false, false, false, false, false, false, false, false, false, false, false, false, false, false, false, false, false, false, false, false, false, false, false, false, false] rfl rfl (any_of HT_.out (by kernel_rfl)) (fun _ _ _ h => h) (Or.inl ⟨by rfl, ?_⟩) ?_ ?_
                               rotate_left
                               ·
                                intro w'
                                go_simp
                                with_reducible rfl
                               rotate_left
                               ·
                                simp only [Act.put, List.setIfInBounds_toArray, List.set_cons_zero, List.set_cons_succ, i64_w, i32_w]
                                rfl
                               refine take_ (i := 3) (N := some 134) (v := ?_) (a' := ?_) #[true, true, true, true, false, false, false, false, false, false, false, false, false, false, false, false, false, false, false, false, false, false, false, false, false, false, false, false, false, false, false, false, false, false, false, false, false, false, false, false, false, false, false, false, false, false, false, false, false, false] rfl rfl (take_ofW HT_.out HW_.out (by kernel_rfl)) (fun _ _ _ h => h) (Or.inl ⟨by rfl, ?_⟩) hHeld ?_ ?_
                               rotate_left
                               ·
                                rintro w' ⟨s0, s1, s2, s3, s4, s5⟩
                                go_simp
                                with_reducible rfl
                               rotate_left
                               ·
                                simp only [Act.put, List.setIfInBounds_toArray, List.set_cons_zero, List.set_cons_succ, i64_w, i32_w]
                                rfl
                               refine pure_ (i := 4) (N := some 135) (v := ?_) (a' := ?_) #[true, true, true, true, true, false, false, false, false, false, false, false, false, false, false, false, false, false, false, false, false, false, false, false, false, false, false, false, false, false, false, false, false, false, false, false, false, false, false, false, false, false, false, false, false, false, false, false, false, false] rfl rfl (any_of HT_.out (by kernel_rfl)) (fun _ _ _ h => h) (Or.inl ⟨by rfl, ?_⟩) ?_ ?_
                               rotate_left
                               ·
                                intro w'
                                go_simp
                                with_reducible rfl
                               rotate_left
                               ·
                                simp only [Act.put, List.setIfInBounds_toArray, List.set_cons_zero, List.set_cons_succ, i64_w, i32_w]
                                rfl
                               refine pure_ (i := 5) (N := some 136) (v := ?_) (a' := ?_) #[true, true, true, true, true, true, false, false, false, false, false, false, false, false, false, false, false, false, false, false, false, false, false, false, false, false, false, false, false, false, false, false, false, false, false, false, false, false, false, false, false, false, false, false, false, false, false, false, false, false] rfl rfl (any_of HT_.out (by kernel_rfl)) (fun _ _ _ h => h) (Or.inl ⟨by rfl, ?_⟩) ?_ ?_
                               rotate_left
                               ·
                                intro w'
                                go_simp
                                with_reducible rfl
                               rotate_left
                               ·
                                simp only [Act.put, List.setIfInBounds_toArray, List.set_cons_zero, List.set_cons_succ, i64_w, i32_w]
                                rfl
                               refine pure_ (i := 6) (N := some 137) (v := ?_) (a' := ?_) #[true, true, true, true, true, true, true, false, false, false, false, false, false, false, false, false, false, false, false, false, false, false, false, false, false, false, false, false, false, false, false, false, false, false, false, false, false, false, false, false, false, false, false, false, false, false, false, false, false, false] rfl rfl (any_of HT_.out (by kernel_rfl)) (fun _ _ _ h => h) (Or.inl ⟨by rfl, ?_⟩) ?_ ?_
                               rotate_left
                               ·
                                intro w'
                                go_simp
                                with_reducible rfl
                               rotate_left
                               ·
                                simp only [Act.put, List.setIfInBounds_toArray, List.set_cons_zero, List.set_cons_succ, i64_w, i32_w]
                                rfl
                               refine pure_ (i := 7) (N := some 138) (v := ?_) (a' := ?_) #[true, true, true, true, true, true, true, true, false, false, false, false, false, false, false, false, false, false, false, false, false, false, false, false, false, false, false, false, false, false, false, false, false, false, false, false, false, false, false, false, false, false, false, false, false, false, false, false, false, false] rfl rfl (any_of HT_.out (by kernel_rfl)) (fun _ _ _ h => h) (Or.inl ⟨by rfl, ?_⟩) ?_ ?_
                               rotate_left
                               ·
                                intro w'
                                go_simp
                                with_reducible rfl
                               rotate_left
                               ·
                                simp only [Act.put, List.setIfInBounds_toArray, List.set_cons_zero, List.set_cons_succ, i64_w, i32_w]
                                rfl
                               refine pure_ (i := 8) (N := some 139) (v := ?_) (a' := ?_) #[true, true, true, true, true, true, true, true, true, false, false, false, false, false, false, false, false, false, false, false, false, false, false, false, false, false, false, false, false, false, false, false, false, false, false, false, false, false, false, false, false, false, false, false, false, false, false, false, false, false] rfl rfl (any_of HT_.out (by kernel_rfl)) (fun _ _ _ h => h) (Or.inl ⟨by rfl, ?_⟩) ?_ ?_
                               rotate_left
                               ·
                                intro w'
                                go_simp
                                with_reducible rfl
                               rotate_left
                               ·
                                simp only [Act.put, List.setIfInBounds_toArray, List.set_cons_zero, List.set_cons_succ, i64_w, i32_w]
                                rfl
                               refine pure_ (i := 10) (N := some 141) (v := ?_) (a' := ?_) #[true, true, true, true, true, true, true, true, true, false, true, false, false, false, false, false, false, false, false, false, false, false, false, false, false, false, false, false, false, false, false, false, false, false, false, false, false, false, false, false, false, false, false, false, false, false, false, false, false, false] rfl rfl (any_of HT_.out (by kernel_rfl)) (fun _ _ _ h => h) (Or.inl ⟨by rfl, ?_⟩) ?_ ?_
                               rotate_left
                               ·
                                intro w'
                                go_simp
                                with_reducible rfl
                               rotate_left
                               ·
                                simp only [Act.put, List.setIfInBounds_toArray, List.set_cons_zero, List.set_cons_succ, i64_w, i32_w]
                                rfl
                               refine pure_ (i := 11) (N := some 142) (v := ?_) (a' := ?_) #[true, true, true, true, true, true, true, true, true, false, true, true, false, false, false, false, false, false, false, false, false, false, false, false, false, false, false, false, false, false, false, false, false, false, false, false, false, false, false, false, false, false, false, false, false, false, false, false, false, false] rfl rfl (any_of HT_.out (by kernel_rfl)) (fun _ _ _ h => h) (Or.inl ⟨by rfl, ?_⟩) ?_ ?_
                               rotate_left
                               ·
                                intro w'
                                go_simp
                                with_reducible rfl
                               rotate_left
                               ·
                                simp only [Act.put, List.setIfInBounds_toArray, List.set_cons_zero, List.set_cons_succ, i64_w, i32_w]
                                rfl
                               refine take_ (i := 9) (N := some 140) (v := ?_) (a' := ?_) #[true, true, true, true, true, true, true, true, true, true, true, true, false, false, false, false, false, false, false, false, false, false, false, false, false, false, false, false, false, false, false, false, false, false, false, false, false, false, false, false, false, false, false, false, false, false, false, false, false, false] rfl rfl (take_ofW HT_.out HW_.out (by kernel_rfl)) (fun _ _ _ h => h) (Or.inl ⟨by rfl, ?_⟩) hHeld ?_ ?_
                               rotate_left
                               ·
                                rintro w' ⟨s0, s1, s2, s3, s4, s5⟩
                                go_simp
                                with_reducible rfl
                               rotate_left
                               ·
                                simp only [Act.put, List.setIfInBounds_toArray, List.set_cons_zero, List.set_cons_succ, i64_w, i32_w]
                                rfl
                               refine pure_ (i := 12) (N := some 143) (v := ?_) (a' := ?_) #[true, true, true, true, true, true, true, true, true, true, true, true, true, false, false, false, false, false, false, false, false, false, false, false, false, false, false, false, false, false, false, false, false, false, false, false, false, false, false, false, false, false, false, false, false, false, false, false, false, false] rfl rfl (any_of HT_.out (by kernel_rfl)) (fun _ _ _ h => h) (Or.inl ⟨by rfl, ?_⟩) ?_ ?_
                               rotate_left
                               ·
                                intro w'
                                go_simp
                                with_reducible rfl
                               rotate_left
                               ·
                                simp only [Act.put, List.setIfInBounds_toArray, List.set_cons_zero, List.set_cons_succ, i64_w, i32_w]
                                rfl
                               refine pure_ (i := 13) (N := some 144) (v := ?_) (a' := ?_) #[true, true, true, true, true, true, true, true, true, true, true, true, true, true, false, false, false, false, false, false, false, false, false, false, false, false, false, false, false, false, false, false, false, false, false, false, false, false, false, false, false, false, false, false, false, false, false, false, false, false] rfl rfl (any_of HT_.out (by kernel_rfl)) (fun _ _ _ h => h) (Or.inl ⟨by rfl, ?_⟩) ?_ ?_
                               rotate_left
                               ·
                                intro w'
                                go_simp
                                with_reducible rfl
                               rotate_left
                               ·
                                simp only [Act.put, List.setIfInBounds_toArray, List.set_cons_zero, List.set_cons_succ, i64_w, i32_w]
                                rfl
                               refine pure_ (i := 14) (N := some 145) (v := ?_) (a' := ?_) #[true, true, true, true, true, true, true, true, true, true, true, true, true, true, true, false, false, false, false, false, false, false, false, false, false, false, false, false, false, false, false, false, false, false, false, false, false, false, false, false, false, false, false, false, false, false, false, false, false, false] rfl rfl (any_of HT_.out (by kernel_rfl)) (fun _ _ _ h => h) (Or.inl ⟨by rfl, ?_⟩) ?_ ?_
                               rotate_left
                               ·
                                intro w'
                                go_simp
                                with_reducible rfl
                               rotate_left
                               ·
                                simp only [Act.put, List.setIfInBounds_toArray, List.set_cons_zero, List.set_cons_succ, i64_w, i32_w]
                                rfl
                               refine pure_ (i := 15) (N := some 146) (v := ?_) (a' := ?_) #[true, true, true, true, true, true, true, true, true, true, true, true, true, true, true, true, false, false, false, false, false, false, false, false, false, false, false, false, false, false, false, false, false, false, false, false, false, false, false, false, false, false, false, false, false, false, false, false, false, false] rfl rfl (any_of HT_.out (by kernel_rfl)) (fun _ _ _ h => h) (Or.inl ⟨by rfl, ?_⟩) ?_ ?_
                               rotate_left
                               ·
                                intro w'
                                go_simp
                                with_reducible rfl
                               rotate_left
                               ·
                                simp only [Act.put, List.setIfInBounds_toArray, List.set_cons_zero, List.set_cons_succ, i64_w, i32_w]
                                rfl
                               refine pure_ (i := 16) (N := some 147) (v := ?_) (a' := ?_) #[true, true, true, true, true, true, true, true, true, true, true, true, true, true, true, true, true, false, false, false, false, false, false, false, false, false, false, false, false, false, false, false, false, false, false, false, false, false, false, false, false, false, false, false, false, false, false, false, false, false] rfl rfl (any_of HT_.out (by kernel_rfl)) (fun _ _ _ h => h) (Or.inl ⟨by rfl, ?_⟩) ?_ ?_
                               rotate_left
                               ·
                                intro w'
                                go_simp
                                with_reducible rfl
                               rotate_left
                               ·
                                simp only [Act.put, List.setIfInBounds_toArray, List.set_cons_zero, List.set_cons_succ, i64_w, i32_w]
                                rfl
                               refine pure_ (i := 17) (N := some 148) (v := ?_) (a' := ?_) #[true, true, true, true, true, true, true, true, true, true, true, true, true, true, true, true, true, true, false, false, false, false, false, false, false, false, false, false, false, false, false, false, false, false, false, false, false, false, false, false, false, false, false, false, false, false, false, false, false, false] rfl rfl (any_of HT_.out (by kernel_rfl)) (fun _ _ _ h => h) (Or.inl ⟨by rfl, ?_⟩) ?_ ?_
                               rotate_left
                               ·
                                intro w'
                                go_simp
                                with_reducible rfl
                               rotate_left
                               ·
                                simp only [Act.put, List.setIfInBounds_toArray, List.set_cons_zero, List.set_cons_succ, i64_w, i32_w]
                                rfl
                               refine pure_ (i := 19) (N := some 150) (v := ?_) (a' := ?_) #[true, true, true, true, true, true, true, true, true, true, true, true, true, true, true, true, true, true, false, true, false, false, false, false, false, false, false, false, false, false, false, false, false, false, false, false, false, false, false, false, false, false, false, false, false, false, false, false, false, false] rfl rfl (any_of HT_.out (by kernel_rfl)) (fun _ _ _ h => h) (Or.inl ⟨by rfl, ?_⟩) ?_ ?_
                               rotate_left
                               ·
                                intro w'
                                go_simp
                                with_reducible rfl
                               rotate_left
                               ·
                                simp only [Act.put, List.setIfInBounds_toArray, List.set_cons_zero, List.set_cons_succ, i64_w, i32_w]
                                rfl
                               refine take_ (i := 18) (N := some 149) (v := ?_) (a' := ?_) #[true, true, true, true, true, true, true, true, true, true, true, true, true, true, true, true, true, true, true, true, false, false, false, false, false, false, false, false, false, false, false, false, false, false, false, false, false, false, false, false, false, false, false, false, false, false, false, false, false, false] rfl rfl (take_ofW HT_.out HW_.out (by kernel_rfl)) (fun _ _ _ h => h) (Or.inl ⟨by rfl, ?_⟩) hHeld ?_ ?_
                               rotate_left
                               ·
                                rintro w' ⟨s0, s1, s2, s3, s4, s5⟩
                                go_simp
                                with_reducible rfl
                               rotate_left
                               ·
                                simp only [Act.put, List.setIfInBounds_toArray, List.set_cons_zero, List.set_cons_succ, i64_w, i32_w]
                                rfl
                               refine pure_ (i := 20) (N := some 151) (v := ?_) (a' := ?_) #[true, true, true, true, true, true, true, true, true, true, true, true, true, true, true, true, true, true, true, true, true, false, false, false, false, false, false, false, false, false, false, false, false, false, false, false, false, false, false, false, false, false, false, false, false, false, false, false, false, false] rfl rfl (any_of HT_.out (by kernel_rfl)) (fun _ _ _ h => h) (Or.inl ⟨by rfl, ?_⟩) ?_ ?_
                               rotate_left
                               ·
                                intro w'
                                go_simp
                                with_reducible rfl
                               rotate_left
                               ·
                                simp only [Act.put, List.setIfInBounds_toArray, List.set_cons_zero, List.set_cons_succ, i64_w, i32_w]
                                rfl
                               refine pure_ (i := 21) (N := some 152) (v := ?_) (a' := ?_) #[true, true, true, true, true, true, true, true, true, true, true, true, true, true, true, true, true, true, true, true, true, true, false, false, false, false, false, false, false, false, false, false, false, false, false, false, false, false, false, false, false, false, false, false, false, false, false, false, false, false] rfl rfl (any_of HT_.out (by kernel_rfl)) (fun _ _ _ h => h) (Or.inl ⟨by rfl, ?_⟩) ?_ ?_
                               rotate_left
                               ·
                                intro w'
                                go_simp
                                with_reducible rfl
                               rotate_left
                               ·
                                simp only [Act.put, List.setIfInBounds_toArray, List.set_cons_zero, List.set_cons_succ, i64_w, i32_w]
                                rfl
                               refine pure_ (i := 22) (N := some 153) (v := ?_) (a' := ?_) #[true, true, true, true, true, true, true, true, true, true, true, true, true, true, true, true, true, true, true, true, true, true, true, false, false, false, false, false, false, false, false, false, false, false, false, false, false, false, false, false, false, false, false, false, false, false, false, false, false, false] rfl rfl (any_of HT_.out (by kernel_rfl)) (fun _ _ _ h => h) (Or.inl ⟨by rfl, ?_⟩) ?_ ?_
                               rotate_left
                               ·
                                intro w'
                                go_simp
                                with_reducible rfl
                               rotate_left
                               ·
                                simp only [Act.put, List.setIfInBounds_toArray, List.set_cons_zero, List.set_cons_succ, i64_w, i32_w]
                                rfl
                               refine pure_ (i := 23) (N := some 154) (v := ?_) (a' := ?_) #[true, true, true, true, true, true, true, true, true, true, true, true, true, true, true, true, true, true, true, true, true, true, true, true, false, false, false, false, false, false, false, false, false, false, false, false, false, false, false, false, false, false, false, false, false, false, false, false, false, false] rfl rfl (any_of HT_.out (by kernel_rfl)) (fun _ _ _ h => h) (Or.inl ⟨by rfl, ?_⟩) ?_ ?_
                               rotate_left
                               ·
                                intro w'
                                go_simp
                                with_reducible rfl
                               rotate_left
                               ·
                                simp only [Act.put, List.setIfInBounds_toArray, List.set_cons_zero, List.set_cons_succ, i64_w, i32_w]
                                rfl
                               refine pure_ (i := 24) (N := some 155) (v := ?_) (a' := ?_) #[true, true, true, true, true, true, true, true, true, true, true, true, true, true, true, true, true, true, true, true, true, true, true, true, true, false, false, false, false, false, false, false, false, false, false, false, false, false, false, false, false, false, false, false, false, false, false, false, false, false] rfl rfl (any_of HT_.out (by kernel_rfl)) (fun _ _ _ h => h) (Or.inl ⟨by rfl, ?_⟩) ?_ ?_
                               rotate_left
                               ·
                                intro w'
                                go_simp
                                with_reducible rfl
                               rotate_left
                               ·
                                simp only [Act.put, List.setIfInBounds_toArray, List.set_cons_zero, List.set_cons_succ, i64_w, i32_w]
                                rfl
                               refine pure_ (i := 25) (N := some 156) (v := ?_) (a' := ?_) #[true, true, true, true, true, true, true, true, true, true, true, true, true, true, true, true, true, true, true, true, true, true, true, true, true, true, false, false, false, false, false, false, false, false, false, false, false, false, false, false, false, false, false, false, false, false, false, false, false, false] rfl rfl (any_of HT_.out (by kernel_rfl)) (fun _ _ _ h => h) (Or.inl ⟨by rfl, ?_⟩) ?_ ?_
                               rotate_left
                               ·
                                intro w'
                                go_simp
                                with_reducible rfl
                               rotate_left
                               ·
                                simp only [Act.put, List.setIfInBounds_toArray, List.set_cons_zero, List.set_cons_succ, i64_w, i32_w]
                                rfl
                               refine pure_ (i := 29) (N := some 160) (v := ?_) (a' := ?_) #[true, true, true, true, true, true, true, true, true, true, true, true, true, true, true, true, true, true, true, true, true, true, true, true, true, true, false, false, false, true, false, false, false, false, false, false, false, false, false, false, false, false, false, false, false, false, false, false, false, false] rfl rfl (any_of HT_.out (by kernel_rfl)) (fun _ _ _ h => h) (Or.inl ⟨by rfl, ?_⟩) ?_ ?_
                               rotate_left
                               ·
                                intro w'
                                go_simp
                                with_reducible rfl
                               rotate_left
                               ·
                                simp only [Act.put, List.setIfInBounds_toArray, List.set_cons_zero, List.set_cons_succ, i64_w, i32_w]
                                rfl
                               refine pure_ (i := 30) (N := some 161) (v := ?_) (a' := ?_) #[true, true, true, true, true, true, true, true, true, true, true, true, true, true, true, true, true, true, true, true, true, true, true, true, true, true, false, false, false, true, true, false, false, false, false, false, false, false, false, false, false, false, false, false, false, false, false, false, false, false] rfl rfl (any_of HT_.out (by kernel_rfl)) (fun _ _ _ h => h) (Or.inl ⟨by rfl, ?_⟩) ?_ ?_
                               rotate_left
                               ·
                                intro w'
                                go_simp
                                with_reducible rfl
                               rotate_left
                               ·
                                simp only [Act.put, List.setIfInBounds_toArray, List.set_cons_zero, List.set_cons_succ, i64_w, i32_w]
                                rfl
                               refine take_ (i := 26) (N := some 157) (v := ?_) (a' := ?_) #[true, true, true, true, true, true, true, true, true, true, true, true, true, true, true, true, true, true, true, true, true, true, true, true, true, true, true, false, false, true, true, false, false, false, false, false, false, false, false, false, false, false, false, false, false, false, false, false, false, false] rfl rfl (take_ofW HT_.out HW_.out (by kernel_rfl)) (fun _ _ _ h => h) (Or.inl ⟨by rfl, ?_⟩) hHeld ?_ ?_
                               rotate_left
                               ·
                                rintro w' ⟨s0, s1, s2, s3, s4, s5⟩
                                go_simp
                                with_reducible rfl
                               rotate_left
                               ·
                                simp only [Act.put, List.setIfInBounds_toArray, List.set_cons_zero, List.set_cons_succ, i64_w, i32_w]
                                rfl
                               refine pure_ (i := 27) (N := some 158) (v := ?_) (a' := ?_) #[true, true, true, true, true, true, true, true, true, true, true, true, true, true, true, true, true, true, true, true, true, true, true, true, true, true, true, true, false, true, true, false, false, false, false, false, false, false, false, false, false, false, false, false, false, false, false, false, false, false] rfl rfl (any_of HT_.out (by kernel_rfl)) (fun _ _ _ h => h) (Or.inl ⟨by rfl, ?_⟩) ?_ ?_
                               rotate_left
                               ·
                                intro w'
                                go_simp
                                with_reducible rfl
                               rotate_left
                               ·
                                simp only [Act.put, List.setIfInBounds_toArray, List.set_cons_zero, List.set_cons_succ, i64_w, i32_w]
                                rfl
                               refine take_ (i := 28) (N := some 159) (v := ?_) (a' := ?_) #[true, true, true, true, true, true, true, true, true, true, true, true, true, true, true, true, true, true, true, true, true, true, true, true, true, true, true, true, true, true, true, false, false, false, false, false, false, false, false, false, false, false, false, false, false, false, false, false, false, false] rfl rfl (take_ofW HT_.out HW_.out (by kernel_rfl)) (fun _ _ _ h => h) (Or.inl ⟨by rfl, ?_⟩) hHeld ?_ ?_
                               rotate_left
                               ·
                                rintro w' ⟨s0, s1, s2, s3, s4, s5⟩
                                go_simp
                                with_reducible rfl
                               rotate_left
                               ·
                                simp only [Act.put, List.setIfInBounds_toArray, List.set_cons_zero, List.set_cons_succ, i64_w, i32_w]
                                rfl
                               refine take_ (i := 31) (N := some 162) (v := ?_) (a' := ?_) #[true, true, true, true, true, true, true, true, true, true, true, true, true, true, true, true, true, true, true, true, true, true, true, true, true, true, true, true, true, true, true, true, false, false, false, false, false, false, false, false, false, false, false, false, false, false, false, false, false, false] rfl rfl (take_ofW HT_.out HW_.out (by kernel_rfl)) (fun _ _ _ h => h) (Or.inl ⟨by rfl, ?_⟩) hHeld ?_ ?_
                               rotate_left
                               ·
                                rintro w' ⟨s0, s1, s2, s3, s4, s5⟩
                                go_simp
                                with_reducible rfl
                               rotate_left
                               ·
                                simp only [Act.put, List.setIfInBounds_toArray, List.set_cons_zero, List.set_cons_succ, i64_w, i32_w]
                                rfl
                               refine pure_ (i := 32) (N := some 163) (v := ?_) (a' := ?_) #[true, true, true, true, true, true, true, true, true, true, true, true, true, true, true, true, true, true, true, true, true, true, true, true, true, true, true, true, true, true, true, true, true, false, false, false, false, false, false, false, false, false, false, false, false, false, false, false, false, false] rfl rfl (any_of HT_.out (by kernel_rfl)) (fun _ _ _ h => h) (Or.inl ⟨by rfl, ?_⟩) ?_ ?_
                               rotate_left
                               ·
                                intro w'
                                go_simp
                                with_reducible rfl
                               rotate_left
                               ·
                                simp only [Act.put, List.setIfInBounds_toArray, List.set_cons_zero, List.set_cons_succ, i64_w, i32_w]
                                rfl
                               refine pure_ (i := 33) (N := some 164) (v := ?_) (a' := ?_) #[true, true, true, true, true, true, true, true, true, true, true, true, true, true, true, true, true, true, true, true, true, true, true, true, true, true, true, true, true, true, true, true, true, true, false, false, false, false, false, false, false, false, false, false, false, false, false, false, false, false] rfl rfl (any_of HT_.out (by kernel_rfl)) (fun _ _ _ h => h) (Or.inl ⟨by rfl, ?_⟩) ?_ ?_
                               rotate_left
                               ·
                                intro w'
                                go_simp
                                with_reducible rfl
                               rotate_left
                               ·
                                simp only [Act.put, List.setIfInBounds_toArray, List.set_cons_zero, List.set_cons_succ, i64_w, i32_w]
                                rfl
                               refine pure_ (i := 34) (N := some 165) (v := ?_) (a' := ?_) #[true, true, true, true, true, true, true, true, true, true, true, true, true, true, true, true, true, true, true, true, true, true, true, true, true, true, true, true, true, true, true, true, true, true, true, false, false, false, false, false, false, false, false, false, false, false, false, false, false, false] rfl rfl (any_of HT_.out (by kernel_rfl)) (fun _ _ _ h => h) (Or.inl ⟨by rfl, ?_⟩) ?_ ?_
                               rotate_left
                               ·
                                intro w'
                                go_simp
                                with_reducible rfl
                               rotate_left
                               ·
                                simp only [Act.put, List.setIfInBounds_toArray, List.set_cons_zero, List.set_cons_succ, i64_w, i32_w]
                                rfl
                               refine pure_ (i := 35) (N := some 166) (v := ?_) (a' := ?_) #[true, true, true, true, true, true, true, true, true, true, true, true, true, true, true, true, true, true, true, true, true, true, true, true, true, true, true, true, true, true, true, true, true, true, true, true, false, false, false, false, false, false, false, false, false, false, false, false, false, false] rfl rfl (any_of HT_.out (by kernel_rfl)) (fun _ _ _ h => h) (Or.inl ⟨by rfl, ?_⟩) ?_ ?_
                               rotate_left
                               ·
                                intro w'
                                go_simp
                                with_reducible rfl
                               rotate_left
                               ·
                                simp only [Act.put, List.setIfInBounds_toArray, List.set_cons_zero, List.set_cons_succ, i64_w, i32_w]
                                rfl
                               refine pure_ (i := 36) (N := some 167) (v := ?_) (a' := ?_) #[true, true, true, true, true, true, true, true, true, true, true, true, true, true, true, true, true, true, true, true, true, true, true, true, true, true, true, true, true, true, true, true, true, true, true, true, true, false, false, false, false, false, false, false, false, false, false, false, false, false] rfl rfl (any_of HT_.out (by kernel_rfl)) (fun _ _ _ h => h) (Or.inl ⟨by rfl, ?_⟩) ?_ ?_
                               rotate_left
                               ·
                                intro w'
                                go_simp
                                with_reducible rfl
                               rotate_left
                               ·
                                simp only [Act.put, List.setIfInBounds_toArray, List.set_cons_zero, List.set_cons_succ, i64_w, i32_w]
                                rfl
                               refine pure_ (i := 37) (N := some 168) (v := ?_) (a' := ?_) #[true, true, true, true, true, true, true, true, true, true, true, true, true, true, true, true, true, true, true, true, true, true, true, true, true, true, true, true, true, true, true, true, true, true, true, true, true, true, false, false, false, false, false, false, false, false, false, false, false, false] rfl rfl (any_of HT_.out (by kernel_rfl)) (fun _ _ _ h => h) (Or.inl ⟨by rfl, ?_⟩) ?_ ?_
                               rotate_left
                               ·
                                intro w'
                                go_simp
                                with_reducible rfl
                               rotate_left
                               ·
                                simp only [Act.put, List.setIfInBounds_toArray, List.set_cons_zero, List.set_cons_succ, i64_w, i32_w]
                                rfl
                               refine pure_ (i := 38) (N := some 169) (v := undef) (a' := ?_) #[true, true, true, true, true, true, true, true, true, true, true, true, true, true, true, true, true, true, true, true, true, true, true, true, true, true, true, true, true, true, true, true, true, true, true, true, true, true, true, false, false, false, false, false, false, false, false, false, false, false] rfl rfl (any_of HT_.out (by kernel_rfl)) (fun _ _ _ h => h) (Or.inr ⟨by rfl, rfl⟩) ?_ ?_
                               rotate_left
                               ·
                                simp only [Act.put, List.setIfInBounds_toArray, List.set_cons_zero, List.set_cons_succ, i64_w, i32_w]
                                rfl
                               refine pure_ (i := 39) (N := some 170) (v := undef) (a' := ?_) #[true, true, true, true, true, true, true, true, true, true, true, true, true, true, true, true, true, true, true, true, true, true, true, true, true, true, true, true, true, true, true, true, true, true, true, true, true, true, true, true, false, false, false, false, false, false, false, false, false, false] rfl rfl (any_of HT_.out (by kernel_rfl)) (fun _ _ _ h => h) (Or.inr ⟨by rfl, rfl⟩) ?_ ?_
                               rotate_left
                               ·
                                simp only [Act.put, List.setIfInBounds_toArray, List.set_cons_zero, List.set_cons_succ, i64_w, i32_w]
                                rfl
                               refine pure_ (i := 40) (N := some 171) (v := undef) (a' := ?_) #[true, true, true, true, true, true, true, true, true, true, true, true, true, true, true, true, true, true, true, true, true, true, true, true, true, true, true, true, true, true, true, true, true, true, true, true, true, true, true, true, true, false, false, false, false, false, false, false, false, false] rfl rfl (any_of HT_.out (by kernel_rfl)) (fun _ _ _ h => h) (Or.inr ⟨by rfl, rfl⟩) ?_ ?_
                               rotate_left
                               ·
                                simp only [Act.put, List.setIfInBounds_toArray, List.set_cons_zero, List.set_cons_succ, i64_w, i32_w]
                                rfl
                               refine pure_ (i := 41) (N := some 172) (v := undef) (a' := ?_) #[true, true, true, true, true, true, true, true, true, true, true, true, true, true, true, true, true, true, true, true, true, true, true, true, true, true, true, true, true, true, true, true, true, true, true, true, true, true, true, true, true, true, false, false, false, false, false, false, false, false] rfl rfl (any_of HT_.out (by kernel_rfl)) (fun _ _ _ h => h) (Or.inr ⟨by rfl, rfl⟩) ?_ ?_
                               rotate_left
                               ·
                                simp only [Act.put, List.setIfInBounds_toArray, List.set_cons_zero, List.set_cons_succ, i64_w, i32_w]
                                rfl
                               refine pure_ (i := 42) (N := some 173) (v := undef) (a' := ?_) #[true, true, true, true, true, true, true, true, true, true, true, true, true, true, true, true, true, true, true, true, true, true, true, true, true, true, true, true, true, true, true, true, true, true, true, true, true, true, true, true, true, true, true, false, false, false, false, false, false, false] rfl rfl (any_of HT_.out (by kernel_rfl)) (fun _ _ _ h => h) (Or.inr ⟨by rfl, rfl⟩) ?_ ?_
                               rotate_left
                               ·
                                simp only [Act.put, List.setIfInBounds_toArray, List.set_cons_zero, List.set_cons_succ, i64_w, i32_w]
                                rfl
                               refine pure_ (i := 43) (N := some 174) (v := undef) (a' := ?_) #[true, true, true, true, true, true, true, true, true, true, true, true, true, true, true, true, true, true, true, true, true, true, true, true, true, true, true, true, true, true, true, true, true, true, true, true, true, true, true, true, true, true, true, true, false, false, false, false, false, false] rfl rfl (any_of HT_.out (by kernel_rfl)) (fun _ _ _ h => h) (Or.inr ⟨by rfl, rfl⟩) ?_ ?_
                               rotate_left
                               ·
                                simp only [Act.put, List.setIfInBounds_toArray, List.set_cons_zero, List.set_cons_succ, i64_w, i32_w]
                                rfl
                               refine pure_ (i := 44) (N := some 175) (v := undef) (a' := ?_) #[true, true, true, true, true, true, true, true, true, true, true, true, true, true, true, true, true, true, true, true, true, true, true, true, true, true, true, true, true, true, true, true, true, true, true, true, true, true, true, true, true, true, true, true, true, false, false, false, false, false] rfl rfl (any_of HT_.out (by kernel_rfl)) (fun _ _ _ h => h) (Or.inr ⟨by rfl, rfl⟩) ?_ ?_
                               rotate_left
                               ·
                                simp only [Act.put, List.setIfInBounds_toArray, List.set_cons_zero, List.set_cons_succ, i64_w, i32_w]
                                rfl
                               refine pure_ (i := 45) (N := some 176) (v := undef) (a' := ?_) #[true, true, true, true, true, true, true, true, true, true, true, true, true, true, true, true, true, true, true, true, true, true, true, true, true, true, true, true, true, true, true, true, true, true, true, true, true, true, true, true, true, true, true, true, true, true, false, false, false, false] rfl rfl (any_of HT_.out (by kernel_rfl)) (fun _ _ _ h => h) (Or.inr ⟨by rfl, rfl⟩) ?_ ?_
                               rotate_left
                               ·
                                simp only [Act.put, List.setIfInBounds_toArray, List.set_cons_zero, List.set_cons_succ, i64_w, i32_w]
                                rfl
                               refine pure_ (i := 46) (N := some 177) (v := undef) (a' := ?_) #[true, true, true, true, true, true, true, true, true, true, true, true, true, true, true, true, true, true, true, true, true, true, true, true, true, true, true, true, true, true, true, true, true, true, true, true, true, true, true, true, true, true, true, true, true, true, true, false, false, false] rfl rfl (any_of HT_.out (by kernel_rfl)) (fun _ _ _ h => h) (Or.inr ⟨by rfl, rfl⟩) ?_ ?_
                               rotate_left
                               ·
                                simp only [Act.put, List.setIfInBounds_toArray, List.set_cons_zero, List.set_cons_succ, i64_w, i32_w]
                                rfl
                               refine pure_ (i := 47) (N := some 178) (v := undef) (a' := ?_) #[true, true, true, true, true, true, true, true, true, true, true, true, true, true, true, true, true, true, true, true, true, true, true, true, true, true, true, true, true, true, true, true, true, true, true, true, true, true, true, true, true, true, true, true, true, true, true, true, false, false] rfl rfl (any_of HT_.out (by kernel_rfl)) (fun _ _ _ h => h) (Or.inr ⟨by rfl, rfl⟩) ?_ ?_
                               rotate_left
                               ·
                                simp only [Act.put, List.setIfInBounds_toArray, List.set_cons_zero, List.set_cons_succ, i64_w, i32_w]
                                rfl
                               refine pure_ (i := 48) (N := some 179) (v := ?_) (a' := ?_) #[true, true, true, true, true, true, true, true, true, true, true, true, true, true, true, true, true, true, true, true, true, true, true, true, true, true, true, true, true, true, true, true, true, true, true, true, true, true, true, true, true, true, true, true, true, true, true, true, true, false] rfl rfl (any_of HT_.out (by kernel_rfl)) (fun _ _ _ h => h) (Or.inl ⟨by rfl, ?_⟩) ?_ ?_
                               rotate_left
                               ·
                                intro w'
                                go_simp
                                with_reducible rfl
                               rotate_left
                               ·
                                simp only [Act.put, List.setIfInBounds_toArray, List.set_cons_zero, List.set_cons_succ, i64_w, i32_w]
                                rfl
                               refine pure_ (i := 49) (N := some 180) (v := ?_) (a' := ?_) #[true, true, true, true, true, true, true, true, true, true, true, true, true, true, true, true, true, true, true, true, true, true, true, true, true, true, true, true, true, true, true, true, true, true, true, true, true, true, true, true, true, true, true, true, true, true, true, true, true, true] rfl rfl (any_of HT_.out (by kernel_rfl)) (fun _ _ _ h => h) (Or.inl ⟨by rfl, ?_⟩) ?_ ?_
                               rotate_left
                               ·
                                intro w'
                                go_simp
                                with_reducible rfl
                               rotate_left
                               ·
                                simp only [Act.put, List.setIfInBounds_toArray, List.set_cons_zero, List.set_cons_succ, i64_w, i32_w]
                                rfl
                               refine done_ (done_of HT_.out (by kernel_rfl)) ?_
                               have p251 : 0 ≤ (x15_4 : Int) := of_decide_eq_true (au4)
                               have q251 : x15_4 < (t233.length : Int) := of_decide_eq_true (au4)
                               obtain ⟨ad251, e251, hx251_0⟩ := Kd.at_int (Kd.R_readsN HO_12.out) x15_4 p251 q251
                               obtain rfl : ad241 = ad251 := (by injection e251)
                               replace p251 := eq_true p251
                               replace q251 := eq_true q251
                               have p90 : 0 ≤ ((rd t233 x15_4) : Int) := of_decide_eq_true (au4)
                               have q90 : ((rd t233 x15_4) : Int) < (40 : Int) := of_decide_eq_true (au4)
                               obtain ⟨hx90_0, hf90_0⟩ := Kd.R_celln false HO_14.out ((rd t233 x15_4) : Int) p90 q90
                               replace p90 := eq_true p90
                               replace q90 := eq_true q90
                               obtain ⟨hy94_, hz94_⟩ := Kd.R_celln false HO_14.out ((rd t233 x15_4) : Int) (of_decide_eq_true (au4)) (of_decide_eq_true (au4))
                               have HP94 := Kd.R_putg HO_14.out ((rd t233 x15_4) : Int) true
                               try go_wp2_with (first | ((with_reducible refine gate_store (t := 4) (p := 185) rfl ?_); refine store_event (t := 4) (p := 185) (v := ?vo_w95) (w1 := (w93.setCell ⟨goa63xy238, ((rd t233 x15_4) : Int).toNat, none⟩ (.bool true))) ?hg ?ho ?hn ?hr ?_; (case ho => rfl); (case hg => rfl); (case hn => rfl); (case hr => first | (go_simp; done) | (go_simp; rfl)); intro w95 hw; have hg : w93.grownBy w95 (some goa63xy238) := (by rw [hw]; exact HP94.2); have hp_ : Kd.R Kd.bool 63 w95 w.heap.size (fun _ => True) (.slice (some ⟨goa63xy238, 0, none⟩) 40 40) y252 := (by rw [hw, Ny252.out]; exact HP94.1); clear HP94; have n0_ := Aside0.mk (Kd.R_over' (v := (.slice (some ⟨goa63xy238, 0, none⟩) 40 40)) (au7) (Kd.R_typed HO_14.out) (by decide) hg); have n1_ := Aside0.mk (Kd.R_over' (v := (.slice (some ⟨goa63xy238, 0, none⟩) 40 40)) (au8) (Kd.R_typed HO_14.out) (by decide) hg); have n2_ := Aside0.mk (Kd.R_over' (v := (.slice (some ⟨goa63xy238, 0, none⟩) 40 40)) (au27) (Kd.R_typed HO_14.out) (by decide) hg); have n3_ := Aside0.mk (hp_); have n4_ := Aside0.mk (blk_grown (g := gb208) (o := .cells #[.slice A0_0 l0_0.length c0_0, .slice A0_1 l0_1.length c0_1, .slice A0_2 l0_2.length c0_2, .int .i64 a0_3] 25 (0, 0)) (au5) hg (Kd.R_ne HO_14.out BK208.out (by decide))); have n5_ := Aside0.mk ((by rw [hw]; exact below_set (HB.out) GBa63xy238.out : Below w.heap.size w w95)); clear HO_3; clear HO_5; clear HO_12; clear HO_14; clear BK208; clear HB; have HO_3 := n0_; have HO_5 := n1_; have HO_12 := n2_; have HO_14 := n3_; have BK208 := n4_; have HB := n5_; clear n0_ n1_ n2_ n3_ n4_ n5_; clear hg hw hp_))
                               go_roundg k4
                               case measure => have := HK1.out; have := HK2.out; have := HJ57.out; have := HK4.out; omega
                               case rel => exact ⟨(y252), (wrap64 (x15_4 + 1)), (au25), H', ⟨by have := HK1.out; have := HK2.out; have := HJ57.out; have := HK4.out; omega⟩, ⟨au7⟩, ⟨au8⟩, ⟨au27⟩, ⟨au24⟩, ⟨au5⟩, ⟨au1⟩⟩
                           ·
                            rw [if_neg c77] at H
                            exact absurd H (by simp)
                          ·
                           rw [if_neg c76] at H
                           exact absurd H (by simp)
                         ·
                          rw [if_neg c75] at H
                          exact absurd H (by simp)
                        ·
                         rw [if_neg c74] at H
                         exact absurd H (by simp)
                    ·
                     rw [if_neg c70] at H
                     exact absurd H (by simp)
                   ·
                    rw [if_neg c69] at H
                    have c69b0 : decide (x15_4 < (t233.length : Int)) = false := decide_eq_false c69
                    clear c69
                    replace H := Option.bind_eq_some_iff.mp H
                    obtain ⟨⟨t253, t256⟩, A960, H⟩ := H
                    replace H : (capstanlaw11_CallsOrder.l3 k4 t211 x5_1 x7_1 x11_2 x14_4 t253 0 l0_0 l0_1 l0_2 a0_3) = some r := H
                    have A96 := Aside0.mk A960
                    clear A960
                    as_aux_lemma =>
                     have H' := Aside0.mk H
                     clear H
                     obtain ⟨Ao97, co97, eo97⟩ := Kd.R_slice HO_12.out
                     subst eo97
                     obtain ⟨hcz98_0, hcz98_1, hcz98_2, hcz98_3, hfz98_0, hfz98_1, hfz98_2, hfz98_3⟩ := blk_all4 BK208.out
                     go_wp2_with (first | ((with_reducible refine gate_callee (f := 29) rfl ?_); refine goesL_ (some 189) rfl rfl Try.func29 (by kernel_rfl) rfl #[.agg #[.slice A0_0 l0_0.length c0_0, .slice A0_1 l0_1.length c0_1, .slice A0_2 l0_2.length c0_2, .int .i64 a0_3], .int .i64 x11_2] rfl (au9) ?_; (with_reducible refine (calls_Whom.calls _ _ l0_0 _ _ l0_1 _ _ l0_2 a0_3 x11_2 t253 t256 _ ?side1 ?side2 ?side3 ?side4 ?side5 ?side6 A96.out).mono ?_); (case side1 => exact au19); (case side2 => exact HC0_0.out); (case side3 => exact au20); (case side4 => exact HC0_1.out); (case side5 => exact au21); (case side6 => exact HC0_2.out); rintro e w99 ⟨v254, rfl, ho0, hb⟩; refine ⟨_, rfl, ?_⟩; have n0_ := Aside0.mk (Kd.R_elder' (au7) (Kd.R_base ho0) hb); have n1_ := Aside0.mk (Kd.R_elder' (au8) (Kd.R_base ho0) hb); have n2_ := Aside0.mk (Kd.R_elder' (au27) (Kd.R_base ho0) hb); have n3_ := Aside0.mk (Kd.R_below (au24) hb); have n4_ := Aside0.mk (Kd.R_lower (Kd.R_new' (Kd.R_new' (Kd.R_new' ho0 (Kd.R_lt (au7))) (Kd.R_lt (au8))) (Kd.R_lt (au27))) (below_size (au1))); have n5_ := Aside0.mk (blk_below (g := gb208) (o := .cells #[.slice A0_0 l0_0.length c0_0, .slice A0_1 l0_1.length c0_1, .slice A0_2 l0_2.length c0_2, .int .i64 a0_3] 25 (0, 0)) (au5) hb); have n6_ := Aside0.mk (below_step (au1) hb); clear HO_3; clear HO_5; clear HO_12; clear HO_14; clear BK208; clear HB; have HO_3 := n0_; have HO_5 := n1_; have HO_12 := n2_; have HO_14 := n3_; have HO255 := n4_; have BK208 := n5_; have HB := n6_; clear n0_ n1_ n2_ n3_ n4_ n5_ n6_; (try clear hb); (try clear hb2); (try clear hk); (try clear hi); (try clear ho0)))
                     go_loopg [18] k4 (fun kq v18 w' => ∃ (x18_5 : Int), v18 = .int .i64 x18_5 ∧ Aside0 (capstanlaw11_CallsOrder.l3 kq t211 x5_1 x7_1 x11_2 x14_4 t253 x18_5 l0_0 l0_1 l0_2 a0_3 = some r) ∧ Aside0 (kq ≤ k4) ∧ Aside0 (Kd.R (Kd.int .i64) 3 w' w.heap.size (fun k_ => some k_ ≠ ((.slice (some ⟨goa62xy215, 0, none⟩) 40 40) : Value).ownBlock ∧ some k_ ≠ (v254 : Value).ownBlock) (.slice Ao19 t211.length co19) t211) ∧ Aside0 (Kd.R (Kd.int .i64) 62 w' w.heap.size (fun k_ => some k_ ≠ ((.slice Ao19 t211.length co19) : Value).ownBlock ∧ some k_ ≠ (v254 : Value).ownBlock) (.slice (some ⟨goa62xy215, 0, none⟩) 40 40) x5_1) ∧ Aside0 (Kd.R Kd.bool 63 w' w.heap.size (fun _ => True) (.slice (some ⟨goa63xy238, 0, none⟩) 40 40) x14_4) ∧ Aside0 (Kd.R (Kd.int .i64) 3 w' w.heap.size (fun k_ => some k_ ≠ ((.slice Ao19 t211.length co19) : Value).ownBlock ∧ some k_ ≠ ((.slice (some ⟨goa62xy215, 0, none⟩) 40 40) : Value).ownBlock) v254 t253) ∧ Aside0 (w'.heap[gb208]? = some (.cells #[(.slice A0_0 l0_0.length c0_0), (.slice A0_1 l0_1.length c0_1), (.slice A0_2 l0_2.length c0_2), .int .i64 a0_3] 25 (0, 0))) ∧ Aside0 (Below w.heap.size w w'))
                     case atStart => exact ⟨(0), (au25), H', ⟨Nat.le_refl _⟩, ⟨by (with_reducible repeat (first | apply Kd.R_alloc | apply Kd.R_drewN | apply Kd.R_drew)); first | exact Kd.R_mono HO_3.out (fun _ hk => ⟨hk.1.1, hk.2⟩) | exact Kd.R_mono (Kd.R_mono HO_3.out (fun _ hk => ⟨hk.1.1, hk.2⟩)) (fun _ h_ => h_.2)⟩, ⟨by (with_reducible repeat (first | apply Kd.R_alloc | apply Kd.R_drewN | apply Kd.R_drew)); first | exact Kd.R_mono HO_5.out (fun _ hk => ⟨hk.1.1, hk.2⟩) | exact Kd.R_mono (Kd.R_mono HO_5.out (fun _ hk => ⟨hk.1.1, hk.2⟩)) (fun _ h_ => h_.2)⟩, ⟨au24⟩, ⟨by (with_reducible repeat (first | apply Kd.R_alloc | apply Kd.R_drewN | apply Kd.R_drew)); first | exact Kd.R_mono HO255.out (fun _ hk => ⟨hk.1.1.2, hk.1.2⟩) | exact Kd.R_mono (Kd.R_mono HO255.out (fun _ hk => ⟨hk.1.1.2, hk.1.2⟩)) (fun _ h_ => h_.2)⟩, ⟨au5⟩, ⟨au1⟩⟩
                     case round =>
                      clear H'
                      try clear c2
                      try clear p2
                      try clear q2
                      try clear hx2
                      try clear c6
                      try clear p6
                      try clear c7
                      try clear c8
                      try clear p8
                      try clear q8
                      try clear hx8
                      try clear hf8
                      try clear p9
                      try clear q9
                      try clear hx9
                      try clear hf9
                      try clear p24
                      try clear q24
                      try clear hx24
                      try clear p25
                      try clear q25
                      try clear hx25
                      try clear c29
                      try clear p64
                      try clear c69
                      try clear c69b0
                      try clear c70
                      try clear c74
                      try clear c75
                      try clear c76
                      try clear c77
                      try clear c79
                      try clear c79b0
                      try clear c81
                      try clear c82
                      try clear p84
                      try clear q84
                      try clear hx84
                      try clear hf84
                      try clear p90
                      try clear q90
                      try clear hx90
                      try clear hf90
                      try clear hcz98_0
                      try clear hcz98_1
                      try clear hcz98_2
                      try clear hcz98_3
                      try clear hfz98_0
                      try clear hfz98_1
                      try clear hfz98_2
                      try clear hfz98_3
                      try clear hx241_0
                      try clear hx242_0
                      try clear hx243_0
                      try clear hx244_0
                      try clear hx245_0
                      try clear hx246_0
                      try clear hx249_0
                      try clear hx251_0
                      try clear hx84_0
                      try clear hx90_0
                      try clear p241
                      try clear p242
                      try clear p243
                      try clear p244
                      try clear p245
                      try clear p246
                      try clear p249
                      try clear p251
                      try clear p84
                      try clear p90
                      try clear q241
                      try clear q242
                      try clear q243
                      try clear q244
                      try clear q245
                      try clear q246
                      try clear q249
                      try clear q251
                      try clear q84
                      try clear q90
                      obtain ⟨x18_5, rfl, HA, HK5, HO_3, HO_5, HO_14, HO_16, BK208, HB⟩ := hrel
                      cases gk with
                      | zero => exact absurd HA.out (by simp [capstanlaw11_CallsOrder.l3])
                      | succ k5 =>
                       have H := HA.out
                       clear HA
                       simp only [capstanlaw11_CallsOrder.l3] at H
                       by_cases c100 : x18_5 < (t253.length : Int)
                       ·
                        rw [if_pos c100] at H
                        have c100b0 : decide (x18_5 < (t253.length : Int)) = true := decide_eq_true c100
                        clear c100
                        by_cases c101 : 0 ≤ x18_5
                        ·
                         rw [if_pos c101] at H
                         have c101b0 : decide (0 ≤ x18_5) = true := decide_eq_true c101
                         clear c101
                         replace H := Option.bind_eq_some_iff.mp H
                         obtain ⟨⟨t258, t261⟩, A1020, H⟩ := H
                         replace H : (if (rd t253 x18_5) < 0 then (none) else (if (rd t253 x18_5) ≥ (t211.length : Int) then (none) else (if 0 ≤ (rd t253 x18_5) then (if (rd t253 x18_5) < 40 then (if (rdOf false x14_4 (rd t253 x18_5) = true) then (capstanlaw11_CallsOrder.j6 k5 t211 x5_1 x7_1 x11_2 x14_4 t253 x18_5 t258 (t261 != 0) l0_0 l0_1 l0_2 a0_3) else (none)) else (none)) else (none)))) = some r := H
                         have A102 := Aside0.mk A1020
                         clear A1020
                         have HC103 := Aside0.mk H
                         clear H
                         obtain ⟨Ao104, co104, eo104⟩ := Kd.R_slice HO_16.out
                         subst eo104
                         try go_wp2
                         (try (rw [drewN_self wr]; generalize hq_ : World.drewN wr _ = wr; have n0_ : Aside0 (Kd.R Kd.bool 63 wr w.heap.size (fun _ => True) (.slice (some ⟨goa63xy238, 0, none⟩) 40 40) x14_4) := ⟨by rw [← hq_]; exact (au24)⟩; have n1_ : Aside0 (Kd.R (Kd.int .i64) 3 wr w.heap.size (fun k_ => some k_ ≠ (.slice Ao19 t211.length co19 : Value).ownBlock ∧ some k_ ≠ (.slice (some ⟨goa62xy215, 0, none⟩) 40 40 : Value).ownBlock) (.slice Ao104 t253.length co104) t253) := ⟨by rw [← hq_]; exact (au46)⟩; have n2_ : Aside0 (Kd.R (Kd.int .i64) 3 wr w.heap.size (fun k_ => some k_ ≠ (.slice Ao104 t253.length co104 : Value).ownBlock ∧ some k_ ≠ (.slice (some ⟨goa62xy215, 0, none⟩) 40 40 : Value).ownBlock) (.slice Ao19 t211.length co19) t211) := ⟨au48⟩; have n3_ : Aside0 (Kd.R (Kd.int .i64) 62 wr w.heap.size (fun k_ => some k_ ≠ (.slice Ao104 t253.length co104 : Value).ownBlock ∧ some k_ ≠ (.slice Ao19 t211.length co19 : Value).ownBlock) (.slice (some ⟨goa62xy215, 0, none⟩) 40 40) x5_1) := ⟨au49⟩; have n4_ : Aside0 (wr.heap[gb208]? = some (.cells #[.slice A0_0 l0_0.length c0_0, .slice A0_1 l0_1.length c0_1, .slice A0_2 l0_2.length c0_2, .int .i64 a0_3] 25 (0, 0))) := ⟨by rw [← hq_]; exact (au5)⟩; have n5_ : Aside0 (Below w.heap.size w wr) := ⟨by rw [← hq_]; exact (au1)⟩; clear HO_14 HO_16 HO_3 HO_5 BK208 HB hq_; have HO_14 := n0_; have HO_16 := n1_; have HO_3 := n2_; have HO_5 := n3_; have BK208 := n4_; have HB := n5_; clear n0_ n1_ n2_ n3_ n4_ n5_))
                         (try obtain ⟨hcu105_0, hcu105_1, hcu105_2, hcu105_3, hfu105_0, hfu105_1, hfu105_2, hfu105_3⟩ := blk_all4 BK208.out)
                         have n0_ := Aside0.mk (Kd.R_drew HO_3.out)
                         have n1_ := Aside0.mk (Kd.R_drew HO_5.out)
                         have n2_ := Aside0.mk (Kd.R_drew HO_14.out)
                         have n3_ := Aside0.mk (Kd.R_drew HO_16.out)
                         have n4_ := Aside0.mk (blk_drew BK208.out)
                         have n5_ := Aside0.mk (below_drew1 HB.out)
                         clear HO_3
                         clear HO_5
                         clear HO_14
                         clear HO_16
                         clear BK208
                         clear HB
                         have HO_3 := n0_
                         have HO_5 := n1_
                         have HO_14 := n2_
                         have HO_16 := n3_
                         have BK208 := n4_
                         have HB := n5_
                         clear n0_ n1_ n2_ n3_ n4_ n5_
                         have p257 : 0 ≤ (x18_5 : Int) := of_decide_eq_true (au4)
                         have q257 : x18_5 < (t253.length : Int) := of_decide_eq_true (au4)
                         obtain ⟨ad257, e257, hx257_0⟩ := Kd.at_int (Kd.R_readsN HO_16.out) x18_5 p257 q257
                         cases e257
                         replace p257 := eq_true p257
                         replace q257 := eq_true q257
                         refine start_ (n := 11) (S := fun w' => w'.cell? ⟨gb208, 0, none⟩ = some (.slice A0_0 l0_0.length c0_0) ∧ w'.cell? ⟨gb208, 1, none⟩ = some (.slice A0_1 l0_1.length c0_1) ∧ w'.cell? ⟨gb208, 2, none⟩ = some (.slice A0_2 l0_2.length c0_2) ∧ w'.cell? ⟨gb208, 3, none⟩ = some (.int .i64 a0_3) ∧ w'.cell? (ad257.add (x18_5).toNat) = some (.int .i64 (rd t253 x18_5))) (ds := []) #[false, false, false, false, false, false, false, false, false, false, false] (by kernel_rfl) rfl rfl ⟨(blk_cell BK208.out 0).trans rfl, (blk_cell BK208.out 1).trans rfl, (blk_cell BK208.out 2).trans rfl, (blk_cell BK208.out 3).trans rfl, hx257_0⟩ (fun hHeld => ?_); refine with_tabW capstanlaw11_CallsOrder.tab41 capstanlaw11_CallsOrder.bits41 (fun HT_ HW_ => ?_)
                         generalize wr.drew = w106 at HO_3 HO_5 HO_14 HO_16 BK208 HB hx257_0 hHeld ⊢
                         refine pure_ (i := 1) (N := some 200) (v := ?_) (a' := ?_) #[false, true, false, false, false, false, false, false, false, false, false] rfl rfl (any_of HT_.out (by kernel_rfl)) (fun _ _ _ h => h) (Or.inl ⟨by rfl, ?_⟩) ?_ ?_
                         rotate_left
                         ·
                          intro w'
                          go_simp
                          with_reducible rfl
                         rotate_left
                         ·
                          simp only [Act.put, List.setIfInBounds_toArray, List.set_cons_zero, List.set_cons_succ, i64_w, i32_w]
                          rfl
                         refine pure_ (i := 2) (N := some 201) (v := ?_) (a' := ?_) #[false, true, true, false, false, false, false, false, false, false, false] rfl rfl (any_of HT_.out (by kernel_rfl)) (fun _ _ _ h => h) (Or.inl ⟨by rfl, ?_⟩) ?_ ?_
                         rotate_left
                         ·
                          intro w'
                          go_simp
                          with_reducible rfl
                         rotate_left
                         ·
                          simp only [Act.put, List.setIfInBounds_toArray, List.set_cons_zero, List.set_cons_succ, i64_w, i32_w]
                          rfl
                         refine pure_ (i := 3) (N := some 202) (v := ?_) (a' := ?_) #[false, true, true, true, false, false, false, false, false, false, false] rfl rfl (any_of HT_.out (by kernel_rfl)) (fun _ _ _ h => h) (Or.inl ⟨by rfl, ?_⟩) ?_ ?_
                         rotate_left
                         ·
                          intro w'
                          go_simp
                          with_reducible rfl
                         rotate_left
                         ·
                          simp only [Act.put, List.setIfInBounds_toArray, List.set_cons_zero, List.set_cons_succ, i64_w, i32_w]
                          rfl
                         refine take_ (i := 0) (N := some 199) (v := ?_) (a' := ?_) #[true, true, true, true, false, false, false, false, false, false, false] rfl rfl (take_ofW HT_.out HW_.out (by kernel_rfl)) (fun _ _ _ h => h) (Or.inl ⟨by rfl, ?_⟩) hHeld ?_ ?_
                         rotate_left
                         ·
                          rintro w' ⟨s0, s1, s2, s3, s4⟩
                          go_simp
                          with_reducible rfl
                         rotate_left
                         ·
                          simp only [Act.put, List.setIfInBounds_toArray, List.set_cons_zero, List.set_cons_succ, i64_w, i32_w]
                          rfl
                         refine take_ (i := 4) (N := some 203) (v := ?_) (a' := ?_) #[true, true, true, true, true, false, false, false, false, false, false] rfl rfl (take_ofW HT_.out HW_.out (by kernel_rfl)) (fun _ _ _ h => h) (Or.inl ⟨by rfl, ?_⟩) hHeld ?_ ?_
                         rotate_left
                         ·
                          rintro w' ⟨s0, s1, s2, s3, s4⟩
                          go_simp
                          with_reducible rfl
                         rotate_left
                         ·
                          simp only [Act.put, List.setIfInBounds_toArray, List.set_cons_zero, List.set_cons_succ, i64_w, i32_w]
                          rfl
                         refine one_ (i := 5) (N := some 204) #[true, true, true, true, true, true, false, false, false, false, false] rfl rfl (one_of HT_.out (by kernel_rfl)) (by decide) (fun K hK => ?_)
                         refine goes_ Try.func31 (by kernel_rfl) rfl #[.agg #[.slice A0_0 l0_0.length c0_0, .slice A0_1 l0_1.length c0_1, .slice A0_2 l0_2.length c0_2, .int .i64 a0_3], .int .i64 (rd t253 x18_5)] (by rfl) rfl rfl (au9) ?_
                         with_reducible refine (calls_Leads.calls k5 _ _ l0_0 _ _ l0_1 _ _ l0_2 a0_3 (rd t253 x18_5) t258 t261 _ ?side1 ?side2 ?side3 ?side4 ?side5 ?side6 A102.out).mono ?_
                         (case side1 => exact au19)
                         (case side2 => exact HC0_0.out)
                         (case side3 => exact au20)
                         (case side4 => exact HC0_1.out)
                         (case side5 => exact au21)
                         (case side6 => exact HC0_2.out)
                         rintro e w107 ⟨v259, rfl, ho0, hb⟩
                         have HS4_ := (hb.cell (World.block_lt_of_cell? _ _ (hHeld.2.2.2.2))).trans (hHeld.2.2.2.2)
                         refine ⟨_, rfl, ?_⟩
                         have n0_ := Aside0.mk (Kd.R_elder' (au7) (Kd.R_base ho0) hb)
                         have n1_ := Aside0.mk (Kd.R_elder' (au8) (Kd.R_base ho0) hb)
                         have n2_ := Aside0.mk (Kd.R_below (au24) hb)
                         have n3_ := Aside0.mk (Kd.R_elder' (au46) (Kd.R_base ho0) hb)
                         have n4_ := Aside0.mk (Kd.R_lower (Kd.R_new' (Kd.R_new' (Kd.R_new' ho0 (Kd.R_lt (au7))) (Kd.R_lt (au8))) (Kd.R_lt (au46))) (below_size (au1)))
                         have n5_ := Aside0.mk (blk_below (g := gb208) (o := .cells #[.slice A0_0 l0_0.length c0_0, .slice A0_1 l0_1.length c0_1, .slice A0_2 l0_2.length c0_2, .int .i64 a0_3] 25 (0, 0)) (au5) hb)
                         have n6_ := Aside0.mk (below_step (au1) hb)
                         clear HO_3
                         clear HO_5
                         clear HO_14
                         clear HO_16
                         clear BK208
                         clear HB
                         have HO_3 := n0_
                         have HO_5 := n1_
                         have HO_14 := n2_
                         have HO_16 := n3_
                         have HO260 := n4_
                         have BK208 := n5_
                         have HB := n6_
                         clear n0_ n1_ n2_ n3_ n4_ n5_ n6_
                         (try clear hb)
                         (try clear hb2)
                         (try clear hk)
                         (try clear hi)
                         (try clear ho0)
                         refine hK.out _ _ ⟨(blk_cell BK208.out 0).trans rfl, (blk_cell BK208.out 1).trans rfl, (blk_cell BK208.out 2).trans rfl, (blk_cell BK208.out 3).trans rfl, HS4_⟩ (fun hHeld => ?_)
                         clear hK K
                         refine norm_ (a' := ?_) ?_ ?_
                         rotate_left
                         ·
                          show Act.put _ (some 204) _ = _
                          simp only [Act.put, List.setIfInBounds_toArray, List.set_cons_zero, List.set_cons_succ, i64_w, i32_w]
                          rfl
                         refine pure_ (i := 6) (N := some 198) (v := ?_) (a' := ?_) #[true, true, true, true, true, true, true, false, false, false, false] rfl rfl (any_of HT_.out (by kernel_rfl)) (fun _ _ _ h => h) (Or.inl ⟨by rfl, ?_⟩) ?_ ?_
                         rotate_left
                         ·
                          intro w'
                          go_simp
                          with_reducible rfl
                         rotate_left
                         ·
                          simp only [Act.put, List.setIfInBounds_toArray, List.set_cons_zero, List.set_cons_succ, i64_w, i32_w]
                          rfl
                         refine pure_ (i := 7) (N := some 205) (v := ?_) (a' := ?_) #[true, true, true, true, true, true, true, true, false, false, false] rfl rfl (any_of HT_.out (by kernel_rfl)) (fun _ _ _ h => h) (Or.inl ⟨by rfl, ?_⟩) ?_ ?_
                         rotate_left
                         ·
                          intro w'
                          go_simp
                          with_reducible rfl
                         rotate_left
                         ·
                          simp only [Act.put, List.setIfInBounds_toArray, List.set_cons_zero, List.set_cons_succ, i64_w, i32_w]
                          rfl
                         refine pure_ (i := 8) (N := some 206) (v := ?_) (a' := ?_) #[true, true, true, true, true, true, true, true, true, false, false] rfl rfl (any_of HT_.out (by kernel_rfl)) (fun _ _ _ h => h) (Or.inl ⟨by rfl, ?_⟩) ?_ ?_
                         rotate_left
                         ·
                          intro w'
                          go_simp
                          with_reducible rfl
                         rotate_left
                         ·
                          simp only [Act.put, List.setIfInBounds_toArray, List.set_cons_zero, List.set_cons_succ, i64_w, i32_w]
                          rfl
                         refine pure_ (i := 9) (N := some 19) (v := ?_) (a' := ?_) #[true, true, true, true, true, true, true, true, true, true, false] rfl rfl (any_of HT_.out (by kernel_rfl)) (fun _ _ _ h => h) (Or.inl ⟨by rfl, ?_⟩) ?_ ?_
                         rotate_left
                         ·
                          intro w'
                          go_simp
                          with_reducible rfl
                         rotate_left
                         ·
                          simp only [Act.put, List.setIfInBounds_toArray, List.set_cons_zero, List.set_cons_succ, i64_w, i32_w]
                          rfl
                         refine pure_ (i := 10) (N := some 20) (v := ?_) (a' := ?_) #[true, true, true, true, true, true, true, true, true, true, true] rfl rfl (any_of HT_.out (by kernel_rfl)) (fun _ _ _ h => h) (Or.inl ⟨by rfl, ?_⟩) ?_ ?_
                         rotate_left
                         ·
                          intro w'
                          go_simp
                          with_reducible rfl
                         rotate_left
                         ·
                          simp only [Act.put, List.setIfInBounds_toArray, List.set_cons_zero, List.set_cons_succ, i64_w, i32_w]
                          rfl
                         refine done_ (done_of HT_.out (by kernel_rfl)) ?_
                         go_upto_region 42 with (fail)
                         go_cut [233] (fun v233 wc => ∃ (kq : Nat) (x233_102 : Bool), v233 = .bool x233_102 ∧ Aside0 (capstanlaw11_CallsOrder.j6 kq t211 x5_1 x7_1 x11_2 x14_4 t253 x18_5 t258 x233_102 l0_0 l0_1 l0_2 a0_3 = some r) ∧ Aside0 (kq ≤ k5) ∧ Aside0 (Kd.R (Kd.int .i64) 3 wc w.heap.size (fun k_ => some k_ ≠ ((.slice (some ⟨goa62xy215, 0, none⟩) 40 40) : Value).ownBlock ∧ some k_ ≠ ((.slice (some ad257) t253.length co104) : Value).ownBlock ∧ some k_ ≠ (v259 : Value).ownBlock) (.slice Ao19 t211.length co19) t211) ∧ Aside0 (Kd.R (Kd.int .i64) 62 wc w.heap.size (fun k_ => some k_ ≠ ((.slice Ao19 t211.length co19) : Value).ownBlock ∧ some k_ ≠ ((.slice (some ad257) t253.length co104) : Value).ownBlock ∧ some k_ ≠ (v259 : Value).ownBlock) (.slice (some ⟨goa62xy215, 0, none⟩) 40 40) x5_1) ∧ Aside0 (Kd.R Kd.bool 63 wc w.heap.size (fun _ => True) (.slice (some ⟨goa63xy238, 0, none⟩) 40 40) x14_4) ∧ Aside0 (Kd.R (Kd.int .i64) 3 wc w.heap.size (fun k_ => some k_ ≠ ((.slice Ao19 t211.length co19) : Value).ownBlock ∧ some k_ ≠ ((.slice (some ⟨goa62xy215, 0, none⟩) 40 40) : Value).ownBlock ∧ some k_ ≠ (v259 : Value).ownBlock) (.slice (some ad257) t253.length co104) t253) ∧ Aside0 (Kd.R (Kd.int .i64) 3 wc w.heap.size (fun k_ => some k_ ≠ ((.slice Ao19 t211.length co19) : Value).ownBlock ∧ some k_ ≠ ((.slice (some ⟨goa62xy215, 0, none⟩) 40 40) : Value).ownBlock ∧ some k_ ≠ ((.slice (some ad257) t253.length co104) : Value).ownBlock) v259 t258) ∧ Aside0 (wc.heap[gb208]? = some (.cells #[(.slice A0_0 l0_0.length c0_0), (.slice A0_1 l0_1.length c0_1), (.slice A0_2 l0_2.length c0_2), .int .i64 a0_3] 25 (0, 0))) ∧ Aside0 (Below w.heap.size w wc))
                         case first =>
                          have H := HC103.out
                          clear HC103
                          by_cases c108 : (rd t253 x18_5) < 0
                          ·
                           rw [if_pos c108] at H
                           exact absurd H (by simp)
                          ·
                           rw [if_neg c108] at H
                           have c108b0 : decide ((rd t253 x18_5) < 0) = false := decide_eq_false c108
                           clear c108
                           (first | rw [c108b0] | (simp only [i64_w, i32_w]; rw [c108b0]) | skip)
                           by_cases c109 : (rd t253 x18_5) ≥ (t211.length : Int)
                           ·
                            rw [if_pos c109] at H
                            exact absurd H (by simp)
                           ·
                            rw [if_neg c109] at H
                            have c109b0 : decide ((t211.length : Int) ≤ (rd t253 x18_5)) = false := decide_eq_false c109
                            clear c109
                            by_cases c110 : 0 ≤ (rd t253 x18_5)
                            ·
                             rw [if_pos c110] at H
                             have c110b0 : decide (0 ≤ (rd t253 x18_5)) = true := decide_eq_true c110
                             clear c110
                             by_cases c111 : (rd t253 x18_5) < 40
                             ·
                              rw [if_pos c111] at H
                              have c111b0 : decide ((rd t253 x18_5) < 40) = true := decide_eq_true c111
                              clear c111
                              obtain ⟨bq112, hbq112⟩ : ∃ b_ : Bool, b_ = (rdOf false x14_4 (rd t253 x18_5)) := ⟨_, rfl⟩
                              replace H : (if (bq112 = true) then (capstanlaw11_CallsOrder.j6 k5 t211 x5_1 x7_1 x11_2 x14_4 t253 x18_5 t258 (t261 != 0) l0_0 l0_1 l0_2 a0_3) else (none)) = some r := by rw [← hbq112] at H; exact H
                              have Nbq112 := Aside0.mk hbq112
                              clear hbq112
                              by_cases c113 : (bq112 = true)
                              ·
                               subst c113
                               have H1 : (capstanlaw11_CallsOrder.j6 k5 t211 x5_1 x7_1 x11_2 x14_4 t253 x18_5 t258 (t261 != 0) l0_0 l0_1 l0_2 a0_3) = some r := by rw [if_pos rfl] at H; exact H
                               clear H
                               have H := H1
                               clear H1
                               as_aux_lemma =>
                                have H' := Aside0.mk H
                                clear H
                                have p262 : 0 ≤ (x18_5 : Int) := of_decide_eq_true (au4)
                                have q262 : x18_5 < (t253.length : Int) := of_decide_eq_true (au4)
                                obtain ⟨ad262, e262, hx262_0⟩ := Kd.at_int (Kd.R_readsN HO_16.out) x18_5 p262 q262
                                obtain rfl : ad257 = ad262 := (by injection e262)
                                replace p262 := eq_true p262
                                replace q262 := eq_true q262
                                have p263 : 0 ≤ (x18_5 : Int) := of_decide_eq_true (au4)
                                have q263 : x18_5 < (t253.length : Int) := of_decide_eq_true (au4)
                                obtain ⟨ad263, e263, hx263_0⟩ := Kd.at_int (Kd.R_readsN HO_16.out) x18_5 p263 q263
                                obtain rfl : ad257 = ad263 := (by injection e263)
                                replace p263 := eq_true p263
                                replace q263 := eq_true q263
                                have p264 : 0 ≤ (x18_5 : Int) := of_decide_eq_true (au4)
                                have q264 : x18_5 < (t253.length : Int) := of_decide_eq_true (au4)
                                obtain ⟨ad264, e264, hx264_0⟩ := Kd.at_int (Kd.R_readsN HO_16.out) x18_5 p264 q264
                                obtain rfl : ad257 = ad264 := (by injection e264)
                                replace p264 := eq_true p264
                                replace q264 := eq_true q264
                                have p265 : 0 ≤ ((rd t253 x18_5) : Int) := of_decide_eq_true (au4)
                                have q265 : (rd t253 x18_5) < (40 : Int) := of_decide_eq_true (au4)
                                obtain ⟨ad265, e265, hx265_0⟩ := Kd.at_bool (Kd.R_readsN HO_14.out) (rd t253 x18_5) p265 q265
                                (try rw [← Nbq112.out] at hx265_0)
                                obtain rfl : (⟨goa63xy238, 0, none⟩ : Addr) = ad265 := (by injection e265)
                                (first | simp only [add_plain] at hx265_0 | simp only [add_at] at hx265_0 | simp only [Addr.add, Nat.zero_add] at hx265_0 | skip)
                                replace p265 := eq_true p265
                                replace q265 := eq_true q265
                                go_wp2
                                go_meet
                                case rel => exact ⟨_, ((t261 != 0)), (au25), H', ⟨by have := HK1.out; have := HK2.out; have := HJ57.out; have := HK4.out; have := HK5.out; first | omega | exact Nat.le_refl _⟩, ⟨by (with_reducible repeat (first | apply Kd.R_alloc | apply Kd.R_drewN | apply Kd.R_drew)); first | exact Kd.R_mono HO_3.out (fun _ hk => ⟨hk.1.1, ⟨hk.1.2, hk.2⟩⟩) | exact Kd.R_mono (Kd.R_mono HO_3.out (fun _ hk => ⟨hk.1.1, ⟨hk.1.2, hk.2⟩⟩)) (fun _ h_ => h_.2)⟩, ⟨by (with_reducible repeat (first | apply Kd.R_alloc | apply Kd.R_drewN | apply Kd.R_drew)); first | exact Kd.R_mono HO_5.out (fun _ hk => ⟨hk.1.1, ⟨hk.1.2, hk.2⟩⟩) | exact Kd.R_mono (Kd.R_mono HO_5.out (fun _ hk => ⟨hk.1.1, ⟨hk.1.2, hk.2⟩⟩)) (fun _ h_ => h_.2)⟩, ⟨au24⟩, ⟨by (with_reducible repeat (first | apply Kd.R_alloc | apply Kd.R_drewN | apply Kd.R_drew)); first | exact Kd.R_mono HO_16.out (fun _ hk => ⟨hk.1.1, ⟨hk.1.2, hk.2⟩⟩) | exact Kd.R_mono (Kd.R_mono HO_16.out (fun _ hk => ⟨hk.1.1, ⟨hk.1.2, hk.2⟩⟩)) (fun _ h_ => h_.2)⟩, ⟨by (with_reducible repeat (first | apply Kd.R_alloc | apply Kd.R_drewN | apply Kd.R_drew)); first | exact Kd.R_mono HO260.out (fun _ hk => ⟨hk.1.1.2, ⟨hk.1.2, hk.2⟩⟩) | exact Kd.R_mono (Kd.R_mono HO260.out (fun _ hk => ⟨hk.1.1.2, ⟨hk.1.2, hk.2⟩⟩)) (fun _ h_ => h_.2)⟩, ⟨au5⟩, ⟨au1⟩⟩
                              ·
                               replace c113 := Bool.eq_false_iff.mpr c113
                               subst c113
                               have H1 : (none) = some r := by rw [if_neg (show ¬ (false = true) by decide)] at H; exact H
                               clear H
                               have H := H1
                               clear H1
                               exact absurd H (by simp)
                             ·
                              rw [if_neg c111] at H
                              exact absurd H (by simp)
                            ·
                             rw [if_neg c110] at H
                             exact absurd H (by simp)
                         case rest =>
                          clear HC103
                          try clear c1
                          try clear q1
                          try clear c2
                          try clear p2
                          try clear q2
                          try clear hx2
                          try clear c3
                          try clear c6
                          try clear p6
                          try clear c7
                          try clear c8
                          try clear p8
                          try clear q8
                          try clear hx8
                          try clear hf8
                          try clear p9
                          try clear q9
                          try clear hx9
                          try clear hf9
                          try clear c10
                          try clear c11
                          try clear q11
                          try clear p24
                          try clear q24
                          try clear hx24
                          try clear p25
                          try clear q25
                          try clear hx25
                          try clear p26
                          try clear q26
                          try clear hx26
                          try clear c29
                          try clear c31
                          try clear p64
                          try clear c69
                          try clear c69b0
                          try clear c70
                          try clear c74
                          try clear c75
                          try clear c76
                          try clear c77
                          try clear c79
                          try clear c79b0
                          try clear c81
                          try clear c82
                          try clear p84
                          try clear q84
                          try clear hx84
                          try clear hf84
                          try clear p90
                          try clear q90
                          try clear hx90
                          try clear hf90
                          try clear c100
                          try clear c100b0
                          try clear c101
                          try clear c101b0
                          try clear c108
                          try clear c108b0
                          try clear c109
                          try clear c109b0
                          try clear c110
                          try clear c110b0
                          try clear c111
                          try clear c111b0
                          try clear q112
                          try clear c113
                          try clear hcz98_0
                          try clear hcz98_1
                          try clear hcz98_2
                          try clear hcz98_3
                          try clear hfz98_0
                          try clear hfz98_1
                          try clear hfz98_2
                          try clear hfz98_3
                          try clear hx241_0
                          try clear hx242_0
                          try clear hx243_0
                          try clear hx244_0
                          try clear hx245_0
                          try clear hx246_0
                          try clear hx249_0
                          try clear hx251_0
                          try clear hx257_0
                          try clear hx262_0
                          try clear hx263_0
                          try clear hx264_0
                          try clear hx265_0
                          try clear hx84_0
                          try clear hx90_0
                          try clear p2
                          try clear p24
                          try clear p241
                          try clear p242
                          try clear p243
                          try clear p244
                          try clear p245
                          try clear p246
                          try clear p249
                          try clear p25
                          try clear p251
                          try clear p257
                          try clear p262
                          try clear p263
                          try clear p264
                          try clear p265
                          try clear p6
                          try clear p64
                          try clear p8
                          try clear p84
                          try clear p9
                          try clear p90
                          try clear q2
                          try clear q24
                          try clear q241
                          try clear q242
                          try clear q243
                          try clear q244
                          try clear q245
                          try clear q246
                          try clear q249
                          try clear q25
                          try clear q251
                          try clear q257
                          try clear q262
                          try clear q263
                          try clear q264
                          try clear q265
                          try clear q8
                          try clear q84
                          try clear q9
                          try clear q90
                          obtain ⟨kq, x233_102, rfl, HA, HJ102, HO_3, HO_5, HO_14, HO_16, HO_19, BK208, HB⟩ := hcut
                          cases kq with
                          | zero => exact absurd HA.out (by simp [capstanlaw11_CallsOrder.j6])
                          | succ kj102 =>
                           have H := HA.out
                           clear HA
                           simp only [capstanlaw11_CallsOrder.j6] at H
                           by_cases c114 : x233_102 = true
                           ·
                            subst c114
                            have H1 : (none) = some r := by rw [if_pos rfl] at H; exact H
                            clear H
                            have H := H1
                            clear H1
                            exact absurd H (by simp)
                           ·
                            replace c114 := Bool.eq_false_iff.mpr c114
                            subst c114
                            have H1 : (capstanlaw11_CallsOrder.l4 kj102 t211 x5_1 x7_1 x11_2 x14_4 t253 x18_5 t258 0 l0_0 l0_1 l0_2 a0_3) = some r := by rw [if_neg (show ¬ (false = true) by decide)] at H; exact H
                            clear H
                            have H := H1
                            clear H1
                            as_aux_lemma =>
                             have H' := Aside0.mk H
                             clear H
                             go_wp2
                             go_loopg [21] kj102 (fun kq v21 w' => ∃ (x21_7 : Int), v21 = .int .i64 x21_7 ∧ Aside0 (capstanlaw11_CallsOrder.l4 kq t211 x5_1 x7_1 x11_2 x14_4 t253 x18_5 t258 x21_7 l0_0 l0_1 l0_2 a0_3 = some r) ∧ Aside0 (kq ≤ kj102) ∧ Aside0 (Kd.R (Kd.int .i64) 3 w' w.heap.size (fun k_ => some k_ ≠ ((.slice (some ⟨goa62xy215, 0, none⟩) 40 40) : Value).ownBlock ∧ some k_ ≠ ((.slice (some ad257) t253.length co104) : Value).ownBlock ∧ some k_ ≠ (v259 : Value).ownBlock) (.slice Ao19 t211.length co19) t211) ∧ Aside0 (Kd.R (Kd.int .i64) 62 w' w.heap.size (fun k_ => some k_ ≠ ((.slice Ao19 t211.length co19) : Value).ownBlock ∧ some k_ ≠ ((.slice (some ad257) t253.length co104) : Value).ownBlock ∧ some k_ ≠ (v259 : Value).ownBlock) (.slice (some ⟨goa62xy215, 0, none⟩) 40 40) x5_1) ∧ Aside0 (Kd.R Kd.bool 63 w' w.heap.size (fun _ => True) (.slice (some ⟨goa63xy238, 0, none⟩) 40 40) x14_4) ∧ Aside0 (Kd.R (Kd.int .i64) 3 w' w.heap.size (fun k_ => some k_ ≠ ((.slice Ao19 t211.length co19) : Value).ownBlock ∧ some k_ ≠ ((.slice (some ⟨goa62xy215, 0, none⟩) 40 40) : Value).ownBlock ∧ some k_ ≠ (v259 : Value).ownBlock) (.slice (some ad257) t253.length co104) t253) ∧ Aside0 (Kd.R (Kd.int .i64) 3 w' w.heap.size (fun k_ => some k_ ≠ ((.slice Ao19 t211.length co19) : Value).ownBlock ∧ some k_ ≠ ((.slice (some ⟨goa62xy215, 0, none⟩) 40 40) : Value).ownBlock ∧ some k_ ≠ ((.slice (some ad257) t253.length co104) : Value).ownBlock) v259 t258) ∧ Aside0 (w'.heap[gb208]? = some (.cells #[(.slice A0_0 l0_0.length c0_0), (.slice A0_1 l0_1.length c0_1), (.slice A0_2 l0_2.length c0_2), .int .i64 a0_3] 25 (0, 0))) ∧ Aside0 (Below w.heap.size w w'))
                             case atStart => exact ⟨(0), (au25), H', ⟨Nat.le_refl _⟩, ⟨au7⟩, ⟨au8⟩, ⟨au24⟩, ⟨au46⟩, ⟨by (with_reducible repeat (first | apply Kd.R_alloc | apply Kd.R_drewN | apply Kd.R_drew)); first | exact HO_19.out | exact Kd.R_mono (HO_19.out) (fun _ h_ => h_.2)⟩, ⟨au5⟩, ⟨au1⟩⟩
                             case round =>
                              clear H'
                              try clear c1
                              try clear q1
                              try clear c2
                              try clear p2
                              try clear q2
                              try clear hx2
                              try clear c3
                              try clear c6
                              try clear p6
                              try clear c7
                              try clear c8
                              try clear p8
                              try clear q8
                              try clear hx8
                              try clear hf8
                              try clear p9
                              try clear q9
                              try clear hx9
                              try clear hf9
                              try clear c10
                              try clear c11
                              try clear q11
                              try clear p24
                              try clear q24
                              try clear hx24
                              try clear p25
                              try clear q25
                              try clear hx25
                              try clear p26
                              try clear q26
                              try clear hx26
                              try clear c29
                              try clear c31
                              try clear p64
                              try clear c69
                              try clear c69b0
                              try clear c70
                              try clear c74
                              try clear c75
                              try clear c76
                              try clear c77
                              try clear c79
                              try clear c79b0
                              try clear c81
                              try clear c82
                              try clear p84
                              try clear q84
                              try clear hx84
                              try clear hf84
                              try clear p90
                              try clear q90
                              try clear hx90
                              try clear hf90
                              try clear c100
                              try clear c100b0
                              try clear c101
                              try clear c101b0
                              try clear c108
                              try clear c108b0
                              try clear c109
                              try clear c109b0
                              try clear c110
                              try clear c110b0
                              try clear c111
                              try clear c111b0
                              try clear q112
                              try clear c113
                              try clear c114
                              try clear hcz98_0
                              try clear hcz98_1
                              try clear hcz98_2
                              try clear hcz98_3
                              try clear hfz98_0
                              try clear hfz98_1
                              try clear hfz98_2
                              try clear hfz98_3
                              try clear hx241_0
                              try clear hx242_0
                              try clear hx243_0
                              try clear hx244_0
                              try clear hx245_0
                              try clear hx246_0
                              try clear hx249_0
                              try clear hx251_0
                              try clear hx257_0
                              try clear hx262_0
                              try clear hx263_0
                              try clear hx264_0
                              try clear hx265_0
                              try clear hx84_0
                              try clear hx90_0
                              try clear p2
                              try clear p24
                              try clear p241
                              try clear p242
                              try clear p243
                              try clear p244
                              try clear p245
                              try clear p246
                              try clear p249
                              try clear p25
                              try clear p251
                              try clear p257
                              try clear p26
                              try clear p262
                              try clear p263
                              try clear p264
                              try clear p265
                              try clear p6
                              try clear p64
                              try clear p8
                              try clear p84
                              try clear p9
                              try clear p90
                              try clear q1
                              try clear q11
                              try clear q112
                              try clear q2
                              try clear q24
                              try clear q241
                              try clear q242
                              try clear q243
                              try clear q244
                              try clear q245
                              try clear q246
                              try clear q249
                              try clear q25
                              try clear q251
                              try clear q257
                              try clear q26
                              try clear q262
                              try clear q263
                              try clear q264
                              try clear q265
                              try clear q8
                              try clear q84
                              try clear q9
                              try clear q90
                              obtain ⟨x21_7, rfl, HA, HK7, HO_3, HO_5, HO_14, HO_16, HO_19, BK208, HB⟩ := hrel
                              cases gk with
                              | zero => exact absurd HA.out (by simp [capstanlaw11_CallsOrder.l4])
                              | succ k7 =>
                               have H := HA.out
                               clear HA
                               simp only [capstanlaw11_CallsOrder.l4] at H
                               by_cases c115 : x21_7 < (t258.length : Int)
                               ·
                                rw [if_pos c115] at H
                                have c115b0 : decide (x21_7 < (t258.length : Int)) = true := decide_eq_true c115
                                clear c115
                                by_cases c116 : 0 ≤ x21_7
                                ·
                                 rw [if_pos c116] at H
                                 have c116b0 : decide (0 ≤ x21_7) = true := decide_eq_true c116
                                 clear c116
                                 by_cases c117 : (rd t258 x21_7) < 0
                                 ·
                                  rw [if_pos c117] at H
                                  exact absurd H (by simp)
                                 ·
                                  rw [if_neg c117] at H
                                  have c117b0 : decide ((rd t258 x21_7) < 0) = false := decide_eq_false c117
                                  clear c117
                                  by_cases c118 : (rd t258 x21_7) ≥ (t211.length : Int)
                                  ·
                                   rw [if_pos c118] at H
                                   exact absurd H (by simp)
                                  ·
                                   rw [if_neg c118] at H
                                   have c118b0 : decide ((t211.length : Int) ≤ (rd t258 x21_7)) = false := decide_eq_false c118
                                   clear c118
                                   by_cases c119 : 0 ≤ (rd t258 x21_7)
                                   ·
                                    rw [if_pos c119] at H
                                    have c119b0 : decide (0 ≤ (rd t258 x21_7)) = true := decide_eq_true c119
                                    clear c119
                                    by_cases c120 : (rd t258 x21_7) < 40
                                    ·
                                     rw [if_pos c120] at H
                                     have c120b0 : decide ((rd t258 x21_7) < 40) = true := decide_eq_true c120
                                     clear c120
                                     obtain ⟨bq121, hbq121⟩ : ∃ b_ : Bool, b_ = (rdOf false x14_4 (rd t258 x21_7)) := ⟨_, rfl⟩
                                     replace H : (if (bq121 = true) then (capstanlaw11_CallsOrder.l4 k7 t211 x5_1 x7_1 x11_2 x14_4 t253 x18_5 t258 (wrap64 (x21_7 + 1)) l0_0 l0_1 l0_2 a0_3) else (none)) = some r := by rw [← hbq121] at H; exact H
                                     have Nbq121 := Aside0.mk hbq121
                                     clear hbq121
                                     by_cases c122 : (bq121 = true)
                                     ·
                                      subst c122
                                      have H1 : (capstanlaw11_CallsOrder.l4 k7 t211 x5_1 x7_1 x11_2 x14_4 t253 x18_5 t258 (wrap64 (x21_7 + 1)) l0_0 l0_1 l0_2 a0_3) = some r := by rw [if_pos rfl] at H; exact H
                                      clear H
                                      have H := H1
                                      clear H1
                                      as_aux_lemma =>
                                       have H' := Aside0.mk H
                                       clear H
                                       obtain ⟨Ao123, co123, eo123⟩ := Kd.R_slice HO_19.out
                                       subst eo123
                                       have p266 : 0 ≤ (x21_7 : Int) := of_decide_eq_true (au4)
                                       have q266 : x21_7 < (t258.length : Int) := of_decide_eq_true (au4)
                                       obtain ⟨ad266, e266, hx266_0⟩ := Kd.at_int (Kd.R_readsN HO_19.out) x21_7 p266 q266
                                       cases e266
                                       replace p266 := eq_true p266
                                       replace q266 := eq_true q266
                                       have p267 : 0 ≤ (x21_7 : Int) := of_decide_eq_true (au4)
                                       have q267 : x21_7 < (t258.length : Int) := of_decide_eq_true (au4)
                                       obtain ⟨ad267, e267, hx267_0⟩ := Kd.at_int (Kd.R_readsN HO_19.out) x21_7 p267 q267
                                       obtain rfl : ad266 = ad267 := (by injection e267)
                                       replace p267 := eq_true p267
                                       replace q267 := eq_true q267
                                       have p268 : 0 ≤ (x21_7 : Int) := of_decide_eq_true (au4)
                                       have q268 : x21_7 < (t258.length : Int) := of_decide_eq_true (au4)
                                       obtain ⟨ad268, e268, hx268_0⟩ := Kd.at_int (Kd.R_readsN HO_19.out) x21_7 p268 q268
                                       obtain rfl : ad266 = ad268 := (by injection e268)
                                       replace p268 := eq_true p268
                                       replace q268 := eq_true q268
                                       have p269 : 0 ≤ ((rd t258 x21_7) : Int) := of_decide_eq_true (au4)
                                       have q269 : (rd t258 x21_7) < (40 : Int) := of_decide_eq_true (au4)
                                       obtain ⟨ad269, e269, hx269_0⟩ := Kd.at_bool (Kd.R_readsN HO_14.out) (rd t258 x21_7) p269 q269
                                       (try rw [← Nbq121.out] at hx269_0)
                                       obtain rfl : (⟨goa63xy238, 0, none⟩ : Addr) = ad269 := (by injection e269)
                                       (first | simp only [add_plain] at hx269_0 | simp only [add_at] at hx269_0 | simp only [Addr.add, Nat.zero_add] at hx269_0 | skip)
                                       replace p269 := eq_true p269
                                       replace q269 := eq_true q269
                                       go_wp2
                                       go_roundg k7
                                       case measure => have := HK1.out; have := HK2.out; have := HJ57.out; have := HK4.out; have := HK5.out; have := HJ102.out; have := HK7.out; omega
                                       case rel => exact ⟨(wrap64 (x21_7 + 1)), (au25), H', ⟨by have := HK1.out; have := HK2.out; have := HJ57.out; have := HK4.out; have := HK5.out; have := HJ102.out; have := HK7.out; omega⟩, ⟨au7⟩, ⟨au8⟩, ⟨au24⟩, ⟨au46⟩, ⟨by (with_reducible repeat (first | apply Kd.R_alloc | apply Kd.R_drewN | apply Kd.R_drew)); first | exact HO_19.out | exact Kd.R_mono (HO_19.out) (fun _ h_ => h_.2)⟩, ⟨au5⟩, ⟨au1⟩⟩
                                     ·
                                      replace c122 := Bool.eq_false_iff.mpr c122
                                      subst c122
                                      have H1 : (none) = some r := by rw [if_neg (show ¬ (false = true) by decide)] at H; exact H
                                      clear H
                                      have H := H1
                                      clear H1
                                      exact absurd H (by simp)
                                    ·
                                     rw [if_neg c120] at H
                                     exact absurd H (by simp)
                                   ·
                                    rw [if_neg c119] at H
                                    exact absurd H (by simp)
                                ·
                                 rw [if_neg c116] at H
                                 exact absurd H (by simp)
                               ·
                                rw [if_neg c115] at H
                                have c115b0 : decide (x21_7 < (t258.length : Int)) = false := decide_eq_false c115
                                clear c115
                                as_aux_lemma =>
                                 have H' := Aside0.mk H
                                 clear H
                                 obtain ⟨Ao124, co124, eo124⟩ := Kd.R_slice HO_19.out
                                 subst eo124
                                 go_wp2
                                 go_roundg k7
                                 case measure => have := HK1.out; have := HK2.out; have := HJ57.out; have := HK4.out; have := HK5.out; have := HJ102.out; have := HK7.out; omega
                                 case rel => exact ⟨(wrap64 (x18_5 + 1)), (au25), H', ⟨by have := HK1.out; have := HK2.out; have := HJ57.out; have := HK4.out; have := HK5.out; have := HJ102.out; have := HK7.out; omega⟩, ⟨by (with_reducible repeat (first | apply Kd.R_alloc | apply Kd.R_drewN | apply Kd.R_drew)); first | exact Kd.R_mono HO_3.out (fun _ hk => ⟨hk.1, hk.2.1⟩) | exact Kd.R_mono (Kd.R_mono HO_3.out (fun _ hk => ⟨hk.1, hk.2.1⟩)) (fun _ h_ => h_.2)⟩, ⟨by (with_reducible repeat (first | apply Kd.R_alloc | apply Kd.R_drewN | apply Kd.R_drew)); first | exact Kd.R_mono HO_5.out (fun _ hk => ⟨hk.1, hk.2.1⟩) | exact Kd.R_mono (Kd.R_mono HO_5.out (fun _ hk => ⟨hk.1, hk.2.1⟩)) (fun _ h_ => h_.2)⟩, ⟨au24⟩, ⟨by (with_reducible repeat (first | apply Kd.R_alloc | apply Kd.R_drewN | apply Kd.R_drew)); first | exact Kd.R_mono HO_16.out (fun _ hk => ⟨hk.1, hk.2.1⟩) | exact Kd.R_mono (Kd.R_mono HO_16.out (fun _ hk => ⟨hk.1, hk.2.1⟩)) (fun _ h_ => h_.2)⟩, ⟨au5⟩, ⟨au1⟩⟩
                        ·
                         rw [if_neg c101] at H
                         exact absurd H (by simp)
                       ·
                        rw [if_neg c100] at H
                        have c100b0 : decide (x18_5 < (t253.length : Int)) = false := decide_eq_false c100
                        clear c100
                        as_aux_lemma =>
                         have H' := Aside0.mk H
                         clear H
                         obtain ⟨Ao125, co125, eo125⟩ := Kd.R_slice HO_16.out
                         subst eo125
                         go_wp2
                         go_roundg k5
                         case measure => have := HK1.out; have := HK2.out; have := HJ57.out; have := HK4.out; have := HK5.out; omega
                         case rel => exact ⟨(wrap64 (x11_2 + 1)), (au25), H', ⟨by have := HK1.out; have := HK2.out; have := HJ57.out; have := HK4.out; have := HK5.out; omega⟩, ⟨by (with_reducible repeat (first | apply Kd.R_alloc | apply Kd.R_drewN | apply Kd.R_drew)); first | exact Kd.R_mono HO_3.out (fun _ hk => hk.1) | exact Kd.R_mono (Kd.R_mono HO_3.out (fun _ hk => hk.1)) (fun _ h_ => h_.2)⟩, ⟨au54⟩, ⟨au5⟩, ⟨au1⟩⟩
            ·
             rw [if_neg c56] at H
             have c56b0 : decide (x11_2 < (t211.length : Int)) = false := decide_eq_false c56
             clear c56
             obtain rfl := Option.some.inj H
             go_wp2
             go_ret
             exact ⟨au30, au1⟩
    ·
     rw [if_neg c12] at H
     exact absurd H (by simp)
   ·
    rw [if_neg c11] at H
    have c11b0 : (t214 == 0) = false := beq_eq_false_iff_ne.mpr c11
    have c11b1 : (t214 != 0) = true := bne_iff_ne.mpr c11
    obtain rfl := Option.some.inj H
    go_enter Try.func6, Try.ntmps6
    go_wp2_with (first | ((with_reducible refine gate_dst (N := 1) rfl ?_); (try (refine gate_guard (by rfl) ?_; dsimp only)); refine box_event ?hg (N := 1) ?hd (cs := #[.slice A0_0 l0_0.length c0_0, .slice A0_1 l0_1.length c0_1, .slice A0_2 l0_2.length c0_2, .int .i64 a0_3]) (t := 25) ?hr ?_; (case hd => rfl); (case hg => rfl); (case hr => first | (go_simp; done) | (go_simp; rfl)); intro gb208 hg w126 hbox hb; have n0_ := Aside0.mk (below_step (au2) hb); have n1_ := Aside0.mk (hbox); have n2_ := Aside0.mk ((au47 : w.heap.size ≤ gb208)); have n3_ := Aside0.mk ((au47 : w.heap.size ≤ gb208)); clear HB; have HB := n0_; have BK208 := n1_; have GW208 := n2_; have GE208 := n3_; clear n0_ n1_ n2_ n3_; clear hb hbox hg) | ((with_reducible refine gate_callee (f := 36) rfl ?_); refine goesL_ (some 22) rfl rfl Try.func36 (by kernel_rfl) rfl #[] rfl (au9) ?_; (with_reducible refine (capstanlaw11_awake.calls k  true _ A2.out).mono ?_); rintro e w127 ⟨rfl, hb⟩; refine ⟨_, rfl, ?_⟩; have n0_ := Aside0.mk (blk_below (g := gb208) (o := .cells #[.slice A0_0 l0_0.length c0_0, .slice A0_1 l0_1.length c0_1, .slice A0_2 l0_2.length c0_2, .int .i64 a0_3] 25 (0, 0)) (au5) hb); have n1_ := Aside0.mk (below_step (au1) hb); clear BK208; clear HB; have BK208 := n0_; have HB := n1_; clear n0_ n1_; (try clear hb); (try clear hb2); (try clear hk); (try clear hi); obtain ⟨hcz128_0, hcz128_1, hcz128_2, hcz128_3, hfz128_0, hfz128_1, hfz128_2, hfz128_3⟩ := blk_all4 BK208.out) | ((with_reducible refine gate_callee (f := 11) rfl ?_); refine goesL_ (some 25) rfl rfl Try.func11 (by kernel_rfl) rfl #[.agg #[.slice A0_0 l0_0.length c0_0, .slice A0_1 l0_1.length c0_1, .slice A0_2 l0_2.length c0_2, .int .i64 a0_3]] rfl (au9) ?_; (with_reducible refine (capstanlaw08_Great.calls k _ _ l0_0 _ _ l0_1 _ _ l0_2 a0_3 false _ ?side1 ?side2 ?side3 ?side4 ?side5 ?side6 A4.out).mono ?_); (case side1 => exact au19); (case side2 => exact HC0_0.out); (case side3 => exact au20); (case side4 => exact HC0_1.out); (case side5 => exact au21); (case side6 => exact HC0_2.out); rintro e w129 ⟨rfl, hb⟩; refine ⟨_, rfl, ?_⟩; have n0_ := Aside0.mk (blk_below (g := gb208) (o := .cells #[.slice A0_0 l0_0.length c0_0, .slice A0_1 l0_1.length c0_1, .slice A0_2 l0_2.length c0_2, .int .i64 a0_3] 25 (0, 0)) (au5) hb); have n1_ := Aside0.mk (below_step (au1) hb); clear BK208; clear HB; have BK208 := n0_; have HB := n1_; clear n0_ n1_; (try clear hb); (try clear hb2); (try clear hk); (try clear hi); obtain ⟨hcz130_0, hcz130_1, hcz130_2, hcz130_3, hfz130_0, hfz130_1, hfz130_2, hfz130_3⟩ := blk_all4 BK208.out) | ((with_reducible refine gate_callee (f := 30) rfl ?_); refine goesL_ (some 28) rfl rfl Try.func30 (by kernel_rfl) rfl #[.agg #[.slice A0_0 l0_0.length c0_0, .slice A0_1 l0_1.length c0_1, .slice A0_2 l0_2.length c0_2, .int .i64 a0_3]] rfl (au9) ?_; (with_reducible refine (calls_Order.calls k _ _ l0_0 _ _ l0_1 _ _ l0_2 a0_3 t211 t214 _ ?side1 ?side2 ?side3 ?side4 ?side5 ?side6 A10.out).mono ?_); (case side1 => exact au19); (case side2 => exact HC0_0.out); (case side3 => exact au20); (case side4 => exact HC0_1.out); (case side5 => exact au21); (case side6 => exact HC0_2.out); rintro e w131 ⟨v212, rfl, ho0, hb⟩; refine ⟨_, rfl, ?_⟩; have n0_ := Aside0.mk (Kd.R_lower ho0 (below_size (au1))); have n1_ := Aside0.mk (blk_below (g := gb208) (o := .cells #[.slice A0_0 l0_0.length c0_0, .slice A0_1 l0_1.length c0_1, .slice A0_2 l0_2.length c0_2, .int .i64 a0_3] 25 (0, 0)) (au5) hb); have n2_ := Aside0.mk (below_step (au1) hb); clear BK208; clear HB; have HO213 := n0_; have BK208 := n1_; have HB := n2_; clear n0_ n1_ n2_; (try clear hb); (try clear hb2); (try clear hk); (try clear hi); (try clear ho0); obtain ⟨Ao132, co132, eo132⟩ := Kd.R_slice HO213.out; subst eo132))
    go_ret
    exact ⟨au30, au1⟩
 ·
  replace c3 := Bool.eq_false_iff.mpr c3
  subst c3
  have H1 : (none) = some r := by rw [if_neg (show ¬ (false = true) by decide)] at H; exact H
  clear H
  have H := H1
  clear H1
  exact absurd H (by simp)

/-- THE ONE PURE STATEMENT of capstanlaw11_CallsOrder: yours. -/
def capstanlaw11_CallsOrder.Pure : Prop := ∀ (l0_0 : List (S86)) (l0_1 : List (S86)) (l0_2 : List (S52)) (a0_3 : Int), ((l0_0.length ≤ maxLen ∧ ∀ y0_ ∈ l0_0, (Lit.int .u8 y0_.f0).wf = true ∧ (Lit.int .i64 y0_.f1).wf = true ∧ (Lit.int .i64 y0_.f2).wf = true) ∧ (l0_1.length ≤ maxLen ∧ ∀ y0_ ∈ l0_1, (Lit.int .u8 y0_.f0).wf = true ∧ (Lit.int .i64 y0_.f1).wf = true ∧ (Lit.int .i64 y0_.f2).wf = true) ∧ (l0_2.length ≤ maxLen ∧ ∀ y0_ ∈ l0_2, (y0_.f0.length ≤ maxLen ∧ ∀ y1_ ∈ y0_.f0, (Lit.int .u8 y1_).wf = true) ∧ (y0_.f1.length ≤ maxLen ∧ ∀ y1_ ∈ y0_.f1, (Lit.int .u8 y1_).wf = true) ∧ (Lit.int .u8 y0_.f2).wf = true ∧ True ∧ (Lit.int .i64 y0_.f4).wf = true ∧ (Lit.int .i64 y0_.f5).wf = true ∧ (Lit.int .i64 y0_.f6).wf = true ∧ (y0_.f7.length ≤ maxLen ∧ ∀ y1_ ∈ y0_.f7, (Lit.int .u8 y1_.f0).wf = true ∧ (Lit.int .i64 y1_.f1).wf = true ∧ (Lit.int .i64 y1_.f2).wf = true)) ∧ (Lit.int .i64 a0_3).wf = true) → ∃ k, capstanlaw11_CallsOrder.f k l0_0 l0_1 l0_2 a0_3 = some true
theorem capstanlaw11_CallsOrder.walk (P : capstanlaw11_CallsOrder.Pure) (A0_0 : Option Addr) (c0_0 : Nat) (l0_0 : List (S86)) (A0_1 : Option Addr) (c0_1 : Nat) (l0_1 : List (S86)) (A0_2 : Option Addr) (c0_2 : Nat) (l0_2 : List (S52)) (a0_3 : Int) (w : World) (hr0_0 : Kd.C k86 w A0_0 l0_0.length l0_0) (hc0_0 : l0_0.length ≤ c0_0) (hr0_1 : Kd.C k86 w A0_1 l0_1.length l0_1) (hc0_1 : l0_1.length ≤ c0_1) (hr0_2 : Kd.C k52 w A0_2 l0_2.length l0_2) (hc0_2 : l0_2.length ≤ c0_2) (g0 : (l0_0.length ≤ maxLen ∧ ∀ y0_ ∈ l0_0, (Lit.int .u8 y0_.f0).wf = true ∧ (Lit.int .i64 y0_.f1).wf = true ∧ (Lit.int .i64 y0_.f2).wf = true) ∧ (l0_1.length ≤ maxLen ∧ ∀ y0_ ∈ l0_1, (Lit.int .u8 y0_.f0).wf = true ∧ (Lit.int .i64 y0_.f1).wf = true ∧ (Lit.int .i64 y0_.f2).wf = true) ∧ (l0_2.length ≤ maxLen ∧ ∀ y0_ ∈ l0_2, (y0_.f0.length ≤ maxLen ∧ ∀ y1_ ∈ y0_.f0, (Lit.int .u8 y1_).wf = true) ∧ (y0_.f1.length ≤ maxLen ∧ ∀ y1_ ∈ y0_.f1, (Lit.int .u8 y1_).wf = true) ∧ (Lit.int .u8 y0_.f2).wf = true ∧ True ∧ (Lit.int .i64 y0_.f4).wf = true ∧ (Lit.int .i64 y0_.f5).wf = true ∧ (Lit.int .i64 y0_.f6).wf = true ∧ (y0_.f7.length ≤ maxLen ∧ ∀ y1_ ∈ y0_.f7, (Lit.int .u8 y1_.f0).wf = true ∧ (Lit.int .i64 y1_.f1).wf = true ∧ (Lit.int .i64 y1_.f2).wf = true)) ∧ (Lit.int .i64 a0_3).wf = true) :
  Calls Try.prog 6 #[.agg #[.slice A0_0 l0_0.length c0_0, .slice A0_1 l0_1.length c0_1, .slice A0_2 l0_2.length c0_2, .int .i64 a0_3]] w fun e w' => e = .returned (.bool true) ∧ Below w.heap.size w w' := by
 obtain ⟨k, h⟩ := P l0_0 l0_1 l0_2 a0_3 g0
 refine (capstanlaw11_CallsOrder.calls k _ _ l0_0 _ _ l0_1 _ _ l0_2 a0_3 true w hr0_0 hc0_0 hr0_1 hc0_1 hr0_2 hc0_2 h).mono ?_
 rintro e w' ⟨rfl, hd⟩
 exact ⟨rfl, hd⟩

end Go.Proofs.Ytkmnachdibhdhaa.Q
