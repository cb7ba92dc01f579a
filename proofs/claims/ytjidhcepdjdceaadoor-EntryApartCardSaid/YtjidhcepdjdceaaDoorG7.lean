/- Contracts of the functions of this seat (each: the call of the function does what the plain Lean function of the same name tells; the conditions stand in each statement). Written by a program of this session and by hand; checked by Lean. -/
import Derived.Test.YtjidhcepdjdceaaDoorG0
import Derived.Test.YtjidhcepdjdceaaDoorG3
import Derived.Test.YtjidhcepdjdceaaDoorG4
import Derived.Test.YtjidhcepdjdceaaDoorG6
namespace Go.Proofs.YtjidhcepdjdceaaDoor.G
open Go.RowKit Go.Proofs.YtjidhcepdjdceaaDoorW.PrintWords Go.Proofs.YtjidhcepdjdceaaDoorW.PrintLast Go.Proofs.YtjidhcepdjdceaaDoorW.PrintMore
attribute [local go_sem] max2_int min2_int max_two min_two max_three min_three max_four min_four   -- for this text's walks alone
set_option linter.unusedVariables false
set_option linter.unusedSimpArgs false

/-! ### capstanlaw20_awake: function 20 -/
def capstanlaw20_awake.f (k : Nat)  : Option (Bool) := (entry_Bytes.f k 1 2 1 3 ([] : List (S37)) ([] : List Int)).bind fun bt187 => ((entry_Bytes.f k 63 1 2 0 ([] : List (S37)) (([97, 98] : List Int))).bind fun bt194 => ((entry_Bytes.f k 64 1 1 0 ([] : List (S37)) ([] : List Int)).bind fun bt198 => (if (strOfNums bt187.1).toList = ([1, 2, 0, 0, 0, 0, 0, 1, 3, 0] : List UInt8) then (if bt187.2 = 0 then (if (strOfNums bt194.1).toList = ([63, 1, 0, 0, 0, 0, 0, 2, 2, 0, 97, 98] : List UInt8) then (if bt194.2 = 0 then (if bt198.2 = 200 then ((entry_May.f k 2 0 ([] : List (S37)) ([] : List Int)).bind fun t202 => (if t202 = true then ((entry_May.f k 0 0 ([] : List (S37)) ([] : List Int)).bind fun t203 => (if t203 = true then (none) else ((entry_May.f k 1 16 ([] : List (S37)) ([] : List Int)).bind fun t204 => (some (!t204))))) else (none))) else (none)) else (none)) else (none)) else (none)) else (none))))
theorem capstanlaw20_awake.mono : ∀ k, LeO (capstanlaw20_awake.f k ) (capstanlaw20_awake.f (k + 1) ) := by
 intro  k
 unfold capstanlaw20_awake.f
 repeat' first
   | (with_reducible exact entry_Bytes.mono _ _ _ _ _ _ _)
   | (with_reducible exact entry_May.mono _ _ _ _ _)
   | (with_reducible exact LeO.refl _)
   | (with_reducible exact LeO.none _)
   | (with_reducible refine LeO.ite ?_ ?_)
   | (with_reducible refine LeO.bind ?_ (fun _ => ?_))
   | exact entry_Bytes.mono _ _ _ _ _ _ _
   | exact entry_May.mono _ _ _ _ _
   | exact LeO.none _
   | refine LeO.ite ?_ ?_
   | refine LeO.bind ?_ (fun _ => ?_)
set_option maxHeartbeats 8000000 in
set_option maxRecDepth 100000 in
theorem capstanlaw20_awake.calls (k : Nat)  (r : Bool) (w : World) (h : capstanlaw20_awake.f k  = some r) :
  Calls Tryd.prog 20 #[] w fun e w' => e = .returned (.bool r) ∧ Below w.heap.size w w' := by
 have hu43 := Tryd.underlying43
 have hu45 := Tryd.underlying45
 have HB := Aside0.mk (Below.refl w.heap.size w)
 have H : ((entry_Bytes.f k 1 2 1 3 ([] : List (S37)) ([] : List Int)).bind fun bt187 => ((entry_Bytes.f k 63 1 2 0 ([] : List (S37)) (([97, 98] : List Int))).bind fun bt194 => ((entry_Bytes.f k 64 1 1 0 ([] : List (S37)) ([] : List Int)).bind fun bt198 => (if (strOfNums bt187.1).toList = ([1, 2, 0, 0, 0, 0, 0, 1, 3, 0] : List UInt8) then (if bt187.2 = 0 then (if (strOfNums bt194.1).toList = ([63, 1, 0, 0, 0, 0, 0, 2, 2, 0, 97, 98] : List UInt8) then (if bt194.2 = 0 then (if bt198.2 = 200 then ((entry_May.f k 2 0 ([] : List (S37)) ([] : List Int)).bind fun t202 => (if t202 = true then ((entry_May.f k 0 0 ([] : List (S37)) ([] : List Int)).bind fun t203 => (if t203 = true then (none) else ((entry_May.f k 1 16 ([] : List (S37)) ([] : List Int)).bind fun t204 => (some (!t204))))) else (none))) else (none)) else (none)) else (none)) else (none)) else (none))))) = some r := h
 clear h
 replace H := Option.bind_eq_some_iff.mp H
 obtain ⟨⟨t187, t190⟩, A10, H⟩ := H
 replace H : ((entry_Bytes.f k 63 1 2 0 ([] : List (S37)) (([97, 98] : List Int))).bind fun bt194 => ((entry_Bytes.f k 64 1 1 0 ([] : List (S37)) ([] : List Int)).bind fun bt198 => (if (strOfNums t187).toList = ([1, 2, 0, 0, 0, 0, 0, 1, 3, 0] : List UInt8) then (if t190 = 0 then (if (strOfNums bt194.1).toList = ([63, 1, 0, 0, 0, 0, 0, 2, 2, 0, 97, 98] : List UInt8) then (if bt194.2 = 0 then (if bt198.2 = 200 then ((entry_May.f k 2 0 ([] : List (S37)) ([] : List Int)).bind fun t202 => (if t202 = true then ((entry_May.f k 0 0 ([] : List (S37)) ([] : List Int)).bind fun t203 => (if t203 = true then (none) else ((entry_May.f k 1 16 ([] : List (S37)) ([] : List Int)).bind fun t204 => (some (!t204))))) else (none))) else (none)) else (none)) else (none)) else (none)) else (none)))) = some r := H
 have A1 := Aside0.mk A10
 clear A10
 obtain ⟨y191, hy191⟩ : ∃ y_ : List Int, y_ = (([97, 98] : List Int)) := ⟨_, rfl⟩
 replace H : ((entry_Bytes.f k 63 1 2 0 ([] : List (S37)) y191).bind fun bt194 => ((entry_Bytes.f k 64 1 1 0 ([] : List (S37)) ([] : List Int)).bind fun bt198 => (if (strOfNums t187).toList = ([1, 2, 0, 0, 0, 0, 0, 1, 3, 0] : List UInt8) then (if t190 = 0 then (if (strOfNums bt194.1).toList = ([63, 1, 0, 0, 0, 0, 0, 2, 2, 0, 97, 98] : List UInt8) then (if bt194.2 = 0 then (if bt198.2 = 200 then ((entry_May.f k 2 0 ([] : List (S37)) ([] : List Int)).bind fun t202 => (if t202 = true then ((entry_May.f k 0 0 ([] : List (S37)) ([] : List Int)).bind fun t203 => (if t203 = true then (none) else ((entry_May.f k 1 16 ([] : List (S37)) ([] : List Int)).bind fun t204 => (some (!t204))))) else (none))) else (none)) else (none)) else (none)) else (none)) else (none)))) = some r := by first | (rw [hy191]; with_reducible exact H) | (have H2_ := (Option.bind_some _ _).symm.trans H; rw [hy191]; with_reducible exact H2_) | (have H2_ := (Option.bind_some _ _).symm.trans H; with_reducible exact H2_) | with_reducible exact H | (rw [hy191]; exact H) | exact H
 have Ny191 := Aside0.mk hy191
 clear hy191
 replace H := Option.bind_eq_some_iff.mp H
 obtain ⟨⟨t194, t197⟩, A20, H⟩ := H
 replace H : ((entry_Bytes.f k 64 1 1 0 ([] : List (S37)) ([] : List Int)).bind fun bt198 => (if (strOfNums t187).toList = ([1, 2, 0, 0, 0, 0, 0, 1, 3, 0] : List UInt8) then (if t190 = 0 then (if (strOfNums t194).toList = ([63, 1, 0, 0, 0, 0, 0, 2, 2, 0, 97, 98] : List UInt8) then (if t197 = 0 then (if bt198.2 = 200 then ((entry_May.f k 2 0 ([] : List (S37)) ([] : List Int)).bind fun t202 => (if t202 = true then ((entry_May.f k 0 0 ([] : List (S37)) ([] : List Int)).bind fun t203 => (if t203 = true then (none) else ((entry_May.f k 1 16 ([] : List (S37)) ([] : List Int)).bind fun t204 => (some (!t204))))) else (none))) else (none)) else (none)) else (none)) else (none)) else (none))) = some r := H
 have A2 := Aside0.mk A20
 clear A20
 replace H := Option.bind_eq_some_iff.mp H
 obtain ⟨⟨t198, t201⟩, A30, H⟩ := H
 replace H : (if (strOfNums t187).toList = ([1, 2, 0, 0, 0, 0, 0, 1, 3, 0] : List UInt8) then (if t190 = 0 then (if (strOfNums t194).toList = ([63, 1, 0, 0, 0, 0, 0, 2, 2, 0, 97, 98] : List UInt8) then (if t197 = 0 then (if t201 = 200 then ((entry_May.f k 2 0 ([] : List (S37)) ([] : List Int)).bind fun t202 => (if t202 = true then ((entry_May.f k 0 0 ([] : List (S37)) ([] : List Int)).bind fun t203 => (if t203 = true then (none) else ((entry_May.f k 1 16 ([] : List (S37)) ([] : List Int)).bind fun t204 => (some (!t204))))) else (none))) else (none)) else (none)) else (none)) else (none)) else (none)) = some r := H
 have A3 := Aside0.mk A30
 clear A30
 by_cases c4 : (strOfNums t187).toList = ([1, 2, 0, 0, 0, 0, 0, 1, 3, 0] : List UInt8)
 ·
  rw [if_pos c4] at H
  have c4b0 : ((strOfNums t187).toList == ([1, 2, 0, 0, 0, 0, 0, 1, 3, 0] : List UInt8)) = true := beq_iff_eq.mpr c4
  have c4b1 : ((strOfNums t187).toList != ([1, 2, 0, 0, 0, 0, 0, 1, 3, 0] : List UInt8)) = false := bne_eq_false_iff_eq.mpr c4
  clear c4
  by_cases c5 : t190 = 0
  ·
   rw [if_pos c5] at H
   have c5b0 : (t190 == 0) = true := beq_iff_eq.mpr c5
   have c5b1 : (t190 != 0) = false := bne_eq_false_iff_eq.mpr c5
   clear c5
   by_cases c6 : (strOfNums t194).toList = ([63, 1, 0, 0, 0, 0, 0, 2, 2, 0, 97, 98] : List UInt8)
   ·
    rw [if_pos c6] at H
    have c6b0 : ((strOfNums t194).toList == ([63, 1, 0, 0, 0, 0, 0, 2, 2, 0, 97, 98] : List UInt8)) = true := beq_iff_eq.mpr c6
    have c6b1 : ((strOfNums t194).toList != ([63, 1, 0, 0, 0, 0, 0, 2, 2, 0, 97, 98] : List UInt8)) = false := bne_eq_false_iff_eq.mpr c6
    clear c6
    by_cases c7 : t197 = 0
    ·
     rw [if_pos c7] at H
     have c7b0 : (t197 == 0) = true := beq_iff_eq.mpr c7
     have c7b1 : (t197 != 0) = false := bne_eq_false_iff_eq.mpr c7
     clear c7
     by_cases c8 : t201 = 200
     ·
      rw [if_pos c8] at H
      have c8b0 : (t201 == 200) = true := beq_iff_eq.mpr c8
      have c8b1 : (t201 != 200) = false := bne_eq_false_iff_eq.mpr c8
      clear c8
      replace H := Option.bind_eq_some_iff.mp H
      obtain ⟨t202, A90, H⟩ := H
      replace H : (if t202 = true then ((entry_May.f k 0 0 ([] : List (S37)) ([] : List Int)).bind fun t203 => (if t203 = true then (none) else ((entry_May.f k 1 16 ([] : List (S37)) ([] : List Int)).bind fun t204 => (some (!t204))))) else (none)) = some r := H
      have A9 := Aside0.mk A90
      clear A90
      by_cases c10 : t202 = true
      ·
       subst c10
       have H1 : ((entry_May.f k 0 0 ([] : List (S37)) ([] : List Int)).bind fun t203 => (if t203 = true then (none) else ((entry_May.f k 1 16 ([] : List (S37)) ([] : List Int)).bind fun t204 => (some (!t204))))) = some r := by rw [if_pos rfl] at H; exact H
       clear H
       have H := H1
       clear H1
       replace H := Option.bind_eq_some_iff.mp H
       obtain ⟨t203, A110, H⟩ := H
       replace H : (if t203 = true then (none) else ((entry_May.f k 1 16 ([] : List (S37)) ([] : List Int)).bind fun t204 => (some (!t204)))) = some r := H
       have A11 := Aside0.mk A110
       clear A110
       by_cases c12 : t203 = true
       ·
        subst c12
        have H1 : (none) = some r := by rw [if_pos rfl] at H; exact H
        clear H
        have H := H1
        clear H1
        exact absurd H (by simp)
       ·
        replace c12 := Bool.eq_false_iff.mpr c12
        subst c12
        have H1 : ((entry_May.f k 1 16 ([] : List (S37)) ([] : List Int)).bind fun t204 => (some (!t204))) = some r := by rw [if_neg (show ¬ (false = true) by decide)] at H; exact H
        clear H
        have H := H1
        clear H1
        replace H := Option.bind_eq_some_iff.mp H
        obtain ⟨t204, A130, H⟩ := H
        replace H : (some (!t204)) = some r := H
        have A13 := Aside0.mk A130
        clear A130
        obtain rfl := Option.some.inj H
        go_enter Tryd.func20, Tryd.ntmps20
        go_wp2_with (first | ((with_reducible refine gate_callee (f := 22) rfl ?_); refine goesL_ (some 10) rfl rfl Tryd.func22 (by kernel_rfl) rfl #[.agg #[.int .i64 1, .int .i64 2, .int .u8 1, .int .i64 3, .slice none 0 0, .slice none 0 0]] rfl (by (try simp only [List.map_toArray, List.map_cons, List.map_nil]); first | done | rfl | (simp only [List.length_drop, List.length_take]; rfl)) ?_; (refine (entry_Bytes.calls k 1 2 1 3 _ _ ([] : List (S37)) _ _ ([] : List Int) t187 t190 _ ?side1 ?side2 ?side3 ?side4 A1.out).mono ?_); (case side1 => exact Kd.C_nil _ _); (case side2 => exact Nat.le_refl _); (case side3 => exact Kd.C_nil _ _); (case side4 => exact Nat.le_refl _); rintro e w14 ⟨v188, rfl, ho0, hb⟩; refine ⟨_, rfl, ?_⟩; have n0_ := Aside0.mk (Kd.V_lower (Kd.V_mono (ok' := fun k_ => True) ho0 (fun k_ hk_ => trivial)) (below_size (by repeat (first | (with_reducible first | exact HB.out | apply below_alloc | apply pw_below_drewN | apply below_drew1) | exact HB.out | exact ⟨HB.out.os, HB.out.tape, HB.out.output, HB.out.size, HB.out.block⟩)))); have n1_ := Aside0.mk (below_step (by repeat (first | (with_reducible first | exact HB.out | apply below_alloc | apply pw_below_drewN | apply below_drew1) | exact HB.out | exact ⟨HB.out.os, HB.out.tape, HB.out.output, HB.out.size, HB.out.block⟩)) hb); clear HB; have HO189 := n0_; have HB := n1_; clear n0_ n1_; (try clear hb); (try clear hb2); (try clear hk); (try clear hi); (try clear ho0)) | ((with_reducible refine gate_dst (N := 14) rfl ?_); refine V_litc _ 5 ?hg ?hg2 (N := 14) ?hd ?hN 22 ?h2 Tryd.underlying22 Tryd.underlying5 ([97, 98] : List Int) (inner := [.int .u8 97, .int .u8 98]) ?hr rfl (Below.refl _ _) (Nat.le_refl _) (by simp) ?_; (case hd => rfl); (case hg => rfl); (case hg2 => rfl); (case hN => first | (simp; done) | (go_simp; done) | (go_simp; omega)); (case h2 => rfl); (case hr => first | (go_simp; done) | (go_simp; rfl)); intro v192 w15 ho16 hb hg_ hnew_; clear hg_ hnew_; (first | rw [← Ny191.out] at ho16 | (simp only [Int.reduceToNat] at ho16; rw [← Ny191.out] at ho16)); have n0_ := Aside0.mk (Kd.V_below (by (with_reducible repeat (first | apply Kd.V_alloc | apply Kd.V_drewN | apply Kd.V_drew)); first | exact HO189.out | exact Kd.V_mono (HO189.out) (fun _ h_ => h_.2)) hb); have n1_ := Aside0.mk (Kd.V_lower (Kd.V_mono (ok' := fun k_ => True) ho16 (fun k_ hk_ => trivial)) (below_size (by repeat (first | (with_reducible first | exact HB.out | apply below_alloc | apply pw_below_drewN | apply below_drew1) | exact HB.out | exact ⟨HB.out.os, HB.out.tape, HB.out.output, HB.out.size, HB.out.block⟩)))); have n2_ := Aside0.mk (below_step (by repeat (first | (with_reducible first | exact HB.out | apply below_alloc | apply pw_below_drewN | apply below_drew1) | exact HB.out | exact ⟨HB.out.os, HB.out.tape, HB.out.output, HB.out.size, HB.out.block⟩)) hb); clear HO189; clear HB; have HO189 := n0_; have HO193 := n1_; have HB := n2_; clear n0_ n1_ n2_; clear hb ho16; obtain ⟨Ao17, co17, eo17⟩ := Kd.V_slice HO193.out; subst eo17) | ((with_reducible refine gate_callee (f := 22) rfl ?_); refine goesL_ (some 18) rfl rfl Tryd.func22 (by kernel_rfl) rfl #[.agg #[.int .i64 63, .int .i64 1, .int .u8 2, .int .i64 0, .slice none 0 0, .slice Ao17 y191.length co17]] rfl (by (try simp only [List.map_toArray, List.map_cons, List.map_nil]); first | done | rfl | (simp only [List.length_drop, List.length_take]; rfl)) ?_; (refine (entry_Bytes.calls k 63 1 2 0 _ _ ([] : List (S37)) _ _ y191 t194 t197 _ ?side1 ?side2 ?side3 ?side4 A2.out).mono ?_); (case side1 => exact Kd.C_nil _ _); (case side2 => exact Nat.le_refl _); (case side3 => repeat (first | exact (Kd.V_reads' HO193.out).2.2 | (with_reducible refine Kd.C_alloc ?_ _) | (with_reducible refine Kd.C_drewN ?_ _) | (with_reducible refine Kd.C_drew ?_))); (case side4 => exact (Kd.V_reads' HO193.out).2.1); rintro e w18 ⟨v195, rfl, ho0, hb⟩; refine ⟨_, rfl, ?_⟩; have n0_ := Aside0.mk (Kd.V_below (by (with_reducible repeat (first | apply Kd.V_alloc | apply Kd.V_drewN | apply Kd.V_drew)); first | exact HO189.out | exact Kd.V_mono (HO189.out) (fun _ h_ => h_.2)) hb); have n1_ := Aside0.mk (Kd.V_below (by (with_reducible repeat (first | apply Kd.V_alloc | apply Kd.V_drewN | apply Kd.V_drew)); first | exact HO193.out | exact Kd.V_mono (HO193.out) (fun _ h_ => h_.2)) hb); have n2_ := Aside0.mk (Kd.V_lower (Kd.V_mono (ok' := fun k_ => True) ho0 (fun k_ hk_ => trivial)) (below_size (by repeat (first | (with_reducible first | exact HB.out | apply below_alloc | apply pw_below_drewN | apply below_drew1) | exact HB.out | exact ⟨HB.out.os, HB.out.tape, HB.out.output, HB.out.size, HB.out.block⟩)))); have n3_ := Aside0.mk (below_step (by repeat (first | (with_reducible first | exact HB.out | apply below_alloc | apply pw_below_drewN | apply below_drew1) | exact HB.out | exact ⟨HB.out.os, HB.out.tape, HB.out.output, HB.out.size, HB.out.block⟩)) hb); clear HO189; clear HO193; clear HB; have HO189 := n0_; have HO193 := n1_; have HO196 := n2_; have HB := n3_; clear n0_ n1_ n2_ n3_; (try clear hb); (try clear hb2); (try clear hk); (try clear hi); (try clear ho0)) | ((with_reducible refine gate_callee (f := 22) rfl ?_); refine goesL_ (some 24) rfl rfl Tryd.func22 (by kernel_rfl) rfl #[.agg #[.int .i64 64, .int .i64 1, .int .u8 1, .int .i64 0, .slice none 0 0, .slice none 0 0]] rfl (by (try simp only [List.map_toArray, List.map_cons, List.map_nil]); first | done | rfl | (simp only [List.length_drop, List.length_take]; rfl)) ?_; (refine (entry_Bytes.calls k 64 1 1 0 _ _ ([] : List (S37)) _ _ ([] : List Int) t198 t201 _ ?side1 ?side2 ?side3 ?side4 A3.out).mono ?_); (case side1 => exact Kd.C_nil _ _); (case side2 => exact Nat.le_refl _); (case side3 => exact Kd.C_nil _ _); (case side4 => exact Nat.le_refl _); rintro e w19 ⟨v199, rfl, ho0, hb⟩; refine ⟨_, rfl, ?_⟩; have n0_ := Aside0.mk (Kd.V_below (by (with_reducible repeat (first | apply Kd.V_alloc | apply Kd.V_drewN | apply Kd.V_drew)); first | exact HO189.out | exact Kd.V_mono (HO189.out) (fun _ h_ => h_.2)) hb); have n1_ := Aside0.mk (Kd.V_below (by (with_reducible repeat (first | apply Kd.V_alloc | apply Kd.V_drewN | apply Kd.V_drew)); first | exact HO193.out | exact Kd.V_mono (HO193.out) (fun _ h_ => h_.2)) hb); have n2_ := Aside0.mk (Kd.V_below (by (with_reducible repeat (first | apply Kd.V_alloc | apply Kd.V_drewN | apply Kd.V_drew)); first | exact HO196.out | exact Kd.V_mono (HO196.out) (fun _ h_ => h_.2)) hb); have n3_ := Aside0.mk (Kd.V_lower (Kd.V_mono (ok' := fun k_ => True) ho0 (fun k_ hk_ => trivial)) (below_size (by repeat (first | (with_reducible first | exact HB.out | apply below_alloc | apply pw_below_drewN | apply below_drew1) | exact HB.out | exact ⟨HB.out.os, HB.out.tape, HB.out.output, HB.out.size, HB.out.block⟩)))); have n4_ := Aside0.mk (below_step (by repeat (first | (with_reducible first | exact HB.out | apply below_alloc | apply pw_below_drewN | apply below_drew1) | exact HB.out | exact ⟨HB.out.os, HB.out.tape, HB.out.output, HB.out.size, HB.out.block⟩)) hb); clear HO189; clear HO193; clear HO196; clear HB; have HO189 := n0_; have HO193 := n1_; have HO196 := n2_; have HO200 := n3_; have HB := n4_; clear n0_ n1_ n2_ n3_ n4_; (try clear hb); (try clear hb2); (try clear hk); (try clear hi); (try clear ho0); have hcv20 := V_string (P := Tryd.prog) Tryd.underlying22 Tryd.underlying5 Tryd.underlying9 (id HO189.out); (try have hcv21 := fun n_ : Nat => V_string (P := Tryd.prog) Tryd.underlying22 Tryd.underlying5 Tryd.underlying9 (id (Kd.V_drewN HO189.out n_))); have hcv22 := V_string (P := Tryd.prog) Tryd.underlying22 Tryd.underlying5 Tryd.underlying9 (id HO196.out); (try have hcv23 := fun n_ : Nat => V_string (P := Tryd.prog) Tryd.underlying22 Tryd.underlying5 Tryd.underlying9 (id (Kd.V_drewN HO196.out n_)))) | ((fail_if_success (have h_ := w24)); go_at_call 24; (refine (entry_May.calls k 2 0 _ _ ([] : List (S37)) _ _ ([] : List Int) true _ ?side1 ?side2 ?side3 ?side4 A9.out).mono ?_); (case side1 => exact Kd.C_nil _ _); (case side2 => exact Nat.le_refl _); (case side3 => exact Kd.C_nil _ _); (case side4 => exact Nat.le_refl _); rintro e w24 ⟨rfl, hb⟩; have n0_ := Aside0.mk (Kd.V_below (by (with_reducible repeat (first | apply Kd.V_alloc | apply Kd.V_drewN | apply Kd.V_drew)); first | exact HO189.out | exact Kd.V_mono (HO189.out) (fun _ h_ => h_.2)) hb); have n1_ := Aside0.mk (Kd.V_below (by (with_reducible repeat (first | apply Kd.V_alloc | apply Kd.V_drewN | apply Kd.V_drew)); first | exact HO193.out | exact Kd.V_mono (HO193.out) (fun _ h_ => h_.2)) hb); have n2_ := Aside0.mk (Kd.V_below (by (with_reducible repeat (first | apply Kd.V_alloc | apply Kd.V_drewN | apply Kd.V_drew)); first | exact HO196.out | exact Kd.V_mono (HO196.out) (fun _ h_ => h_.2)) hb); have n3_ := Aside0.mk (Kd.V_below (by (with_reducible repeat (first | apply Kd.V_alloc | apply Kd.V_drewN | apply Kd.V_drew)); first | exact HO200.out | exact Kd.V_mono (HO200.out) (fun _ h_ => h_.2)) hb); have n4_ := Aside0.mk (below_step (by repeat (first | (with_reducible first | exact HB.out | apply below_alloc | apply pw_below_drewN | apply below_drew1) | exact HB.out | exact ⟨HB.out.os, HB.out.tape, HB.out.output, HB.out.size, HB.out.block⟩)) hb); clear HO189; clear HO193; clear HO196; clear HO200; clear HB; have HO189 := n0_; have HO193 := n1_; have HO196 := n2_; have HO200 := n3_; have HB := n4_; clear n0_ n1_ n2_ n3_ n4_; (try clear hb); (try clear hb2); (try clear hk); (try clear hi)) | ((fail_if_success (have h_ := w25)); go_at_call 24; (refine (entry_May.calls k 0 0 _ _ ([] : List (S37)) _ _ ([] : List Int) false _ ?side1 ?side2 ?side3 ?side4 A11.out).mono ?_); (case side1 => exact Kd.C_nil _ _); (case side2 => exact Nat.le_refl _); (case side3 => exact Kd.C_nil _ _); (case side4 => exact Nat.le_refl _); rintro e w25 ⟨rfl, hb⟩; have n0_ := Aside0.mk (Kd.V_below (by (with_reducible repeat (first | apply Kd.V_alloc | apply Kd.V_drewN | apply Kd.V_drew)); first | exact HO189.out | exact Kd.V_mono (HO189.out) (fun _ h_ => h_.2)) hb); have n1_ := Aside0.mk (Kd.V_below (by (with_reducible repeat (first | apply Kd.V_alloc | apply Kd.V_drewN | apply Kd.V_drew)); first | exact HO193.out | exact Kd.V_mono (HO193.out) (fun _ h_ => h_.2)) hb); have n2_ := Aside0.mk (Kd.V_below (by (with_reducible repeat (first | apply Kd.V_alloc | apply Kd.V_drewN | apply Kd.V_drew)); first | exact HO196.out | exact Kd.V_mono (HO196.out) (fun _ h_ => h_.2)) hb); have n3_ := Aside0.mk (Kd.V_below (by (with_reducible repeat (first | apply Kd.V_alloc | apply Kd.V_drewN | apply Kd.V_drew)); first | exact HO200.out | exact Kd.V_mono (HO200.out) (fun _ h_ => h_.2)) hb); have n4_ := Aside0.mk (below_step (by repeat (first | (with_reducible first | exact HB.out | apply below_alloc | apply pw_below_drewN | apply below_drew1) | exact HB.out | exact ⟨HB.out.os, HB.out.tape, HB.out.output, HB.out.size, HB.out.block⟩)) hb); clear HO189; clear HO193; clear HO196; clear HO200; clear HB; have HO189 := n0_; have HO193 := n1_; have HO196 := n2_; have HO200 := n3_; have HB := n4_; clear n0_ n1_ n2_ n3_ n4_; (try clear hb); (try clear hb2); (try clear hk); (try clear hi)) | ((fail_if_success (have h_ := w26)); go_at_call 24; (refine (entry_May.calls k 1 16 _ _ ([] : List (S37)) _ _ ([] : List Int) t204 _ ?side1 ?side2 ?side3 ?side4 A13.out).mono ?_); (case side1 => exact Kd.C_nil _ _); (case side2 => exact Nat.le_refl _); (case side3 => exact Kd.C_nil _ _); (case side4 => exact Nat.le_refl _); rintro e w26 ⟨rfl, hb⟩; have n0_ := Aside0.mk (Kd.V_below (by (with_reducible repeat (first | apply Kd.V_alloc | apply Kd.V_drewN | apply Kd.V_drew)); first | exact HO189.out | exact Kd.V_mono (HO189.out) (fun _ h_ => h_.2)) hb); have n1_ := Aside0.mk (Kd.V_below (by (with_reducible repeat (first | apply Kd.V_alloc | apply Kd.V_drewN | apply Kd.V_drew)); first | exact HO193.out | exact Kd.V_mono (HO193.out) (fun _ h_ => h_.2)) hb); have n2_ := Aside0.mk (Kd.V_below (by (with_reducible repeat (first | apply Kd.V_alloc | apply Kd.V_drewN | apply Kd.V_drew)); first | exact HO196.out | exact Kd.V_mono (HO196.out) (fun _ h_ => h_.2)) hb); have n3_ := Aside0.mk (Kd.V_below (by (with_reducible repeat (first | apply Kd.V_alloc | apply Kd.V_drewN | apply Kd.V_drew)); first | exact HO200.out | exact Kd.V_mono (HO200.out) (fun _ h_ => h_.2)) hb); have n4_ := Aside0.mk (below_step (by repeat (first | (with_reducible first | exact HB.out | apply below_alloc | apply pw_below_drewN | apply below_drew1) | exact HB.out | exact ⟨HB.out.os, HB.out.tape, HB.out.output, HB.out.size, HB.out.block⟩)) hb); clear HO189; clear HO193; clear HO196; clear HO200; clear HB; have HO189 := n0_; have HO193 := n1_; have HO196 := n2_; have HO200 := n3_; have HB := n4_; clear n0_ n1_ n2_ n3_ n4_; (try clear hb); (try clear hb2); (try clear hk); (try clear hi)))
        go_ret
        exact ⟨by first | rfl | (simp [errW_none, errW_some] <;> rfl) | (simp [*, errW_none, errW_some] <;> rfl), by repeat (first | (with_reducible first | exact HB.out | apply below_alloc | apply pw_below_drewN | apply below_drew1) | exact HB.out | exact ⟨HB.out.os, HB.out.tape, HB.out.output, HB.out.size, HB.out.block⟩)⟩
      ·
       replace c10 := Bool.eq_false_iff.mpr c10
       subst c10
       have H1 : (none) = some r := by rw [if_neg (show ¬ (false = true) by decide)] at H; exact H
       clear H
       have H := H1
       clear H1
       exact absurd H (by simp)
     ·
      rw [if_neg c8] at H
      exact absurd H (by simp)
    ·
     rw [if_neg c7] at H
     exact absurd H (by simp)
   ·
    rw [if_neg c6] at H
    exact absurd H (by simp)
  ·
   rw [if_neg c5] at H
   exact absurd H (by simp)
 ·
  rw [if_neg c4] at H
  exact absurd H (by simp)

/-! ### capstanlaw20_Great: function 21 -/
def capstanlaw20_Great.f (a0_0 : Int) (a0_1 : Int) (l0_2 : List (S37)) (l0_3 : List Int) : Option (Bool) := if (l0_2.length : Int) > 20 then (some true) else (some (decide ((l0_3.length : Int) > 3000)))
set_option maxHeartbeats 8000000 in
set_option maxRecDepth 100000 in
theorem capstanlaw20_Great.calls (a0_0 : Int) (a0_1 : Int) (A0_2 : Option Addr) (c0_2 : Nat) (l0_2 : List (S37)) (A0_3 : Option Addr) (c0_3 : Nat) (l0_3 : List Int) (r : Bool) (w : World) (hr0_2 : Kd.C k37 w A0_2 l0_2.length l0_2) (hc0_2 : l0_2.length ≤ c0_2) (hr0_3 : Kd.C (Kd.int .u8) w A0_3 l0_3.length l0_3) (hc0_3 : l0_3.length ≤ c0_3) (h : capstanlaw20_Great.f a0_0 a0_1 l0_2 l0_3 = some r) :
  Calls Tryd.prog 21 #[.agg #[.int .u8 a0_0, .int .i64 a0_1, .slice A0_2 l0_2.length c0_2, .slice A0_3 l0_3.length c0_3]] w fun e w' => e = .returned (.bool r) ∧ Below w.heap.size w w' := by
 have hu43 := Tryd.underlying43
 have HR0_2 := Aside0.mk hr0_2
 have HC0_2 := Aside0.mk hc0_2
 clear hr0_2 hc0_2
 have HR0_3 := Aside0.mk hr0_3
 have HC0_3 := Aside0.mk hc0_3
 clear hr0_3 hc0_3
 have HB := Aside0.mk (Below.refl w.heap.size w)
 have H : (if (l0_2.length : Int) > 20 then (some true) else (some (decide ((l0_3.length : Int) > 3000)))) = some r := h
 clear h
 by_cases c2 : (l0_2.length : Int) > 20
 ·
  rw [if_pos c2] at H
  have c2b0 : decide (20 < (l0_2.length : Int)) = true := decide_eq_true c2
  have c2b1 : decide (20 < l0_2.length) = true := decide_eq_true (by omega)
  clear c2
  obtain rfl := Option.some.inj H
  go_enter Tryd.func21, Tryd.ntmps21
  go_wp2_with (first | ((with_reducible refine gate_dst (N := 1) rfl ?_); (try (refine gate_guard (by rfl) ?_; dsimp only)); refine box_event ?hg (N := 1) ?hd (cs := #[.int .u8 a0_0, .int .i64 a0_1, .slice A0_2 l0_2.length c0_2, .slice A0_3 l0_3.length c0_3]) (t := 43) ?hr ?_; (case hd => rfl); (case hg => rfl); (case hr => first | (go_simp; done) | (go_simp; rfl)); intro gb205 hg w3 hbox hb; have n0_ := Aside0.mk (below_step (by repeat (first | (with_reducible first | exact HB.out | apply below_alloc | apply pw_below_drewN | apply below_drew1) | exact HB.out | exact ⟨HB.out.os, HB.out.tape, HB.out.output, HB.out.size, HB.out.block⟩)) hb); have n1_ := Aside0.mk (hbox); have n2_ := Aside0.mk ((by rw [hg]; exact (below_size (by repeat (first | (with_reducible first | exact HB.out | apply below_alloc | apply pw_below_drewN | apply below_drew1) | exact HB.out | exact ⟨HB.out.os, HB.out.tape, HB.out.output, HB.out.size, HB.out.block⟩))) : w.heap.size ≤ gb205)); have n3_ := Aside0.mk ((by rw [hg]; exact (below_size (by repeat (first | (with_reducible first | exact HB.out | apply below_alloc | apply pw_below_drewN | apply below_drew1) | exact HB.out | exact ⟨HB.out.os, HB.out.tape, HB.out.output, HB.out.size, HB.out.block⟩))) : w.heap.size ≤ gb205)); clear HB; have HB := n0_; have BK205 := n1_; have GW205 := n2_; have GE205 := n3_; clear n0_ n1_ n2_ n3_; clear hb hbox hg; have hcz4_0 : w3.cell? ⟨gb205, 0, none⟩ = some (.int .u8 a0_0) := (blk_cell BK205.out 0).trans rfl; have hcz4_1 : w3.cell? ⟨gb205, 1, none⟩ = some (.int .i64 a0_1) := (blk_cell BK205.out 1).trans rfl; have hcz4_2 : w3.cell? ⟨gb205, 2, none⟩ = some (.slice A0_2 l0_2.length c0_2) := (blk_cell BK205.out 2).trans rfl; have hcz4_3 : w3.cell? ⟨gb205, 3, none⟩ = some (.slice A0_3 l0_3.length c0_3) := (blk_cell BK205.out 3).trans rfl; have hfz4_0 := blk_frozen BK205.out 0; have hfz4_1 := blk_frozen BK205.out 1; have hfz4_2 := blk_frozen BK205.out 2; have hfz4_3 := blk_frozen BK205.out 3))
  go_ret
  exact ⟨by first | rfl | (simp [errW_none, errW_some] <;> rfl) | (simp [*, errW_none, errW_some] <;> rfl), by repeat (first | (with_reducible first | exact HB.out | apply below_alloc | apply pw_below_drewN | apply below_drew1 | refine below_set ?_ GE205.out) | exact HB.out | exact ⟨HB.out.os, HB.out.tape, HB.out.output, HB.out.size, HB.out.block⟩)⟩
 ·
  rw [if_neg c2] at H
  have c2b0 : decide (20 < (l0_2.length : Int)) = false := decide_eq_false c2
  have c2b1 : decide (20 < l0_2.length) = false := decide_eq_false (by omega)
  clear c2
  obtain rfl := Option.some.inj H
  go_enter Tryd.func21, Tryd.ntmps21
  go_wp2_with (first | ((with_reducible refine gate_dst (N := 1) rfl ?_); (try (refine gate_guard (by rfl) ?_; dsimp only)); refine box_event ?hg (N := 1) ?hd (cs := #[.int .u8 a0_0, .int .i64 a0_1, .slice A0_2 l0_2.length c0_2, .slice A0_3 l0_3.length c0_3]) (t := 43) ?hr ?_; (case hd => rfl); (case hg => rfl); (case hr => first | (go_simp; done) | (go_simp; rfl)); intro gb205 hg w5 hbox hb; have n0_ := Aside0.mk (below_step (by repeat (first | (with_reducible first | exact HB.out | apply below_alloc | apply pw_below_drewN | apply below_drew1) | exact HB.out | exact ⟨HB.out.os, HB.out.tape, HB.out.output, HB.out.size, HB.out.block⟩)) hb); have n1_ := Aside0.mk (hbox); have n2_ := Aside0.mk ((by rw [hg]; exact (below_size (by repeat (first | (with_reducible first | exact HB.out | apply below_alloc | apply pw_below_drewN | apply below_drew1) | exact HB.out | exact ⟨HB.out.os, HB.out.tape, HB.out.output, HB.out.size, HB.out.block⟩))) : w.heap.size ≤ gb205)); have n3_ := Aside0.mk ((by rw [hg]; exact (below_size (by repeat (first | (with_reducible first | exact HB.out | apply below_alloc | apply pw_below_drewN | apply below_drew1) | exact HB.out | exact ⟨HB.out.os, HB.out.tape, HB.out.output, HB.out.size, HB.out.block⟩))) : w.heap.size ≤ gb205)); clear HB; have HB := n0_; have BK205 := n1_; have GW205 := n2_; have GE205 := n3_; clear n0_ n1_ n2_ n3_; clear hb hbox hg; have hcz6_0 : w5.cell? ⟨gb205, 0, none⟩ = some (.int .u8 a0_0) := (blk_cell BK205.out 0).trans rfl; have hcz6_1 : w5.cell? ⟨gb205, 1, none⟩ = some (.int .i64 a0_1) := (blk_cell BK205.out 1).trans rfl; have hcz6_2 : w5.cell? ⟨gb205, 2, none⟩ = some (.slice A0_2 l0_2.length c0_2) := (blk_cell BK205.out 2).trans rfl; have hcz6_3 : w5.cell? ⟨gb205, 3, none⟩ = some (.slice A0_3 l0_3.length c0_3) := (blk_cell BK205.out 3).trans rfl; have hfz6_0 := blk_frozen BK205.out 0; have hfz6_1 := blk_frozen BK205.out 1; have hfz6_2 := blk_frozen BK205.out 2; have hfz6_3 := blk_frozen BK205.out 3))
  go_ret
  exact ⟨by first | rfl | (simp [errW_none, errW_some] <;> rfl) | (simp [*, errW_none, errW_some] <;> rfl), by repeat (first | (with_reducible first | exact HB.out | apply below_alloc | apply pw_below_drewN | apply below_drew1 | refine below_set ?_ GE205.out) | exact HB.out | exact ⟨HB.out.os, HB.out.tape, HB.out.output, HB.out.size, HB.out.block⟩)⟩

/-! ### capstanlaw20_EntryApart: function 8 -/
mutual
def capstanlaw20_EntryApart.j0 : Nat → Bool → Int → Int → Int → Int → List (S37) → List Int → Int → Int → Int → Int → List (S37) → List Int → Option (Bool)
 | 0, _, _, _, _, _, _, _, _, _, _, _, _, _ => none
 | k + 1, x23, x207000, x207001, x207002, x207003, x207004, x207005, x208000, x208001, x208002, x208003, x208004, x208005 => if x23 = true then (some true) else ((entry_Bytes.f k x207000 x207001 x207002 x207003 x207004 x207005).bind fun bt211 => ((entry_Bytes.f k x208000 x208001 x208002 x208003 x208004 x208005).bind fun bt215 => (if bt211.2 = 0 then (capstanlaw20_EntryApart.j1 k bt211.1 bt215.1 (bt215.2 != 0) x207000 x207001 x207002 x207003 x207004 x207005 x208000 x208001 x208002 x208003 x208004 x208005) else (capstanlaw20_EntryApart.j1 k bt211.1 bt215.1 true x207000 x207001 x207002 x207003 x207004 x207005 x208000 x208001 x208002 x208003 x208004 x208005))))
def capstanlaw20_EntryApart.j1 : Nat → List Int → List Int → Bool → Int → Int → Int → Int → List (S37) → List Int → Int → Int → Int → Int → List (S37) → List Int → Option (Bool)
 | 0, _, _, _, _, _, _, _, _, _, _, _, _, _, _, _ => none
 | k + 1, x5, x7, x39, x207000, x207001, x207002, x207003, x207004, x207005, x208000, x208001, x208002, x208003, x208004, x208005 => if x39 = true then (some true) else ((capstanref20_SameEntry.f k x207000 x207001 x207002 x207003 x207004 x207005 x208000 x208001 x208002 x208003 x208004 x208005).bind fun t219 => (if (((strOfNums x5).toList == (strOfNums x7).toList) != t219) = true then (none) else (capstanlaw20_EntryApart.j2 k x5 x7 t219 ((x5.length : Int) == 0))))
def capstanlaw20_EntryApart.j2 : Nat → List Int → List Int → Bool → Bool → Option (Bool)
 | 0, _, _, _, _ => none
 | k + 1, x5, x7, x9, x54 => if x54 = true then (none) else (if (x5.length : Int) ≤ (x7.length : Int) then (if x9 = true then (capstanlaw20_EntryApart.j3 k x5 false) else (if 0 ≤ (x5.length : Int) then (capstanlaw20_EntryApart.j3 k x5 ((strOfNums (x7.take ((x5.length : Int) : Int).toNat)).toList == (strOfNums x5).toList)) else (none))) else (capstanlaw20_EntryApart.j3 k x5 false))
def capstanlaw20_EntryApart.j3 : Nat → List Int → Bool → Option (Bool)
 | 0, _, _ => none
 | k + 1, x5, x73 => if x73 = true then (none) else (if 0 ≤ (wrap64 ((x5.length : Int) - 1)) then (if (wrap64 ((x5.length : Int) - 1)) ≤ (x5.length : Int) then ((entry_Parse.f k (x5.take ((wrap64 ((x5.length : Int) - 1)) : Int).toNat)).bind fun bt230 => ((some (([] : List Int) : List Int)).bind fun y242 => (if y242.length + x5.length < 140737488355328 then ((some (y242 ++ x5 : List Int)).bind fun y245 => (if y245.length < 140737488355328 then ((entry_Parse.f k (y245 ++ [0])).bind fun bt251 => (if bt230.2.2.2.2.2.2 = 200 then (some (bt251.2.2.2.2.2.2 == 200)) else (none))) else (none))) else (none)))) else (none)) else (none))
end
def capstanlaw20_EntryApart.f (k : Nat) (a0_0 : Int) (a0_1 : Int) (a0_2 : Int) (a0_3 : Int) (l0_4 : List (S37)) (l0_5 : List Int) (a1_0 : Int) (a1_1 : Int) (a1_2 : Int) (a1_3 : Int) (l1_4 : List (S37)) (l1_5 : List Int) : Option (Bool) := (capstanlaw20_awake.f k).bind fun t208 => (if t208 = true then ((capstanlaw20_Great.f a0_2 a0_3 l0_4 l0_5).bind fun t209 => (if t209 = true then (capstanlaw20_EntryApart.j0 k true a0_0 a0_1 a0_2 a0_3 l0_4 l0_5 a1_0 a1_1 a1_2 a1_3 l1_4 l1_5) else ((capstanlaw20_Great.f a1_2 a1_3 l1_4 l1_5).bind fun t210 => (capstanlaw20_EntryApart.j0 k t210 a0_0 a0_1 a0_2 a0_3 l0_4 l0_5 a1_0 a1_1 a1_2 a1_3 l1_4 l1_5)))) else (none))
theorem capstanlaw20_EntryApart.mono_l : ∀ k, (∀ y0 y1 y2 y3 y4 y5 y6 y7 y8 y9 y10 y11 y12, LeO (capstanlaw20_EntryApart.j0 k y0 y1 y2 y3 y4 y5 y6 y7 y8 y9 y10 y11 y12) (capstanlaw20_EntryApart.j0 (k + 1) y0 y1 y2 y3 y4 y5 y6 y7 y8 y9 y10 y11 y12)) ∧ (∀ y0 y1 y2 y3 y4 y5 y6 y7 y8 y9 y10 y11 y12 y13 y14, LeO (capstanlaw20_EntryApart.j1 k y0 y1 y2 y3 y4 y5 y6 y7 y8 y9 y10 y11 y12 y13 y14) (capstanlaw20_EntryApart.j1 (k + 1) y0 y1 y2 y3 y4 y5 y6 y7 y8 y9 y10 y11 y12 y13 y14)) ∧ (∀ y0 y1 y2 y3, LeO (capstanlaw20_EntryApart.j2 k y0 y1 y2 y3) (capstanlaw20_EntryApart.j2 (k + 1) y0 y1 y2 y3)) ∧ (∀ y0 y1, LeO (capstanlaw20_EntryApart.j3 k y0 y1) (capstanlaw20_EntryApart.j3 (k + 1) y0 y1))
 | 0 => ⟨fun _ _ _ _ _ _ _ _ _ _ _ _ _ r h => by simp [capstanlaw20_EntryApart.j0] at h, fun _ _ _ _ _ _ _ _ _ _ _ _ _ _ _ r h => by simp [capstanlaw20_EntryApart.j1] at h, fun _ _ _ _ r h => by simp [capstanlaw20_EntryApart.j2] at h, fun _ _ r h => by simp [capstanlaw20_EntryApart.j3] at h⟩
 | k + 1 => by
  obtain ⟨ih0, ih1, ih2, ih3⟩ := capstanlaw20_EntryApart.mono_l k
  refine ⟨?_, ?_, ?_, ?_⟩
  ·
   intro y0 y1 y2 y3 y4 y5 y6 y7 y8 y9 y10 y11 y12
   unfold capstanlaw20_EntryApart.j0
   repeat' first
   | (with_reducible exact ih0 _ _ _ _ _ _ _ _ _ _ _ _ _)
   | (with_reducible exact ih1 _ _ _ _ _ _ _ _ _ _ _ _ _ _ _)
   | (with_reducible exact ih2 _ _ _ _)
   | (with_reducible exact ih3 _ _)
   | (with_reducible exact capstanlaw20_awake.mono _)
   | (with_reducible exact capstanref20_SameEntry.mono _ _ _ _ _ _ _ _ _ _ _ _ _)
   | (with_reducible exact entry_Bytes.mono _ _ _ _ _ _ _)
   | (with_reducible exact entry_Parse.mono _ _)
   | (with_reducible exact LeO.refl _)
   | (with_reducible exact LeO.none _)
   | (with_reducible refine LeO.ite ?_ ?_)
   | (with_reducible refine LeO.bind ?_ (fun _ => ?_))
   | exact ih0 _ _ _ _ _ _ _ _ _ _ _ _ _
   | exact ih1 _ _ _ _ _ _ _ _ _ _ _ _ _ _ _
   | exact ih2 _ _ _ _
   | exact ih3 _ _
   | exact capstanlaw20_awake.mono _
   | exact capstanref20_SameEntry.mono _ _ _ _ _ _ _ _ _ _ _ _ _
   | exact entry_Bytes.mono _ _ _ _ _ _ _
   | exact entry_Parse.mono _ _
   | exact LeO.none _
   | refine LeO.ite ?_ ?_
   | refine LeO.bind ?_ (fun _ => ?_)
  ·
   intro y0 y1 y2 y3 y4 y5 y6 y7 y8 y9 y10 y11 y12 y13 y14
   unfold capstanlaw20_EntryApart.j1
   repeat' first
   | (with_reducible exact ih0 _ _ _ _ _ _ _ _ _ _ _ _ _)
   | (with_reducible exact ih1 _ _ _ _ _ _ _ _ _ _ _ _ _ _ _)
   | (with_reducible exact ih2 _ _ _ _)
   | (with_reducible exact ih3 _ _)
   | (with_reducible exact capstanlaw20_awake.mono _)
   | (with_reducible exact capstanref20_SameEntry.mono _ _ _ _ _ _ _ _ _ _ _ _ _)
   | (with_reducible exact entry_Bytes.mono _ _ _ _ _ _ _)
   | (with_reducible exact entry_Parse.mono _ _)
   | (with_reducible exact LeO.refl _)
   | (with_reducible exact LeO.none _)
   | (with_reducible refine LeO.ite ?_ ?_)
   | (with_reducible refine LeO.bind ?_ (fun _ => ?_))
   | exact ih0 _ _ _ _ _ _ _ _ _ _ _ _ _
   | exact ih1 _ _ _ _ _ _ _ _ _ _ _ _ _ _ _
   | exact ih2 _ _ _ _
   | exact ih3 _ _
   | exact capstanlaw20_awake.mono _
   | exact capstanref20_SameEntry.mono _ _ _ _ _ _ _ _ _ _ _ _ _
   | exact entry_Bytes.mono _ _ _ _ _ _ _
   | exact entry_Parse.mono _ _
   | exact LeO.none _
   | refine LeO.ite ?_ ?_
   | refine LeO.bind ?_ (fun _ => ?_)
  ·
   intro y0 y1 y2 y3
   unfold capstanlaw20_EntryApart.j2
   repeat' first
   | (with_reducible exact ih0 _ _ _ _ _ _ _ _ _ _ _ _ _)
   | (with_reducible exact ih1 _ _ _ _ _ _ _ _ _ _ _ _ _ _ _)
   | (with_reducible exact ih2 _ _ _ _)
   | (with_reducible exact ih3 _ _)
   | (with_reducible exact capstanlaw20_awake.mono _)
   | (with_reducible exact capstanref20_SameEntry.mono _ _ _ _ _ _ _ _ _ _ _ _ _)
   | (with_reducible exact entry_Bytes.mono _ _ _ _ _ _ _)
   | (with_reducible exact entry_Parse.mono _ _)
   | (with_reducible exact LeO.refl _)
   | (with_reducible exact LeO.none _)
   | (with_reducible refine LeO.ite ?_ ?_)
   | (with_reducible refine LeO.bind ?_ (fun _ => ?_))
   | exact ih0 _ _ _ _ _ _ _ _ _ _ _ _ _
   | exact ih1 _ _ _ _ _ _ _ _ _ _ _ _ _ _ _
   | exact ih2 _ _ _ _
   | exact ih3 _ _
   | exact capstanlaw20_awake.mono _
   | exact capstanref20_SameEntry.mono _ _ _ _ _ _ _ _ _ _ _ _ _
   | exact entry_Bytes.mono _ _ _ _ _ _ _
   | exact entry_Parse.mono _ _
   | exact LeO.none _
   | refine LeO.ite ?_ ?_
   | refine LeO.bind ?_ (fun _ => ?_)
  ·
   intro y0 y1
   unfold capstanlaw20_EntryApart.j3
   repeat' first
   | (with_reducible exact ih0 _ _ _ _ _ _ _ _ _ _ _ _ _)
   | (with_reducible exact ih1 _ _ _ _ _ _ _ _ _ _ _ _ _ _ _)
   | (with_reducible exact ih2 _ _ _ _)
   | (with_reducible exact ih3 _ _)
   | (with_reducible exact capstanlaw20_awake.mono _)
   | (with_reducible exact capstanref20_SameEntry.mono _ _ _ _ _ _ _ _ _ _ _ _ _)
   | (with_reducible exact entry_Bytes.mono _ _ _ _ _ _ _)
   | (with_reducible exact entry_Parse.mono _ _)
   | (with_reducible exact LeO.refl _)
   | (with_reducible exact LeO.none _)
   | (with_reducible refine LeO.ite ?_ ?_)
   | (with_reducible refine LeO.bind ?_ (fun _ => ?_))
   | exact ih0 _ _ _ _ _ _ _ _ _ _ _ _ _
   | exact ih1 _ _ _ _ _ _ _ _ _ _ _ _ _ _ _
   | exact ih2 _ _ _ _
   | exact ih3 _ _
   | exact capstanlaw20_awake.mono _
   | exact capstanref20_SameEntry.mono _ _ _ _ _ _ _ _ _ _ _ _ _
   | exact entry_Bytes.mono _ _ _ _ _ _ _
   | exact entry_Parse.mono _ _
   | exact LeO.none _
   | refine LeO.ite ?_ ?_
   | refine LeO.bind ?_ (fun _ => ?_)
theorem capstanlaw20_EntryApart.mono : ∀ a0 a1 a2 a3 a4 a5 a6 a7 a8 a9 a10 a11 k, LeO (capstanlaw20_EntryApart.f k a0 a1 a2 a3 a4 a5 a6 a7 a8 a9 a10 a11) (capstanlaw20_EntryApart.f (k + 1) a0 a1 a2 a3 a4 a5 a6 a7 a8 a9 a10 a11) := by
 intro a0 a1 a2 a3 a4 a5 a6 a7 a8 a9 a10 a11 k
 obtain ⟨ih0, ih1, ih2, ih3⟩ := capstanlaw20_EntryApart.mono_l k
 unfold capstanlaw20_EntryApart.f
 repeat' first
   | (with_reducible exact ih0 _ _ _ _ _ _ _ _ _ _ _ _ _)
   | (with_reducible exact ih1 _ _ _ _ _ _ _ _ _ _ _ _ _ _ _)
   | (with_reducible exact ih2 _ _ _ _)
   | (with_reducible exact ih3 _ _)
   | (with_reducible exact capstanlaw20_awake.mono _)
   | (with_reducible exact capstanref20_SameEntry.mono _ _ _ _ _ _ _ _ _ _ _ _ _)
   | (with_reducible exact entry_Bytes.mono _ _ _ _ _ _ _)
   | (with_reducible exact entry_Parse.mono _ _)
   | (with_reducible exact LeO.refl _)
   | (with_reducible exact LeO.none _)
   | (with_reducible refine LeO.ite ?_ ?_)
   | (with_reducible refine LeO.bind ?_ (fun _ => ?_))
   | exact ih0 _ _ _ _ _ _ _ _ _ _ _ _ _
   | exact ih1 _ _ _ _ _ _ _ _ _ _ _ _ _ _ _
   | exact ih2 _ _ _ _
   | exact ih3 _ _
   | exact capstanlaw20_awake.mono _
   | exact capstanref20_SameEntry.mono _ _ _ _ _ _ _ _ _ _ _ _ _
   | exact entry_Bytes.mono _ _ _ _ _ _ _
   | exact entry_Parse.mono _ _
   | exact LeO.none _
   | refine LeO.ite ?_ ?_
   | refine LeO.bind ?_ (fun _ => ?_)

end Go.Proofs.YtjidhcepdjdceaaDoor.G
