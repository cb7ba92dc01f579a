/- Contracts of the functions of this seat (each: the call of the function does what the plain Lean function of the same name tells; the conditions stand in each statement). Written by a program of this session and by hand; checked by Lean. -/
import Derived.Test.YtahkaekiandchaaDoorR0
import Derived.Test.YtahkaekiandchaaDoorR2
import Derived.Test.YtahkaekiandchaaDoorR4
import Derived.Test.YtahkaekiandchaaDoorR5
import Derived.Test.YtahkaekiandchaaDoorR6
import Derived.Test.YtahkaekiandchaaDoorR7
import Derived.Test.YtahkaekiandchaaDoorR8
namespace Go.Proofs.YtahkaekiandchaaDoor.R
open Go.RowKit Go.Proofs.YtahkaekiandchaaDoorW.PrintWords Go.Proofs.YtahkaekiandchaaDoorW.PrintLast Go.Proofs.YtahkaekiandchaaDoorW.PrintMore
attribute [local go_sem] max2_int min2_int max_two min_two max_three min_three max_four min_four   -- for this text's walks alone
set_option linter.unusedVariables false
set_option linter.unusedSimpArgs false

/-! ### op_Of: function 23 -/
def op_Of.f (k : Nat) (a0 : Int) : Option (List Int × List Int × Bool) :=
  if a0 = 24 ∨ a0 = 27 then op_Of_g1.f k a0
  else if a0 = 9 ∨ a0 = 10 ∨ a0 = 11 ∨ a0 = 12 ∨ a0 = 13 ∨ a0 = 14 ∨ a0 = 15 ∨ a0 = 17 ∨ a0 = 18 then op_Of_g2.f k a0
  else if a0 = 16 ∨ a0 = 21 ∨ a0 = 25 then op_Of_g3.f k a0
  else if a0 = 19 ∨ a0 = 20 ∨ a0 = 22 ∨ a0 = 23 then op_Of_g4.f k a0
  else op_Of_g0.f k a0
theorem op_Of.mono : ∀ a0 k, LeO (op_Of.f k a0) (op_Of.f (k + 1) a0) := by
  intro a0 k
  unfold op_Of.f
  exact LeO.ite (op_Of_g1.mono _ _) (LeO.ite (op_Of_g2.mono _ _) (LeO.ite (op_Of_g3.mono _ _) (LeO.ite (op_Of_g4.mono _ _) (op_Of_g0.mono _ _))))
theorem op_Of.calls (k : Nat) (a0 : Int) (r1 : List Int) (r2 : List Int) (r3 : Bool) (w : World) (h : op_Of.f k a0 = some (r1, r2, r3)) :
    Calls Tryd.prog 23 #[.int .u8 a0] w fun e w' => ∃ v0_ v1_ : Value, e = .returned (.tuple #[.agg #[v0_, v1_], .bool r3]) ∧ Kd.R (Kd.int .u8) 5 w' w.heap.size (fun k_ => some k_ ≠ (v1_ : Value).ownBlock) v0_ r1 ∧ Kd.R (Kd.int .u8) 5 w' w.heap.size (fun k_ => some k_ ≠ (v0_ : Value).ownBlock) v1_ r2 ∧ Below w.heap.size w w' := by
  unfold op_Of.f at h
  split at h
  · exact op_Of_g1.calls k a0 r1 r2 r3 w h
  · split at h
    · exact op_Of_g2.calls k a0 r1 r2 r3 w h
    · split at h
      · exact op_Of_g3.calls k a0 r1 r2 r3 w h
      · split at h
        · exact op_Of_g4.calls k a0 r1 r2 r3 w h
        · exact op_Of_g0.calls k a0 r1 r2 r3 w h

/-! ### capstanlaw04_awake: function 22 -/
def capstanlaw04_awake.f (k : Nat)  : Option (Bool) := (op_Bounds.f k 28).bind fun bt493 => ((op_Bounds.f k 9).bind fun bt495 => ((op_Of.f k 7).bind fun bt497 => ((op_Name.f 19).bind fun t505 => (if t505.toList = ([112, 97, 100, 100] : List UInt8) then ((op_Name.f 33).bind fun t506 => (if t506.toList = ([] : List UInt8) then (if bt493.1 = 1 then (if bt493.2 = 100 then (if bt495.1 = 0 then (if bt495.2 = 0 then ((op_May.f k 1 31 0).bind fun t507 => (if t507 = true then ((op_May.f k 1 32 0).bind fun t508 => (if t508 = true then (none) else ((op_May.f k 0 0 1).bind fun t509 => (if t509 = true then (none) else (some (!bt497.2.2)))))) else (none))) else (none)) else (none)) else (none)) else (none)) else (none))) else (none)))))
theorem capstanlaw04_awake.mono : ∀ k, LeO (capstanlaw04_awake.f k ) (capstanlaw04_awake.f (k + 1) ) := by
  intro  k
  unfold capstanlaw04_awake.f
  repeat' first
      | (with_reducible exact op_Bounds.mono _ _)
      | (with_reducible exact op_May.mono _ _ _ _)
      | (with_reducible exact op_Of.mono _ _)
      | (with_reducible exact LeO.refl _)
      | (with_reducible exact LeO.none _)
      | (with_reducible refine LeO.ite ?_ ?_)
      | (with_reducible refine LeO.bind ?_ (fun _ => ?_))
      | exact op_Bounds.mono _ _
      | exact op_May.mono _ _ _ _
      | exact op_Of.mono _ _
      | exact LeO.none _
      | refine LeO.ite ?_ ?_
      | refine LeO.bind ?_ (fun _ => ?_)
set_option maxHeartbeats 8000000 in
set_option maxRecDepth 100000 in
theorem capstanlaw04_awake.calls (k : Nat)  (r : Bool) (w : World) (hG : Gl w) (h : capstanlaw04_awake.f k  = some r) :
    Calls Tryd.prog 22 #[] w fun e w' => e = .returned (.bool r) ∧ Below w.heap.size w w' := by
  have hu36 := Tryd.underlying36
  have hu26 := Tryd.underlying26
  have HG := Aside0.mk hG
  clear hG
  have HB := Aside0.mk (Below.refl w.heap.size w)
  have H : ((op_Bounds.f k 28).bind fun bt493 => ((op_Bounds.f k 9).bind fun bt495 => ((op_Of.f k 7).bind fun bt497 => ((op_Name.f 19).bind fun t505 => (if t505.toList = ([112, 97, 100, 100] : List UInt8) then ((op_Name.f 33).bind fun t506 => (if t506.toList = ([] : List UInt8) then (if bt493.1 = 1 then (if bt493.2 = 100 then (if bt495.1 = 0 then (if bt495.2 = 0 then ((op_May.f k 1 31 0).bind fun t507 => (if t507 = true then ((op_May.f k 1 32 0).bind fun t508 => (if t508 = true then (none) else ((op_May.f k 0 0 1).bind fun t509 => (if t509 = true then (none) else (some (!bt497.2.2)))))) else (none))) else (none)) else (none)) else (none)) else (none)) else (none))) else (none)))))) = some r := h
  clear h
  replace H := Option.bind_eq_some_iff.mp H
  obtain ⟨⟨t493, t494⟩, A10, H⟩ := H
  replace H : ((op_Bounds.f k 9).bind fun bt495 => ((op_Of.f k 7).bind fun bt497 => ((op_Name.f 19).bind fun t505 => (if t505.toList = ([112, 97, 100, 100] : List UInt8) then ((op_Name.f 33).bind fun t506 => (if t506.toList = ([] : List UInt8) then (if t493 = 1 then (if t494 = 100 then (if bt495.1 = 0 then (if bt495.2 = 0 then ((op_May.f k 1 31 0).bind fun t507 => (if t507 = true then ((op_May.f k 1 32 0).bind fun t508 => (if t508 = true then (none) else ((op_May.f k 0 0 1).bind fun t509 => (if t509 = true then (none) else (some (!bt497.2.2)))))) else (none))) else (none)) else (none)) else (none)) else (none)) else (none))) else (none))))) = some r := H
  have A1 := Aside0.mk A10
  clear A10
  replace H := Option.bind_eq_some_iff.mp H
  obtain ⟨⟨t495, t496⟩, A20, H⟩ := H
  replace H : ((op_Of.f k 7).bind fun bt497 => ((op_Name.f 19).bind fun t505 => (if t505.toList = ([112, 97, 100, 100] : List UInt8) then ((op_Name.f 33).bind fun t506 => (if t506.toList = ([] : List UInt8) then (if t493 = 1 then (if t494 = 100 then (if t495 = 0 then (if t496 = 0 then ((op_May.f k 1 31 0).bind fun t507 => (if t507 = true then ((op_May.f k 1 32 0).bind fun t508 => (if t508 = true then (none) else ((op_May.f k 0 0 1).bind fun t509 => (if t509 = true then (none) else (some (!bt497.2.2)))))) else (none))) else (none)) else (none)) else (none)) else (none)) else (none))) else (none)))) = some r := H
  have A2 := Aside0.mk A20
  clear A20
  replace H := Option.bind_eq_some_iff.mp H
  obtain ⟨⟨t497, t500, t503⟩, A30, H⟩ := H
  replace H : ((op_Name.f 19).bind fun t505 => (if t505.toList = ([112, 97, 100, 100] : List UInt8) then ((op_Name.f 33).bind fun t506 => (if t506.toList = ([] : List UInt8) then (if t493 = 1 then (if t494 = 100 then (if t495 = 0 then (if t496 = 0 then ((op_May.f k 1 31 0).bind fun t507 => (if t507 = true then ((op_May.f k 1 32 0).bind fun t508 => (if t508 = true then (none) else ((op_May.f k 0 0 1).bind fun t509 => (if t509 = true then (none) else (some (!t503)))))) else (none))) else (none)) else (none)) else (none)) else (none)) else (none))) else (none))) = some r := H
  have A3 := Aside0.mk A30
  clear A30
  replace H := Option.bind_eq_some_iff.mp H
  obtain ⟨t505, A40, H⟩ := H
  replace H : (if t505.toList = ([112, 97, 100, 100] : List UInt8) then ((op_Name.f 33).bind fun t506 => (if t506.toList = ([] : List UInt8) then (if t493 = 1 then (if t494 = 100 then (if t495 = 0 then (if t496 = 0 then ((op_May.f k 1 31 0).bind fun t507 => (if t507 = true then ((op_May.f k 1 32 0).bind fun t508 => (if t508 = true then (none) else ((op_May.f k 0 0 1).bind fun t509 => (if t509 = true then (none) else (some (!t503)))))) else (none))) else (none)) else (none)) else (none)) else (none)) else (none))) else (none)) = some r := H
  have A4 := Aside0.mk A40
  clear A40
  by_cases c5 : t505.toList = ([112, 97, 100, 100] : List UInt8)
  · rw [if_pos c5] at H
    have c5b0 : (t505.toList == ([112, 97, 100, 100] : List UInt8)) = true := beq_iff_eq.mpr c5
    have c5b1 : (t505.toList != ([112, 97, 100, 100] : List UInt8)) = false := bne_eq_false_iff_eq.mpr c5
    clear c5
    replace H := Option.bind_eq_some_iff.mp H
    obtain ⟨t506, A60, H⟩ := H
    replace H : (if t506.toList = ([] : List UInt8) then (if t493 = 1 then (if t494 = 100 then (if t495 = 0 then (if t496 = 0 then ((op_May.f k 1 31 0).bind fun t507 => (if t507 = true then ((op_May.f k 1 32 0).bind fun t508 => (if t508 = true then (none) else ((op_May.f k 0 0 1).bind fun t509 => (if t509 = true then (none) else (some (!t503)))))) else (none))) else (none)) else (none)) else (none)) else (none)) else (none)) = some r := H
    have A6 := Aside0.mk A60
    clear A60
    by_cases c7 : t506.toList = ([] : List UInt8)
    · rw [if_pos c7] at H
      have c7b0 : (t506.toList == ([] : List UInt8)) = true := beq_iff_eq.mpr c7
      have c7b1 : (t506.toList != ([] : List UInt8)) = false := bne_eq_false_iff_eq.mpr c7
      clear c7
      by_cases c8 : t493 = 1
      · rw [if_pos c8] at H
        have c8b0 : (t493 == 1) = true := beq_iff_eq.mpr c8
        have c8b1 : (t493 != 1) = false := bne_eq_false_iff_eq.mpr c8
        clear c8
        by_cases c9 : t494 = 100
        · rw [if_pos c9] at H
          have c9b0 : (t494 == 100) = true := beq_iff_eq.mpr c9
          have c9b1 : (t494 != 100) = false := bne_eq_false_iff_eq.mpr c9
          clear c9
          by_cases c10 : t495 = 0
          · rw [if_pos c10] at H
            have c10b0 : (t495 == 0) = true := beq_iff_eq.mpr c10
            have c10b1 : (t495 != 0) = false := bne_eq_false_iff_eq.mpr c10
            clear c10
            by_cases c11 : t496 = 0
            · rw [if_pos c11] at H
              have c11b0 : (t496 == 0) = true := beq_iff_eq.mpr c11
              have c11b1 : (t496 != 0) = false := bne_eq_false_iff_eq.mpr c11
              clear c11
              replace H := Option.bind_eq_some_iff.mp H
              obtain ⟨t507, A120, H⟩ := H
              replace H : (if t507 = true then ((op_May.f k 1 32 0).bind fun t508 => (if t508 = true then (none) else ((op_May.f k 0 0 1).bind fun t509 => (if t509 = true then (none) else (some (!t503)))))) else (none)) = some r := H
              have A12 := Aside0.mk A120
              clear A120
              by_cases c13 : t507 = true
              · subst c13
                have H1 : ((op_May.f k 1 32 0).bind fun t508 => (if t508 = true then (none) else ((op_May.f k 0 0 1).bind fun t509 => (if t509 = true then (none) else (some (!t503)))))) = some r := by rw [if_pos rfl] at H; exact H
                clear H
                have H := H1
                clear H1
                replace H := Option.bind_eq_some_iff.mp H
                obtain ⟨t508, A140, H⟩ := H
                replace H : (if t508 = true then (none) else ((op_May.f k 0 0 1).bind fun t509 => (if t509 = true then (none) else (some (!t503))))) = some r := H
                have A14 := Aside0.mk A140
                clear A140
                by_cases c15 : t508 = true
                · subst c15
                  have H1 : (none) = some r := by rw [if_pos rfl] at H; exact H
                  clear H
                  have H := H1
                  clear H1
                  exact absurd H (by simp)
                · replace c15 := Bool.eq_false_iff.mpr c15
                  subst c15
                  have H1 : ((op_May.f k 0 0 1).bind fun t509 => (if t509 = true then (none) else (some (!t503)))) = some r := by rw [if_neg (show ¬ (false = true) by decide)] at H; exact H
                  clear H
                  have H := H1
                  clear H1
                  replace H := Option.bind_eq_some_iff.mp H
                  obtain ⟨t509, A160, H⟩ := H
                  replace H : (if t509 = true then (none) else (some (!t503))) = some r := H
                  have A16 := Aside0.mk A160
                  clear A160
                  by_cases c17 : t509 = true
                  · subst c17
                    have H1 : (none) = some r := by rw [if_pos rfl] at H; exact H
                    clear H
                    have H := H1
                    clear H1
                    exact absurd H (by simp)
                  · replace c17 := Bool.eq_false_iff.mpr c17
                    subst c17
                    have H1 : (some (!t503)) = some r := by rw [if_neg (show ¬ (false = true) by decide)] at H; exact H
                    clear H
                    have H := H1
                    clear H1
                    obtain rfl := Option.some.inj H
                    go_enter Tryd.func22, Tryd.ntmps22
                    go_wp2_with (first | ((with_reducible refine gate_callee (f := 10) rfl ?_); refine goesL_ (some 8) rfl rfl Tryd.func10 (by kernel_rfl) rfl #[.int .u8 28] rfl (by (try simp only [List.map_toArray, List.map_cons, List.map_nil]); first | done | rfl | (simp only [List.length_drop, List.length_take]; rfl)) ?_; (with_reducible refine (op_Bounds.calls k 28 t493 t494 _ ?side1 A1.out).mono ?_); (case side1 => first | exact HG.out | ((repeat (first | exact HG.out | exact Gl.below HG.out HB.out | (with_reducible refine Gl.alloc ?_ _) | (with_reducible refine Gl.drewN ?_ _) | (with_reducible refine Gl.drew ?_))); done) | exact Gl.below HG.out (by repeat (first | (with_reducible first | exact HB.out | apply below_alloc | apply pw_below_drewN | apply below_drew1) | exact HB.out | exact ⟨HB.out.os, HB.out.tape, HB.out.output, HB.out.size, HB.out.block⟩))); rintro e w18 ⟨rfl, hb⟩; refine ⟨_, rfl, ?_⟩; have n0_ := Aside0.mk (below_step (by repeat (first | (with_reducible first | exact HB.out | apply below_alloc | apply pw_below_drewN | apply below_drew1) | exact HB.out | exact ⟨HB.out.os, HB.out.tape, HB.out.output, HB.out.size, HB.out.block⟩)) hb); clear HB; have HB := n0_; clear n0_; (try clear hb); (try clear hb2); (try clear hk); (try clear hi)) | ((with_reducible refine gate_callee (f := 10) rfl ?_); refine goesL_ (some 12) rfl rfl Tryd.func10 (by kernel_rfl) rfl #[.int .u8 9] rfl (by (try simp only [List.map_toArray, List.map_cons, List.map_nil]); first | done | rfl | (simp only [List.length_drop, List.length_take]; rfl)) ?_; (with_reducible refine (op_Bounds.calls k 9 t495 t496 _ ?side1 A2.out).mono ?_); (case side1 => first | exact HG.out | ((repeat (first | exact HG.out | exact Gl.below HG.out HB.out | (with_reducible refine Gl.alloc ?_ _) | (with_reducible refine Gl.drewN ?_ _) | (with_reducible refine Gl.drew ?_))); done) | exact Gl.below HG.out (by repeat (first | (with_reducible first | exact HB.out | apply below_alloc | apply pw_below_drewN | apply below_drew1) | exact HB.out | exact ⟨HB.out.os, HB.out.tape, HB.out.output, HB.out.size, HB.out.block⟩))); rintro e w19 ⟨rfl, hb⟩; refine ⟨_, rfl, ?_⟩; have n0_ := Aside0.mk (below_step (by repeat (first | (with_reducible first | exact HB.out | apply below_alloc | apply pw_below_drewN | apply below_drew1) | exact HB.out | exact ⟨HB.out.os, HB.out.tape, HB.out.output, HB.out.size, HB.out.block⟩)) hb); clear HB; have HB := n0_; clear n0_; (try clear hb); (try clear hb2); (try clear hk); (try clear hi)) | ((with_reducible refine gate_callee (f := 23) rfl ?_); refine goesL_ (some 16) rfl rfl Tryd.func23 (by kernel_rfl) rfl #[.int .u8 7] rfl (by (try simp only [List.map_toArray, List.map_cons, List.map_nil]); first | done | rfl | (simp only [List.length_drop, List.length_take]; rfl)) ?_; (with_reducible refine (op_Of.calls k 7 t497 t500 t503 _ A3.out).mono ?_); rintro e w20 ⟨v498, v501, rfl, ho0, ho1, hb⟩; refine ⟨_, rfl, ?_⟩; have n0_ := Aside0.mk (Kd.R_lower ho0 (below_size (by repeat (first | (with_reducible first | exact HB.out | apply below_alloc | apply pw_below_drewN | apply below_drew1) | exact HB.out | exact ⟨HB.out.os, HB.out.tape, HB.out.output, HB.out.size, HB.out.block⟩)))); have n1_ := Aside0.mk (Kd.R_lower ho1 (below_size (by repeat (first | (with_reducible first | exact HB.out | apply below_alloc | apply pw_below_drewN | apply below_drew1) | exact HB.out | exact ⟨HB.out.os, HB.out.tape, HB.out.output, HB.out.size, HB.out.block⟩)))); have n2_ := Aside0.mk (below_step (by repeat (first | (with_reducible first | exact HB.out | apply below_alloc | apply pw_below_drewN | apply below_drew1) | exact HB.out | exact ⟨HB.out.os, HB.out.tape, HB.out.output, HB.out.size, HB.out.block⟩)) hb); clear HB; have HO499 := n0_; have HO502 := n1_; have HB := n2_; clear n0_ n1_ n2_; (try clear hb); (try clear hb2); (try clear hk); (try clear hi); (try clear ho0); (try clear ho1)) | ((with_reducible refine gate_dst (N := 5) rfl ?_); refine box_event ?hg (N := 5) ?hd (cs := #[.slice none 0 0, .slice none 0 0]) (t := 36) ?hr ?_; (case hd => rfl); (case hg => rfl); (case hr => first | (go_simp; done) | (go_simp; rfl)); intro gb504 hg w21 hbox hb; have n0_ := Aside0.mk (Kd.R_below (by (with_reducible repeat (first | apply Kd.R_alloc | apply Kd.R_drewN | apply Kd.R_drew)); exact HO499.out) hb); have n1_ := Aside0.mk (Kd.R_below (by (with_reducible repeat (first | apply Kd.R_alloc | apply Kd.R_drewN | apply Kd.R_drew)); exact HO502.out) hb); have n2_ := Aside0.mk (below_step (by repeat (first | (with_reducible first | exact HB.out | apply below_alloc | apply pw_below_drewN | apply below_drew1) | exact HB.out | exact ⟨HB.out.os, HB.out.tape, HB.out.output, HB.out.size, HB.out.block⟩)) hb); have n3_ := Aside0.mk (hbox); have n4_ := Aside0.mk ((by rw [hg]; exact (below_size (by repeat (first | (with_reducible first | exact HB.out | apply below_alloc | apply pw_below_drewN | apply below_drew1) | exact HB.out | exact ⟨HB.out.os, HB.out.tape, HB.out.output, HB.out.size, HB.out.block⟩))) : w.heap.size ≤ gb504)); have n5_ := Aside0.mk ((by rw [hg]; exact (below_size (by repeat (first | (with_reducible first | exact HB.out | apply below_alloc | apply pw_below_drewN | apply below_drew1) | exact HB.out | exact ⟨HB.out.os, HB.out.tape, HB.out.output, HB.out.size, HB.out.block⟩))) : w.heap.size ≤ gb504)); clear HO499; clear HO502; clear HB; have HO499 := n0_; have HO502 := n1_; have HB := n2_; have BK504 := n3_; have GW504 := n4_; have GE504 := n5_; clear n0_ n1_ n2_ n3_ n4_ n5_; clear hb hbox hg; obtain ⟨Ao22, co22, eo22⟩ := Kd.R_slice HO499.out; subst eo22; have hcz23_0 : w21.cell? ⟨gb504, 0, none⟩ = some (.slice none 0 0) := (blk_cell BK504.out 0).trans rfl; have hcz23_1 : w21.cell? ⟨gb504, 1, none⟩ = some (.slice none 0 0) := (blk_cell BK504.out 1).trans rfl; have hfz23_0 := blk_frozen BK504.out 0; have hfz23_1 := blk_frozen BK504.out 1; obtain ⟨Ao24, co24, eo24⟩ := Kd.R_slice HO502.out; subst eo24) | ((with_reducible refine gate_callee (f := 14) rfl ?_); refine goesL_ (some 19) rfl rfl Tryd.func14 (by kernel_rfl) rfl #[.int .u8 19] rfl (by (try simp only [List.map_toArray, List.map_cons, List.map_nil]); first | done | rfl | (simp only [List.length_drop, List.length_take]; rfl)) ?_; (with_reducible refine (op_Name.calls 19 t505 _ ?side1 A4.out).mono ?_); (case side1 => first | exact HG.out | ((repeat (first | exact HG.out | exact Gl.below HG.out HB.out | (with_reducible refine Gl.alloc ?_ _) | (with_reducible refine Gl.drewN ?_ _) | (with_reducible refine Gl.drew ?_))); done) | exact Gl.below HG.out (by repeat (first | (with_reducible first | exact HB.out | apply below_alloc | apply pw_below_drewN | apply below_drew1 | refine below_set ?_ GE504.out) | exact HB.out | exact ⟨HB.out.os, HB.out.tape, HB.out.output, HB.out.size, HB.out.block⟩))); rintro e w' ⟨rfl, ⟨nd, rfl⟩⟩; refine ⟨_, rfl, ?_⟩) | (go_at_call 14; (with_reducible refine (op_Name.calls 33 t506 _ ?side1 A6.out).mono ?_); (case side1 => first | exact HG.out | ((repeat (first | exact HG.out | exact Gl.below HG.out HB.out | (with_reducible refine Gl.alloc ?_ _) | (with_reducible refine Gl.drewN ?_ _) | (with_reducible refine Gl.drew ?_))); done) | exact Gl.below HG.out (by repeat (first | (with_reducible first | exact HB.out | apply below_alloc | apply pw_below_drewN | apply below_drew1 | refine below_set ?_ GE504.out) | exact HB.out | exact ⟨HB.out.os, HB.out.tape, HB.out.output, HB.out.size, HB.out.block⟩))); rintro e w' ⟨rfl, ⟨nd, rfl⟩⟩) | ((fail_if_success (have h_ := w25)); go_at_call 16; (with_reducible refine (op_May.calls k 1 31 0 true _ ?side1 A12.out).mono ?_); (case side1 => first | exact HG.out | ((repeat (first | exact HG.out | exact Gl.below HG.out HB.out | (with_reducible refine Gl.alloc ?_ _) | (with_reducible refine Gl.drewN ?_ _) | (with_reducible refine Gl.drew ?_))); done) | exact Gl.below HG.out (by repeat (first | (with_reducible first | exact HB.out | apply below_alloc | apply pw_below_drewN | apply below_drew1 | refine below_set ?_ GE504.out) | exact HB.out | exact ⟨HB.out.os, HB.out.tape, HB.out.output, HB.out.size, HB.out.block⟩))); rintro e w25 ⟨rfl, hb⟩; have n0_ := Aside0.mk (Kd.R_below (by (with_reducible repeat (first | apply Kd.R_alloc | apply Kd.R_drewN | apply Kd.R_drew)); exact (Kd.R_mono (Kd.R_far (p := ⟨gb504, 1, none⟩) (Kd.R_far (p := ⟨gb504, 0, none⟩) (Kd.R_types HO499.out BK504.out (by decide)) (fun _ hk => hk.2) (.slice Ao22 t497.length co22)) (fun _ hk => hk.2) (.slice Ao24 t500.length co24)) (fun _ h_ => h_.1))) hb); have n1_ := Aside0.mk (Kd.R_below (by (with_reducible repeat (first | apply Kd.R_alloc | apply Kd.R_drewN | apply Kd.R_drew)); exact (Kd.R_mono (Kd.R_far (p := ⟨gb504, 1, none⟩) (Kd.R_far (p := ⟨gb504, 0, none⟩) (Kd.R_types HO502.out BK504.out (by decide)) (fun _ hk => hk.2) (.slice Ao22 t497.length co22)) (fun _ hk => hk.2) (.slice Ao24 t500.length co24)) (fun _ h_ => h_.1))) hb); have n2_ := Aside0.mk (blk_below (g := gb504) (o := .cells #[.slice Ao22 t497.length co22, .slice Ao24 t500.length co24] 36 (0, 0)) (by (with_reducible repeat (first | refine blk_drewN ?_ _ | refine blk_drew ?_ | refine blk_alloc ?_ _)); refine blk_put (cs := #[.slice Ao22 t497.length co22, .slice none 0 0]) ?_ 1 _ rfl; (with_reducible repeat (first | refine blk_drewN ?_ _ | refine blk_drew ?_ | refine blk_alloc ?_ _)); refine blk_put (cs := #[.slice none 0 0, .slice none 0 0]) ?_ 0 _ rfl; (with_reducible repeat (first | refine blk_drewN ?_ _ | refine blk_drew ?_ | refine blk_alloc ?_ _)); exact BK504.out) hb); have n3_ := Aside0.mk (below_step (by repeat (first | (with_reducible first | exact HB.out | apply below_alloc | apply pw_below_drewN | apply below_drew1 | refine below_set ?_ GE504.out) | exact HB.out | exact ⟨HB.out.os, HB.out.tape, HB.out.output, HB.out.size, HB.out.block⟩)) hb); clear HO499; clear HO502; clear BK504; clear HB; have HO499 := n0_; have HO502 := n1_; have BK504 := n2_; have HB := n3_; clear n0_ n1_ n2_ n3_; (try clear hb); (try clear hb2); (try clear hk); (try clear hi)) | ((fail_if_success (have h_ := w26)); go_at_call 16; (with_reducible refine (op_May.calls k 1 32 0 false _ ?side1 A14.out).mono ?_); (case side1 => first | exact HG.out | ((repeat (first | exact HG.out | exact Gl.below HG.out HB.out | (with_reducible refine Gl.alloc ?_ _) | (with_reducible refine Gl.drewN ?_ _) | (with_reducible refine Gl.drew ?_))); done) | exact Gl.below HG.out (by repeat (first | (with_reducible first | exact HB.out | apply below_alloc | apply pw_below_drewN | apply below_drew1 | refine below_set ?_ GE504.out) | exact HB.out | exact ⟨HB.out.os, HB.out.tape, HB.out.output, HB.out.size, HB.out.block⟩))); rintro e w26 ⟨rfl, hb⟩; have n0_ := Aside0.mk (Kd.R_below (by (with_reducible repeat (first | apply Kd.R_alloc | apply Kd.R_drewN | apply Kd.R_drew)); exact HO499.out) hb); have n1_ := Aside0.mk (Kd.R_below (by (with_reducible repeat (first | apply Kd.R_alloc | apply Kd.R_drewN | apply Kd.R_drew)); exact HO502.out) hb); have n2_ := Aside0.mk (blk_below (g := gb504) (o := .cells #[.slice Ao22 t497.length co22, .slice Ao24 t500.length co24] 36 (0, 0)) (by (with_reducible repeat (first | refine blk_drewN ?_ _ | refine blk_drew ?_ | refine blk_alloc ?_ _)); exact BK504.out) hb); have n3_ := Aside0.mk (below_step (by repeat (first | (with_reducible first | exact HB.out | apply below_alloc | apply pw_below_drewN | apply below_drew1 | refine below_set ?_ GE504.out) | exact HB.out | exact ⟨HB.out.os, HB.out.tape, HB.out.output, HB.out.size, HB.out.block⟩)) hb); clear HO499; clear HO502; clear BK504; clear HB; have HO499 := n0_; have HO502 := n1_; have BK504 := n2_; have HB := n3_; clear n0_ n1_ n2_ n3_; (try clear hb); (try clear hb2); (try clear hk); (try clear hi)) | ((fail_if_success (have h_ := w27)); go_at_call 16; (with_reducible refine (op_May.calls k 0 0 1 false _ ?side1 A16.out).mono ?_); (case side1 => first | exact HG.out | ((repeat (first | exact HG.out | exact Gl.below HG.out HB.out | (with_reducible refine Gl.alloc ?_ _) | (with_reducible refine Gl.drewN ?_ _) | (with_reducible refine Gl.drew ?_))); done) | exact Gl.below HG.out (by repeat (first | (with_reducible first | exact HB.out | apply below_alloc | apply pw_below_drewN | apply below_drew1 | refine below_set ?_ GE504.out) | exact HB.out | exact ⟨HB.out.os, HB.out.tape, HB.out.output, HB.out.size, HB.out.block⟩))); rintro e w27 ⟨rfl, hb⟩; have n0_ := Aside0.mk (Kd.R_below (by (with_reducible repeat (first | apply Kd.R_alloc | apply Kd.R_drewN | apply Kd.R_drew)); exact HO499.out) hb); have n1_ := Aside0.mk (Kd.R_below (by (with_reducible repeat (first | apply Kd.R_alloc | apply Kd.R_drewN | apply Kd.R_drew)); exact HO502.out) hb); have n2_ := Aside0.mk (blk_below (g := gb504) (o := .cells #[.slice Ao22 t497.length co22, .slice Ao24 t500.length co24] 36 (0, 0)) (by (with_reducible repeat (first | refine blk_drewN ?_ _ | refine blk_drew ?_ | refine blk_alloc ?_ _)); exact BK504.out) hb); have n3_ := Aside0.mk (below_step (by repeat (first | (with_reducible first | exact HB.out | apply below_alloc | apply pw_below_drewN | apply below_drew1 | refine below_set ?_ GE504.out) | exact HB.out | exact ⟨HB.out.os, HB.out.tape, HB.out.output, HB.out.size, HB.out.block⟩)) hb); clear HO499; clear HO502; clear BK504; clear HB; have HO499 := n0_; have HO502 := n1_; have BK504 := n2_; have HB := n3_; clear n0_ n1_ n2_ n3_; (try clear hb); (try clear hb2); (try clear hk); (try clear hi)))
                    go_ret
                    exact ⟨by first | rfl | (simp [errW_none, errW_some] <;> rfl) | (simp [*, errW_none, errW_some] <;> rfl), by repeat (first | (with_reducible first | exact HB.out | apply below_alloc | apply pw_below_drewN | apply below_drew1 | refine below_set ?_ GE504.out) | exact HB.out | exact ⟨HB.out.os, HB.out.tape, HB.out.output, HB.out.size, HB.out.block⟩)⟩
              · replace c13 := Bool.eq_false_iff.mpr c13
                subst c13
                have H1 : (none) = some r := by rw [if_neg (show ¬ (false = true) by decide)] at H; exact H
                clear H
                have H := H1
                clear H1
                exact absurd H (by simp)
            · rw [if_neg c11] at H
              exact absurd H (by simp)
          · rw [if_neg c10] at H
            exact absurd H (by simp)
        · rw [if_neg c9] at H
          exact absurd H (by simp)
      · rw [if_neg c8] at H
        exact absurd H (by simp)
    · rw [if_neg c7] at H
      exact absurd H (by simp)
  · rw [if_neg c5] at H
    exact absurd H (by simp)

end Go.Proofs.YtahkaekiandchaaDoor.R
