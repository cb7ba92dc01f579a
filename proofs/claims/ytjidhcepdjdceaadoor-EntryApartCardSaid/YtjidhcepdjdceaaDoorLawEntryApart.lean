/- Contracts of the functions of this seat (each: the call of the function does what the plain Lean function of the same name tells; the conditions stand in each statement). Written by a program of this session and by hand; checked by Lean. -/
import Derived.Test.YtjidhcepdjdceaaDoorRows
import Derived.Test.YtjidhcepdjdceaaDoorG8
import Derived.Test.YtjidhcepdjdceaaDoorPureEntryApart
import Derived.Test.YtjidhcepdjdceaaDoorLaid
import Derived.Test.YtjidhcepdjdceaaDoorTie
import Derived.Test.YtjidhcepdjdceaaDoorCards
import Derived.SevenTiedAt
import Derived.WalkKit
import Derived.ProofKit
import Derived.OpenShut
import Derived.ShutString
import Derived.ChangeOld
import Derived.Below
import Derived.SizedLaws
import Derived.Test.YtjidhcepdjdceaaDoorWSized
import Derived.Test.YtjidhcepdjdceaaDoorOpen
namespace Go.Proofs.YtjidhcepdjdceaaDoor.entryApart
open Go.ChangeShapes Go.WideShapes Go.ChangeAt Go.RowKit
open Go.ChangeMaps (open_string shut_string)
set_option linter.unusedVariables false
open Go.Proofs.YtjidhcepdjdceaaDoor.G Go.Proofs.YtjidhcepdjdceaaDoorW.PrintWords
theorem own : ownKnob Tryd.prog.godebug = none := by kernel_rfl
theorem laidOut : laidOutB Tryd.prog = true := by kernel_rfl
def IsRow (k : IntKind) (w : World) (a : Option Addr) (len cap : Nat) (zs : List Int) : Prop :=
  (a = none ∧ len = 0 ∧ cap = 0 ∧ zs = []) ∨
  ∃ x, a = some x ∧ len ≤ cap ∧ cap ≤ maxLen ∧ zs.length = cap ∧ (∀ i, i < zs.length → w.cell? (x.add i) = some (.int k (zs.getD i 0))) ∧ ∀ n ∈ zs, (Lit.int k n).wf = true
set_option maxRecDepth 100000 in
theorem lifted (os : Os) (started : os.Started) (H : Type) (enc : TypeId × Value → H) :
    ReturnsInHanded {} Tryd.checked os 8 .any (fun w args => (Rows.entryApartSpec.pre enc Tryd.prog Tryd.f8 Rows.entryApartRow.domain false w args ∧ laidMetH Tryd.prog Rows.entryApartRow.laid w) ∧ sizedMet enc Tryd.prog Tryd.f8 (OpenSpec.ofChange Rows.entryApartSpec) false w args) (Rows.entryApartSpec.post enc Tryd.prog Tryd.f8 false true false false) := by
  refine returnsInHanded_of_change_and (C := Tryd.checked) (X := fun w _ => laidMetH Tryd.prog Rows.entryApartRow.laid w) (fun _ _ _ hh h => h.of_heap hh) own started (by kernel_rfl) Tryd.func8
    (ChangeSpec.witness_at (enc := enc) (C := Tryd.checked) (os := os) (X := fun w _ => laidMetH Tryd.prog Rows.entryApartRow.laid w) false (laidWorld os) #[.agg #[.int .i64 0, .int .i64 0, .int .u8 0, .int .i64 0, .slice none 0 0, .slice none 0 0], .agg #[.int .i64 0, .int .i64 0, .int .u8 0, .int .i64 0, .slice none 0 0, .slice none 0 0]] 8 rfl (by kernel_rfl) (by kernel_rfl) (by kernel_rfl) (by kernel_rfl) (by kernel_rfl) (laidWorld_met os _)) ?_
  intro W base args ds gs before hval0 hW hcnd hsz0 hL _
  have hsz : (DataW.weightsEach Tryd.prog (Tryd.f8.params.toList ++ Rows.entryApartSpec.plain.varTypes Tryd.prog) (ds ++ gs)).all (· ≤ reachBytes) = true := hsz0
  have hval : ∀ (j : Nat) t v, Tryd.f8.params[j]? = some t → args[j]? = some v → Value.okWide Tryd.prog W .any base t v := hval0
  have hW' := hW
  obtain ⟨p, q, hA0, hV, rfl, hfz, hnd⟩ := hW
  have hA : DataW.TrodAll enc Tryd.prog W 0 (fun _ => true) true Tryd.f8.params.toList args.toList ds p := hA0
  rw [Tryd.params8] at hA hval hsz
  obtain ⟨v0, vs0, d0, ds0, p0, q0, hargs, rfl, rfl, h0, r0⟩ := trodAll_cons hA
  obtain ⟨v1, vs1, d1, ds1, p1, q1, rfl, rfl, rfl, h1, r1⟩ := trodAll_cons r0
  obtain ⟨rfl, rfl, rfl⟩ := trodAll_nil r1
  obtain rfl : args = #[v0, v1] := by cases args; simp_all
  obtain ⟨rfl, rfl⟩ := trodVars_none hV
  obtain ⟨cs0, rfl, hs0⟩ := okWide_struct Tryd.underlying45 (hval 0 45 v0 rfl rfl)
  have k0 := h0
  have lt0 : ∀ x ∈ p0, x.block < W.heap.size := by obtain ⟨m, hm⟩ := k0; exact DataW.trod_lt m _ _ _ hm
  obtain ⟨fuel0, hf0⟩ := h0
  have op0' := ((O.Opens.struct Tryd.underlying45 (by kernel_rfl) (O.OpensF.cons (O.Opens.int Tryd.underlying3 (by kernel_rfl)) rfl (O.OpensF.cons (O.Opens.int Tryd.underlying3 (by kernel_rfl)) rfl (O.OpensF.one ((O.Opens.struct Tryd.underlying43 (by kernel_rfl) (O.OpensF.cons (O.Opens.int Tryd.underlying5 (by kernel_rfl)) rfl (O.OpensF.cons (O.Opens.int Tryd.underlying3 (by kernel_rfl)) rfl (O.OpensF.cons (O.Opens.slice Tryd.underlying23 (by kernel_rfl) ((O.Opens.struct Tryd.underlying37 (by kernel_rfl) (O.OpensF.cons (O.Opens.int Tryd.underlying5 (by kernel_rfl)) rfl (O.OpensF.cons (O.Opens.int Tryd.underlying2 (by kernel_rfl)) rfl (O.OpensF.one (O.Opens.int Tryd.underlying2 (by kernel_rfl)) rfl)))).iso (fun x : S37 => (x.f0, x.f1, x.f2)) (fun x => (⟨x.1, x.2.1, x.2.2⟩ : S37)) (fun _ => rfl))) rfl (O.OpensF.one (O.Opens.slice Tryd.underlying22 (by kernel_rfl) (O.Opens.int Tryd.underlying5 (by kernel_rfl))) rfl))))).iso (fun x : S43 => (x.f0, x.f1, x.f2, x.f3)) (fun x => (⟨x.1, x.2.1, x.2.2.1, x.2.2.2⟩ : S43)) (fun _ => rfl)) rfl)))).iso (fun x : S45 => (x.f0, x.f1, x.f2)) (fun x => (⟨x.1, x.2.1, x.2.2⟩ : S45)) (fun _ => rfl))
  have op0 : O.Opens Tryd.prog 45 k45 (fun x_ => (Lit.int .i64 x_.f0).wf = true ∧ (Lit.int .i64 x_.f1).wf = true ∧ ((Lit.int .u8 x_.f2.f0).wf = true ∧ (Lit.int .i64 x_.f2.f1).wf = true ∧ (x_.f2.f2.length ≤ maxLen ∧ ∀ y0_ ∈ x_.f2.f2, (Lit.int .u8 y0_.f0).wf = true ∧ (Lit.int .i64 y0_.f1).wf = true ∧ (Lit.int .i64 y0_.f2).wf = true) ∧ (x_.f2.f3.length ≤ maxLen ∧ ∀ y0_ ∈ x_.f2.f3, (Lit.int .u8 y0_).wf = true))) := op0'
  obtain ⟨x0, kk0, g0⟩ := op0.2 _ _ _ _ _ _ _ _ hf0
  obtain ⟨A0_4, c0_4, A0_5, c0_5, e0, hc0_4, hr0_4, hc0_5, hr0_5⟩ := k45_open kk0
  obtain rfl : cs0 = #[.int .i64 x0.f0, .int .i64 x0.f1, .int .u8 x0.f2.f0, .int .i64 x0.f2.f1, .slice A0_4 x0.f2.f2.length c0_4, .slice A0_5 x0.f2.f3.length c0_5] := by cases cs0; simpa [Value.cells] using e0
  obtain ⟨cs1, rfl, hs1⟩ := okWide_struct Tryd.underlying45 (hval 1 45 v1 rfl rfl)
  have k1 := h1
  have lt1 : ∀ x ∈ p1, x.block < W.heap.size := by obtain ⟨m, hm⟩ := k1; exact DataW.trod_lt m _ _ _ hm
  obtain ⟨fuel1, hf1⟩ := h1
  have op1' := ((O.Opens.struct Tryd.underlying45 (by kernel_rfl) (O.OpensF.cons (O.Opens.int Tryd.underlying3 (by kernel_rfl)) rfl (O.OpensF.cons (O.Opens.int Tryd.underlying3 (by kernel_rfl)) rfl (O.OpensF.one ((O.Opens.struct Tryd.underlying43 (by kernel_rfl) (O.OpensF.cons (O.Opens.int Tryd.underlying5 (by kernel_rfl)) rfl (O.OpensF.cons (O.Opens.int Tryd.underlying3 (by kernel_rfl)) rfl (O.OpensF.cons (O.Opens.slice Tryd.underlying23 (by kernel_rfl) ((O.Opens.struct Tryd.underlying37 (by kernel_rfl) (O.OpensF.cons (O.Opens.int Tryd.underlying5 (by kernel_rfl)) rfl (O.OpensF.cons (O.Opens.int Tryd.underlying2 (by kernel_rfl)) rfl (O.OpensF.one (O.Opens.int Tryd.underlying2 (by kernel_rfl)) rfl)))).iso (fun x : S37 => (x.f0, x.f1, x.f2)) (fun x => (⟨x.1, x.2.1, x.2.2⟩ : S37)) (fun _ => rfl))) rfl (O.OpensF.one (O.Opens.slice Tryd.underlying22 (by kernel_rfl) (O.Opens.int Tryd.underlying5 (by kernel_rfl))) rfl))))).iso (fun x : S43 => (x.f0, x.f1, x.f2, x.f3)) (fun x => (⟨x.1, x.2.1, x.2.2.1, x.2.2.2⟩ : S43)) (fun _ => rfl)) rfl)))).iso (fun x : S45 => (x.f0, x.f1, x.f2)) (fun x => (⟨x.1, x.2.1, x.2.2⟩ : S45)) (fun _ => rfl))
  have op1 : O.Opens Tryd.prog 45 k45 (fun x_ => (Lit.int .i64 x_.f0).wf = true ∧ (Lit.int .i64 x_.f1).wf = true ∧ ((Lit.int .u8 x_.f2.f0).wf = true ∧ (Lit.int .i64 x_.f2.f1).wf = true ∧ (x_.f2.f2.length ≤ maxLen ∧ ∀ y0_ ∈ x_.f2.f2, (Lit.int .u8 y0_.f0).wf = true ∧ (Lit.int .i64 y0_.f1).wf = true ∧ (Lit.int .i64 y0_.f2).wf = true) ∧ (x_.f2.f3.length ≤ maxLen ∧ ∀ y0_ ∈ x_.f2.f3, (Lit.int .u8 y0_).wf = true))) := op1'
  obtain ⟨x1, kk1, g1⟩ := op1.2 _ _ _ _ _ _ _ _ hf1
  obtain ⟨A1_4, c1_4, A1_5, c1_5, e1, hc1_4, hr1_4, hc1_5, hr1_5⟩ := k45_open kk1
  obtain rfl : cs1 = #[.int .i64 x1.f0, .int .i64 x1.f1, .int .u8 x1.f2.f0, .int .i64 x1.f2.f1, .slice A1_4 x1.f2.f2.length c1_4, .slice A1_5 x1.f2.f3.length c1_5] := by cases cs1; simpa [Value.cells] using e1
  have hG := gl_of_laid hL
  clear hA0 hval0 hsz0 hsz hL
  refine (G.capstanlaw20_EntryApart.walk Pure.EntryApart x0.f0 x0.f1 x0.f2.f0 x0.f2.f1 A0_4 c0_4 x0.f2.f2 A0_5 c0_5 x0.f2.f3 x1.f0 x1.f1 x1.f2.f0 x1.f2.f1 A1_4 c1_4 x1.f2.f2 A1_5 c1_5 x1.f2.f3 W hG hr0_4 hc0_4 hr0_5 hc0_5 g0 hr1_4 hc1_4 hr1_5 hc1_5 g1).mono fun e W' ⟨he, bel⟩ => ?_
  subst he
  exact ⟨_, rfl, _, _, _, [], _, [], hW', trodAll_mk1 (shut_bool Tryd.underlying4 _), (trodAll_cons_mk (Below.trod laidOut (by kernel_rfl) (of_decide_eq_true (by kernel_rfl)) k0 bel lt0) (trodAll_cons_mk (Below.trod laidOut (by kernel_rfl) (of_decide_eq_true (by kernel_rfl)) k1 bel lt1) trodAll_mk0)), rfl, bel.frame _, fun h => by cases h⟩
theorem over : Rows.entryApartRow.holds Tryd.pinned (OpenSpec.ofChange Rows.entryApartSpec) :=
  OpenClaim.holds_of_wide 8 Tryd.f8 rfl rfl rfl rfl rfl rfl rfl ⟨rfl, rfl, rfl, rfl, rfl⟩ rfl rfl rfl rfl rfl (by kernel_rfl) Tryd.func8 (by kernel_rfl)
    (of_decide_eq_true (by kernel_rfl)) (by unfold Func.isWrapper; first | (rw [if_pos (by decide +kernel)]; kernel_rfl) | (rw [if_neg (by decide +kernel)]; exact ⟨rfl, rfl⟩))
    (fun os started H enc _ => lifted os started H enc)
theorem proved : Rows.EntryApartCardSaid :=
  Claim7.holds_tied_plain_at .later [] [.data] true (true, "0d72f3457b13226ab762e2f4ca2b0a3706e1ca2b5b55495bfc5725c76df94956") false
    over (fun _ h => by cases h) (by kernel_rfl) (fun _ h => by cases h) entryApart_row_tie rfl ⟨rfl, rfl⟩ (by kernel_rfl) rfl
    (fun f fn hf hfn => by
      obtain rfl : f = 8 := Option.some.inj ((show Tryd.prog.funcNamed "capstan/capstanlaw20.EntryApart" = some 8 by kernel_rfl).symm.trans hf) |>.symm
      obtain rfl : fn = Tryd.f8 := (Option.some.inj (Tryd.func8.symm.trans hfn)).symm
      exact ⟨by kernel_rfl, fun j t ht => by
        have hall : ((Tryd.f8.params.toList).all fun t => !(Tryd.prog.wantsStandIn t)) = true := by kernel_rfl
        have hm : t ∈ Tryd.f8.params.toList := List.mem_of_getElem? (by simpa using ht)
        have := List.all_eq_true.1 hall t hm
        exact (show Tryd.prog.wantsStandIn t = false from by simpa using this)⟩)
    (by kernel_rfl)
#print axioms proved
end Go.Proofs.YtjidhcepdjdceaaDoor.entryApart
namespace Go.Proofs.YtjidhcepdjdceaaDoor
/-- The row, under a short name, for the claim. -/
theorem entryApart_holds : Rows.EntryApartCardSaid := entryApart.proved
end Go.Proofs.YtjidhcepdjdceaaDoor
