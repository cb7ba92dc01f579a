/- Contracts of the functions of this seat (each: the call of the function does what the plain Lean function of the same name tells; the conditions stand in each statement). Written by a program of this session and by hand; checked by Lean. -/
import Derived.Test.YtjidhcepdjdceaaRows
import Derived.Test.YtjidhcepdjdceaaE10
import Derived.Test.YtjidhcepdjdceaaPureEntryTells
import Derived.WalkKit
import Derived.ProofKit
import Derived.OpenShut
import Derived.ShutString
import Derived.ChangeOld
import Derived.Below
import Derived.SizedLaws
import Derived.Test.YtjidhcepdjdceaaWSized
import Derived.Test.YtjidhcepdjdceaaOpen
namespace Go.Proofs.Ytjidhcepdjdceaa.entryTells
open Go.ChangeShapes Go.WideShapes Go.ChangeAt Go.RowKit
open Go.ChangeMaps (open_string shut_string)
set_option linter.unusedVariables false
open Go.Proofs.Ytjidhcepdjdceaa.E Go.Proofs.YtjidhcepdjdceaaW.PrintWords
theorem own : ownKnob Try.prog.godebug = none := by kernel_rfl
theorem laidOut : laidOutB Try.prog = true := by kernel_rfl
def IsRow (k : IntKind) (w : World) (a : Option Addr) (len cap : Nat) (zs : List Int) : Prop :=
  (a = none ∧ len = 0 ∧ cap = 0 ∧ zs = []) ∨
  ∃ x, a = some x ∧ len ≤ cap ∧ cap ≤ maxLen ∧ zs.length = cap ∧ (∀ i, i < zs.length → w.cell? (x.add i) = some (.int k (zs.getD i 0))) ∧ ∀ n ∈ zs, (Lit.int k n).wf = true
set_option maxRecDepth 100000 in
theorem lifted (os : Os) (started : os.Started) (H : Type) (enc : TypeId × Value → H) :
    ReturnsInHanded {} Try.checked os 4 .any (Rows.entryTellsSpec.pre6 enc Try.prog Try.f4 Rows.entryTellsRow.domain false) (Rows.entryTellsSpec.post enc Try.prog Try.f4 false true false false) := by
  refine returnsInHanded_of_change_sized (C := Try.checked) own started (by kernel_rfl) Try.func4
    (ChangeSpec.witness6 (enc := enc) (C := Try.checked) false ⟨#[], #[.agg #[.int .i64 0, .int .i64 0, .int .u8 0, .int .i64 0, .slice none 0 0, .slice none 0 0], .agg #[.int .u8 0, .int .i64 0, .slice none 0 0, .slice none 0 0]], []⟩ 8 (by kernel_rfl) (by kernel_rfl) (by kernel_rfl) (by kernel_rfl)) ?_
  intro W base args ds gs before hval0 hW hcnd hsz0 _
  have hsz : (DataW.weightsEach Try.prog (Try.f4.params.toList ++ Rows.entryTellsSpec.plain.varTypes Try.prog) (ds ++ gs)).all (· ≤ reachBytes) = true := hsz0
  have hval : ∀ (j : Nat) t v, Try.f4.params[j]? = some t → args[j]? = some v → Value.okWide Try.prog W .any base t v := hval0
  have hW' := hW
  obtain ⟨p, q, hA0, hV, rfl, hfz, hnd⟩ := hW
  have hA : DataW.TrodAll enc Try.prog W 0 (fun _ => true) true Try.f4.params.toList args.toList ds p := hA0
  rw [Try.params4] at hA hval hsz
  obtain ⟨v0, vs0, d0, ds0, p0, q0, hargs, rfl, rfl, h0, r0⟩ := trodAll_cons hA
  obtain ⟨v1, vs1, d1, ds1, p1, q1, rfl, rfl, rfl, h1, r1⟩ := trodAll_cons r0
  obtain ⟨rfl, rfl, rfl⟩ := trodAll_nil r1
  obtain rfl : args = #[v0, v1] := by cases args; simp_all
  obtain ⟨rfl, rfl⟩ := trodVars_none hV
  obtain ⟨cs0, rfl, hs0⟩ := okWide_struct Try.underlying42 (hval 0 42 v0 rfl rfl)
  have k0 := h0
  have lt0 : ∀ x ∈ p0, x.block < W.heap.size := by obtain ⟨m, hm⟩ := k0; exact DataW.trod_lt m _ _ _ hm
  obtain ⟨fuel0, hf0⟩ := h0
  have op0' := ((O.Opens.struct Try.underlying42 (by kernel_rfl) (O.OpensF.cons (O.Opens.int Try.underlying3 (by kernel_rfl)) rfl (O.OpensF.cons (O.Opens.int Try.underlying3 (by kernel_rfl)) rfl (O.OpensF.one ((O.Opens.struct Try.underlying40 (by kernel_rfl) (O.OpensF.cons (O.Opens.int Try.underlying5 (by kernel_rfl)) rfl (O.OpensF.cons (O.Opens.int Try.underlying3 (by kernel_rfl)) rfl (O.OpensF.cons (O.Opens.slice Try.underlying22 (by kernel_rfl) ((O.Opens.struct Try.underlying37 (by kernel_rfl) (O.OpensF.cons (O.Opens.int Try.underlying5 (by kernel_rfl)) rfl (O.OpensF.cons (O.Opens.int Try.underlying2 (by kernel_rfl)) rfl (O.OpensF.one (O.Opens.int Try.underlying2 (by kernel_rfl)) rfl)))).iso (fun x : S37 => (x.f0, x.f1, x.f2)) (fun x => (⟨x.1, x.2.1, x.2.2⟩ : S37)) (fun _ => rfl))) rfl (O.OpensF.one (O.Opens.slice Try.underlying26 (by kernel_rfl) (O.Opens.int Try.underlying5 (by kernel_rfl))) rfl))))).iso (fun x : S40 => (x.f0, x.f1, x.f2, x.f3)) (fun x => (⟨x.1, x.2.1, x.2.2.1, x.2.2.2⟩ : S40)) (fun _ => rfl)) rfl)))).iso (fun x : S42 => (x.f0, x.f1, x.f2)) (fun x => (⟨x.1, x.2.1, x.2.2⟩ : S42)) (fun _ => rfl))
  have op0 : O.Opens Try.prog 42 k42 (fun x_ => (Lit.int .i64 x_.f0).wf = true ∧ (Lit.int .i64 x_.f1).wf = true ∧ ((Lit.int .u8 x_.f2.f0).wf = true ∧ (Lit.int .i64 x_.f2.f1).wf = true ∧ (x_.f2.f2.length ≤ maxLen ∧ ∀ y0_ ∈ x_.f2.f2, (Lit.int .u8 y0_.f0).wf = true ∧ (Lit.int .i64 y0_.f1).wf = true ∧ (Lit.int .i64 y0_.f2).wf = true) ∧ (x_.f2.f3.length ≤ maxLen ∧ ∀ y0_ ∈ x_.f2.f3, (Lit.int .u8 y0_).wf = true))) := op0'
  obtain ⟨x0, kk0, g0⟩ := op0.2 _ _ _ _ _ _ _ _ hf0
  obtain ⟨A0_4, c0_4, A0_5, c0_5, e0, hc0_4, hr0_4, hc0_5, hr0_5⟩ := k42_open kk0
  obtain rfl : cs0 = #[.int .i64 x0.f0, .int .i64 x0.f1, .int .u8 x0.f2.f0, .int .i64 x0.f2.f1, .slice A0_4 x0.f2.f2.length c0_4, .slice A0_5 x0.f2.f3.length c0_5] := by cases cs0; simpa [Value.cells] using e0
  obtain ⟨cs1, rfl, hs1⟩ := okWide_struct Try.underlying40 (hval 1 40 v1 rfl rfl)
  have k1 := h1
  have lt1 : ∀ x ∈ p1, x.block < W.heap.size := by obtain ⟨m, hm⟩ := k1; exact DataW.trod_lt m _ _ _ hm
  obtain ⟨fuel1, hf1⟩ := h1
  have op1' := ((O.Opens.struct Try.underlying40 (by kernel_rfl) (O.OpensF.cons (O.Opens.int Try.underlying5 (by kernel_rfl)) rfl (O.OpensF.cons (O.Opens.int Try.underlying3 (by kernel_rfl)) rfl (O.OpensF.cons (O.Opens.slice Try.underlying22 (by kernel_rfl) ((O.Opens.struct Try.underlying37 (by kernel_rfl) (O.OpensF.cons (O.Opens.int Try.underlying5 (by kernel_rfl)) rfl (O.OpensF.cons (O.Opens.int Try.underlying2 (by kernel_rfl)) rfl (O.OpensF.one (O.Opens.int Try.underlying2 (by kernel_rfl)) rfl)))).iso (fun x : S37 => (x.f0, x.f1, x.f2)) (fun x => (⟨x.1, x.2.1, x.2.2⟩ : S37)) (fun _ => rfl))) rfl (O.OpensF.one (O.Opens.slice Try.underlying26 (by kernel_rfl) (O.Opens.int Try.underlying5 (by kernel_rfl))) rfl))))).iso (fun x : S40 => (x.f0, x.f1, x.f2, x.f3)) (fun x => (⟨x.1, x.2.1, x.2.2.1, x.2.2.2⟩ : S40)) (fun _ => rfl))
  have op1 : O.Opens Try.prog 40 k40 (fun x_ => (Lit.int .u8 x_.f0).wf = true ∧ (Lit.int .i64 x_.f1).wf = true ∧ (x_.f2.length ≤ maxLen ∧ ∀ y0_ ∈ x_.f2, (Lit.int .u8 y0_.f0).wf = true ∧ (Lit.int .i64 y0_.f1).wf = true ∧ (Lit.int .i64 y0_.f2).wf = true) ∧ (x_.f3.length ≤ maxLen ∧ ∀ y0_ ∈ x_.f3, (Lit.int .u8 y0_).wf = true)) := op1'
  obtain ⟨x1, kk1, g1⟩ := op1.2 _ _ _ _ _ _ _ _ hf1
  obtain ⟨A1_2, c1_2, A1_3, c1_3, e1, hc1_2, hr1_2, hc1_3, hr1_3⟩ := k40_open kk1
  obtain rfl : cs1 = #[.int .u8 x1.f0, .int .i64 x1.f1, .slice A1_2 x1.f2.length c1_2, .slice A1_3 x1.f3.length c1_3] := by cases cs1; simpa [Value.cells] using e1
  clear hA0 hval0 hsz0 hsz
  refine (E.capstanlaw20_EntryTells.walk Pure.EntryTells x0.f0 x0.f1 x0.f2.f0 x0.f2.f1 A0_4 c0_4 x0.f2.f2 A0_5 c0_5 x0.f2.f3 x1.f0 x1.f1 A1_2 c1_2 x1.f2 A1_3 c1_3 x1.f3 W hr0_4 hc0_4 hr0_5 hc0_5 g0 hr1_2 hc1_2 hr1_3 hc1_3 g1).mono fun e W' ⟨he, bel⟩ => ?_
  subst he
  exact ⟨_, rfl, _, _, _, [], _, [], hW', trodAll_mk1 (shut_bool Try.underlying4 _), (trodAll_cons_mk (Below.trod laidOut (by kernel_rfl) (of_decide_eq_true (by kernel_rfl)) k0 bel lt0) (trodAll_cons_mk (Below.trod laidOut (by kernel_rfl) (of_decide_eq_true (by kernel_rfl)) k1 bel lt1) trodAll_mk0)), rfl, bel.frame _, fun h => by cases h⟩
theorem over : Rows.entryTellsRow.holds Try.pinned (OpenSpec.ofChange Rows.entryTellsSpec) :=
  OpenClaim.holds_of_wide 4 Try.f4 rfl rfl rfl rfl rfl rfl rfl ⟨rfl, rfl, rfl, rfl, rfl⟩ rfl rfl rfl rfl rfl (by kernel_rfl) Try.func4 (by kernel_rfl)
    (of_decide_eq_true (by kernel_rfl)) (by unfold Func.isWrapper; first | (rw [if_pos (by decide +kernel)]; kernel_rfl) | (rw [if_neg (by decide +kernel)]; exact ⟨rfl, rfl⟩))
    (fun os started H enc _ => lifted os started H enc)
theorem proved : Rows.EntryTellsSaid := over
#print axioms proved
end Go.Proofs.Ytjidhcepdjdceaa.entryTells
namespace Go.Proofs.Ytjidhcepdjdceaa
/-- The row, under a short name, for the claim. -/
theorem entryTells_holds : Rows.EntryTellsSaid := entryTells.proved
end Go.Proofs.Ytjidhcepdjdceaa
