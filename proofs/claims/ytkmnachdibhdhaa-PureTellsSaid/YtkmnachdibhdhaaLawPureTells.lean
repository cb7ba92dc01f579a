/- Contracts of the functions of this seat (each: the call of the function does what the plain Lean function of the same name tells; the conditions stand in each statement). Written by a program of this session and by hand; checked by Lean. -/
import Derived.Test.YtkmnachdibhdhaaRows
import Derived.Test.YtkmnachdibhdhaaU18
import Derived.Test.YtkmnachdibhdhaaPurePureTells
import Derived.WalkKit
import Derived.ProofKit
import Derived.OpenShut
import Derived.ShutString
import Derived.ChangeOld
import Derived.Below
import Derived.SizedLaws
import Derived.Test.YtkmnachdibhdhaaWSized
import Derived.Test.YtkmnachdibhdhaaOpen
namespace Go.Proofs.Ytkmnachdibhdhaa.pureTells
open Go.ChangeShapes Go.WideShapes Go.ChangeAt Go.RowKit
open Go.ChangeMaps (open_string shut_string)
set_option linter.unusedVariables false
open Go.Proofs.Ytkmnachdibhdhaa.U Go.Proofs.YtkmnachdibhdhaaW.PrintWords
theorem own : ownKnob Try.prog.godebug = none := by kernel_rfl
theorem laidOut : laidOutB Try.prog = true := by kernel_rfl
def IsRow (k : IntKind) (w : World) (a : Option Addr) (len cap : Nat) (zs : List Int) : Prop :=
  (a = none ∧ len = 0 ∧ cap = 0 ∧ zs = []) ∨
  ∃ x, a = some x ∧ len ≤ cap ∧ cap ≤ maxLen ∧ zs.length = cap ∧ (∀ i, i < zs.length → w.cell? (x.add i) = some (.int k (zs.getD i 0))) ∧ ∀ n ∈ zs, (Lit.int k n).wf = true
set_option maxRecDepth 100000 in
theorem lifted (os : Os) (started : os.Started) (H : Type) (enc : TypeId × Value → H) :
    ReturnsInHanded {} Try.checked os 3 .any (Rows.pureTellsSpec.pre6 enc Try.prog Try.f3 Rows.pureTellsRow.domain false) (Rows.pureTellsSpec.post enc Try.prog Try.f3 false true false false) := by
  refine returnsInHanded_of_change_sized (C := Try.checked) own started (by kernel_rfl) Try.func3
    (ChangeSpec.witness6 (enc := enc) (C := Try.checked) false ⟨#[], #[.agg #[.slice none 0 0, .slice none 0 0, .slice none 0 0, .int .i64 0], .int .i64 0], []⟩ 8 (by kernel_rfl) (by kernel_rfl) (by kernel_rfl) (by kernel_rfl)) ?_
  intro W base args ds gs before hval0 hW hcnd hsz0 _
  have hsz : (DataW.weightsEach Try.prog (Try.f3.params.toList ++ Rows.pureTellsSpec.plain.varTypes Try.prog) (ds ++ gs)).all (· ≤ reachBytes) = true := hsz0
  have hval : ∀ (j : Nat) t v, Try.f3.params[j]? = some t → args[j]? = some v → Value.okWide Try.prog W .any base t v := hval0
  have hW' := hW
  obtain ⟨p, q, hA0, hV, rfl, hfz, hnd⟩ := hW
  have hA : DataW.TrodAll enc Try.prog W 0 (fun _ => true) true Try.f3.params.toList args.toList ds p := hA0
  rw [Try.params3] at hA hval hsz
  obtain ⟨v0, vs0, d0, ds0, p0, q0, hargs, rfl, rfl, h0, r0⟩ := trodAll_cons hA
  obtain ⟨v1, vs1, d1, ds1, p1, q1, rfl, rfl, rfl, h1, r1⟩ := trodAll_cons r0
  obtain ⟨rfl, rfl, rfl⟩ := trodAll_nil r1
  obtain rfl : args = #[v0, v1] := by cases args; simp_all
  obtain ⟨rfl, rfl⟩ := trodVars_none hV
  obtain ⟨cs0, rfl, hs0⟩ := okWide_struct Try.underlying25 (hval 0 25 v0 rfl rfl)
  have k0 := h0
  have lt0 : ∀ x ∈ p0, x.block < W.heap.size := by obtain ⟨m, hm⟩ := k0; exact DataW.trod_lt m _ _ _ hm
  obtain ⟨fuel0, hf0⟩ := h0
  have op0' := ((O.Opens.struct Try.underlying25 (by kernel_rfl) (O.OpensF.cons (O.Opens.slice Try.underlying22 (by kernel_rfl) ((O.Opens.struct Try.underlying86 (by kernel_rfl) (O.OpensF.cons (O.Opens.int Try.underlying5 (by kernel_rfl)) rfl (O.OpensF.cons (O.Opens.int Try.underlying2 (by kernel_rfl)) rfl (O.OpensF.one (O.Opens.int Try.underlying2 (by kernel_rfl)) rfl)))).iso (fun x : S86 => (x.f0, x.f1, x.f2)) (fun x => (⟨x.1, x.2.1, x.2.2⟩ : S86)) (fun _ => rfl))) rfl (O.OpensF.cons (O.Opens.slice Try.underlying22 (by kernel_rfl) ((O.Opens.struct Try.underlying86 (by kernel_rfl) (O.OpensF.cons (O.Opens.int Try.underlying5 (by kernel_rfl)) rfl (O.OpensF.cons (O.Opens.int Try.underlying2 (by kernel_rfl)) rfl (O.OpensF.one (O.Opens.int Try.underlying2 (by kernel_rfl)) rfl)))).iso (fun x : S86 => (x.f0, x.f1, x.f2)) (fun x => (⟨x.1, x.2.1, x.2.2⟩ : S86)) (fun _ => rfl))) rfl (O.OpensF.cons (O.Opens.slice Try.underlying23 (by kernel_rfl) ((O.Opens.struct Try.underlying52 (by kernel_rfl) (O.OpensF.cons (O.Opens.slice Try.underlying49 (by kernel_rfl) (O.Opens.int Try.underlying5 (by kernel_rfl))) rfl (O.OpensF.cons (O.Opens.slice Try.underlying49 (by kernel_rfl) (O.Opens.int Try.underlying5 (by kernel_rfl))) rfl (O.OpensF.cons (O.Opens.int Try.underlying5 (by kernel_rfl)) rfl (O.OpensF.cons (O.Opens.bool Try.underlying4 (by kernel_rfl)) rfl (O.OpensF.cons (O.Opens.int Try.underlying3 (by kernel_rfl)) rfl (O.OpensF.cons (O.Opens.int Try.underlying3 (by kernel_rfl)) rfl (O.OpensF.cons (O.Opens.int Try.underlying3 (by kernel_rfl)) rfl (O.OpensF.one (O.Opens.slice Try.underlying50 (by kernel_rfl) ((O.Opens.struct Try.underlying70 (by kernel_rfl) (O.OpensF.cons (O.Opens.int Try.underlying5 (by kernel_rfl)) rfl (O.OpensF.cons (O.Opens.int Try.underlying3 (by kernel_rfl)) rfl (O.OpensF.one (O.Opens.int Try.underlying3 (by kernel_rfl)) rfl)))).iso (fun x : S70 => (x.f0, x.f1, x.f2)) (fun x => (⟨x.1, x.2.1, x.2.2⟩ : S70)) (fun _ => rfl))) rfl))))))))).iso (fun x : S52 => (x.f0, x.f1, x.f2, x.f3, x.f4, x.f5, x.f6, x.f7)) (fun x => (⟨x.1, x.2.1, x.2.2.1, x.2.2.2.1, x.2.2.2.2.1, x.2.2.2.2.2.1, x.2.2.2.2.2.2.1, x.2.2.2.2.2.2.2⟩ : S52)) (fun _ => rfl))) rfl (O.OpensF.one (O.Opens.int Try.underlying3 (by kernel_rfl)) rfl))))).iso (fun x : S25 => (x.f0, x.f1, x.f2, x.f3)) (fun x => (⟨x.1, x.2.1, x.2.2.1, x.2.2.2⟩ : S25)) (fun _ => rfl))
  have op0 : O.Opens Try.prog 25 k25 (fun x_ => (x_.f0.length ≤ maxLen ∧ ∀ y0_ ∈ x_.f0, (Lit.int .u8 y0_.f0).wf = true ∧ (Lit.int .i64 y0_.f1).wf = true ∧ (Lit.int .i64 y0_.f2).wf = true) ∧ (x_.f1.length ≤ maxLen ∧ ∀ y0_ ∈ x_.f1, (Lit.int .u8 y0_.f0).wf = true ∧ (Lit.int .i64 y0_.f1).wf = true ∧ (Lit.int .i64 y0_.f2).wf = true) ∧ (x_.f2.length ≤ maxLen ∧ ∀ y0_ ∈ x_.f2, (y0_.f0.length ≤ maxLen ∧ ∀ y1_ ∈ y0_.f0, (Lit.int .u8 y1_).wf = true) ∧ (y0_.f1.length ≤ maxLen ∧ ∀ y1_ ∈ y0_.f1, (Lit.int .u8 y1_).wf = true) ∧ (Lit.int .u8 y0_.f2).wf = true ∧ True ∧ (Lit.int .i64 y0_.f4).wf = true ∧ (Lit.int .i64 y0_.f5).wf = true ∧ (Lit.int .i64 y0_.f6).wf = true ∧ (y0_.f7.length ≤ maxLen ∧ ∀ y1_ ∈ y0_.f7, (Lit.int .u8 y1_.f0).wf = true ∧ (Lit.int .i64 y1_.f1).wf = true ∧ (Lit.int .i64 y1_.f2).wf = true)) ∧ (Lit.int .i64 x_.f3).wf = true) := op0'
  obtain ⟨x0, kk0, g0⟩ := op0.2 _ _ _ _ _ _ _ _ hf0
  obtain ⟨A0_0, c0_0, A0_1, c0_1, A0_2, c0_2, e0, hc0_0, hr0_0, hc0_1, hr0_1, hc0_2, hr0_2⟩ := k25_open kk0
  obtain rfl : cs0 = #[.slice A0_0 x0.f0.length c0_0, .slice A0_1 x0.f1.length c0_1, .slice A0_2 x0.f2.length c0_2, .int .i64 x0.f3] := by cases cs0; simpa [Value.cells] using e0
  obtain ⟨a1, rfl, rfl, rfl, w1⟩ := open_int Try.underlying3 (hval 1 3 v1 rfl rfl) h1
  clear hA0 hval0 hsz0 hsz
  refine (U.capstanlaw13_PureTells.walk Pure.PureTells A0_0 c0_0 x0.f0 A0_1 c0_1 x0.f1 A0_2 c0_2 x0.f2 x0.f3 a1 W hr0_0 hc0_0 hr0_1 hc0_1 hr0_2 hc0_2 g0 w1).mono fun e W' ⟨he, bel⟩ => ?_
  subst he
  exact ⟨_, rfl, _, _, _, [], _, [], hW', trodAll_mk1 (shut_bool Try.underlying4 _), (trodAll_cons_mk (Below.trod laidOut (by kernel_rfl) (of_decide_eq_true (by kernel_rfl)) k0 bel lt0) (trodAll_cons_mk (shut_int Try.underlying3 w1) trodAll_mk0)), rfl, bel.frame _, fun h => by cases h⟩
theorem over : Rows.pureTellsRow.holds Try.pinned (OpenSpec.ofChange Rows.pureTellsSpec) :=
  OpenClaim.holds_of_wide 3 Try.f3 rfl rfl rfl rfl rfl rfl rfl ⟨rfl, rfl, rfl, rfl, rfl⟩ rfl rfl rfl rfl rfl (by kernel_rfl) Try.func3 (by kernel_rfl)
    (of_decide_eq_true (by kernel_rfl)) (by unfold Func.isWrapper; first | (rw [if_pos (by decide +kernel)]; kernel_rfl) | (rw [if_neg (by decide +kernel)]; exact ⟨rfl, rfl⟩))
    (fun os started H enc _ => lifted os started H enc)
theorem proved : Rows.PureTellsSaid := over
#print axioms proved
end Go.Proofs.Ytkmnachdibhdhaa.pureTells
namespace Go.Proofs.Ytkmnachdibhdhaa
/-- The row, under a short name, for the claim. -/
theorem pureTells_holds : Rows.PureTellsSaid := pureTells.proved
end Go.Proofs.Ytkmnachdibhdhaa
