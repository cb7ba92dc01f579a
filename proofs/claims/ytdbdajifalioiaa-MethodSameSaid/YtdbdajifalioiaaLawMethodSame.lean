/- Contracts of the functions of this seat (each: the call of the function does what the plain Lean function of the same name tells; the conditions stand in each statement). Written by a program of this session and by hand; checked by Lean. -/
import Derived.Test.YtdbdajifalioiaaRows
import Derived.Test.YtdbdajifalioiaaQ12
import Derived.Test.YtdbdajifalioiaaPureMethodSame
import Derived.WalkKit
import Derived.ProofKit
import Derived.OpenShut
import Derived.ShutString
import Derived.ChangeOld
import Derived.Below
import Derived.SizedLaws
import Derived.Test.YtdbdajifalioiaaWSized
import Derived.Test.YtdbdajifalioiaaOpen
namespace Go.Proofs.Ytdbdajifalioiaa.methodSame
open Go.ChangeShapes Go.WideShapes Go.ChangeAt Go.RowKit
open Go.ChangeMaps (open_string shut_string)
set_option linter.unusedVariables false
open Go.Proofs.Ytdbdajifalioiaa.Q Go.Proofs.YtdbdajifalioiaaW.PrintWords
theorem own : ownKnob Try.prog.godebug = none := by kernel_rfl
theorem laidOut : laidOutB Try.prog = true := by kernel_rfl
def IsRow (k : IntKind) (w : World) (a : Option Addr) (len cap : Nat) (zs : List Int) : Prop :=
  (a = none ∧ len = 0 ∧ cap = 0 ∧ zs = []) ∨
  ∃ x, a = some x ∧ len ≤ cap ∧ cap ≤ maxLen ∧ zs.length = cap ∧ (∀ i, i < zs.length → w.cell? (x.add i) = some (.int k (zs.getD i 0))) ∧ ∀ n ∈ zs, (Lit.int k n).wf = true
set_option maxRecDepth 100000 in
theorem lifted (os : Os) (started : os.Started) (H : Type) (enc : TypeId × Value → H) :
    ReturnsInHanded {} Try.checked os 6 .any (Rows.methodSameSpec.pre6 enc Try.prog Try.f6 Rows.methodSameRow.domain false) (Rows.methodSameSpec.post enc Try.prog Try.f6 false true false false) := by
  refine returnsInHanded_of_change_sized (C := Try.checked) own started (by kernel_rfl) Try.func6
    (ChangeSpec.witness6 (enc := enc) (C := Try.checked) false ⟨#[], #[.agg #[.slice none 0 0, .slice none 0 0, .int .u8 0, .bool false, .int .i64 0, .int .i64 0, .int .i64 0, .slice none 0 0], .agg #[.slice none 0 0, .slice none 0 0, .int .u8 0, .bool false, .int .i64 0, .int .i64 0, .int .i64 0, .slice none 0 0], .slice none 0 0], []⟩ 8 (by kernel_rfl) (by kernel_rfl) (by kernel_rfl) (by kernel_rfl)) ?_
  intro W base args ds gs before hval0 hW hcnd hsz0 _
  have hsz : (DataW.weightsEach Try.prog (Try.f6.params.toList ++ Rows.methodSameSpec.plain.varTypes Try.prog) (ds ++ gs)).all (· ≤ reachBytes) = true := hsz0
  have hval : ∀ (j : Nat) t v, Try.f6.params[j]? = some t → args[j]? = some v → Value.okWide Try.prog W .any base t v := hval0
  have hW' := hW
  obtain ⟨p, q, hA0, hV, rfl, hfz, hnd⟩ := hW
  have hA : DataW.TrodAll enc Try.prog W 0 (fun _ => true) true Try.f6.params.toList args.toList ds p := hA0
  rw [Try.params6] at hA hval hsz
  obtain ⟨v0, vs0, d0, ds0, p0, q0, hargs, rfl, rfl, h0, r0⟩ := trodAll_cons hA
  obtain ⟨v1, vs1, d1, ds1, p1, q1, rfl, rfl, rfl, h1, r1⟩ := trodAll_cons r0
  obtain ⟨v2, vs2, d2, ds2, p2, q2, rfl, rfl, rfl, h2, r2⟩ := trodAll_cons r1
  obtain ⟨rfl, rfl, rfl⟩ := trodAll_nil r2
  obtain rfl : args = #[v0, v1, v2] := by cases args; simp_all
  obtain ⟨rfl, rfl⟩ := trodVars_none hV
  obtain ⟨cs0, rfl, hs0⟩ := okWide_struct Try.underlying25 (hval 0 25 v0 rfl rfl)
  have k0 := h0
  have lt0 : ∀ x ∈ p0, x.block < W.heap.size := by obtain ⟨m, hm⟩ := k0; exact DataW.trod_lt m _ _ _ hm
  obtain ⟨fuel0, hf0⟩ := h0
  have op0' := ((O.Opens.struct Try.underlying25 (by kernel_rfl) (O.OpensF.cons (O.Opens.slice Try.underlying22 (by kernel_rfl) (O.Opens.int Try.underlying5 (by kernel_rfl))) rfl (O.OpensF.cons (O.Opens.slice Try.underlying22 (by kernel_rfl) (O.Opens.int Try.underlying5 (by kernel_rfl))) rfl (O.OpensF.cons (O.Opens.int Try.underlying5 (by kernel_rfl)) rfl (O.OpensF.cons (O.Opens.bool Try.underlying4 (by kernel_rfl)) rfl (O.OpensF.cons (O.Opens.int Try.underlying3 (by kernel_rfl)) rfl (O.OpensF.cons (O.Opens.int Try.underlying3 (by kernel_rfl)) rfl (O.OpensF.cons (O.Opens.int Try.underlying3 (by kernel_rfl)) rfl (O.OpensF.one (O.Opens.slice Try.underlying23 (by kernel_rfl) ((O.Opens.struct Try.underlying114 (by kernel_rfl) (O.OpensF.cons (O.Opens.int Try.underlying5 (by kernel_rfl)) rfl (O.OpensF.cons (O.Opens.int Try.underlying3 (by kernel_rfl)) rfl (O.OpensF.one (O.Opens.int Try.underlying3 (by kernel_rfl)) rfl)))).iso (fun x : S114 => (x.f0, x.f1, x.f2)) (fun x => (⟨x.1, x.2.1, x.2.2⟩ : S114)) (fun _ => rfl))) rfl))))))))).iso (fun x : S25 => (x.f0, x.f1, x.f2, x.f3, x.f4, x.f5, x.f6, x.f7)) (fun x => (⟨x.1, x.2.1, x.2.2.1, x.2.2.2.1, x.2.2.2.2.1, x.2.2.2.2.2.1, x.2.2.2.2.2.2.1, x.2.2.2.2.2.2.2⟩ : S25)) (fun _ => rfl))
  have op0 : O.Opens Try.prog 25 k25 (fun x_ => (x_.f0.length ≤ maxLen ∧ ∀ y0_ ∈ x_.f0, (Lit.int .u8 y0_).wf = true) ∧ (x_.f1.length ≤ maxLen ∧ ∀ y0_ ∈ x_.f1, (Lit.int .u8 y0_).wf = true) ∧ (Lit.int .u8 x_.f2).wf = true ∧ True ∧ (Lit.int .i64 x_.f4).wf = true ∧ (Lit.int .i64 x_.f5).wf = true ∧ (Lit.int .i64 x_.f6).wf = true ∧ (x_.f7.length ≤ maxLen ∧ ∀ y0_ ∈ x_.f7, (Lit.int .u8 y0_.f0).wf = true ∧ (Lit.int .i64 y0_.f1).wf = true ∧ (Lit.int .i64 y0_.f2).wf = true)) := op0'
  obtain ⟨x0, kk0, g0⟩ := op0.2 _ _ _ _ _ _ _ _ hf0
  obtain ⟨A0_0, c0_0, A0_1, c0_1, A0_7, c0_7, e0, hc0_0, hr0_0, hc0_1, hr0_1, hc0_7, hr0_7⟩ := k25_open kk0
  obtain rfl : cs0 = #[.slice A0_0 x0.f0.length c0_0, .slice A0_1 x0.f1.length c0_1, .int .u8 x0.f2, .bool x0.f3, .int .i64 x0.f4, .int .i64 x0.f5, .int .i64 x0.f6, .slice A0_7 x0.f7.length c0_7] := by cases cs0; simpa [Value.cells] using e0
  obtain ⟨cs1, rfl, hs1⟩ := okWide_struct Try.underlying25 (hval 1 25 v1 rfl rfl)
  have k1 := h1
  have lt1 : ∀ x ∈ p1, x.block < W.heap.size := by obtain ⟨m, hm⟩ := k1; exact DataW.trod_lt m _ _ _ hm
  obtain ⟨fuel1, hf1⟩ := h1
  have op1' := ((O.Opens.struct Try.underlying25 (by kernel_rfl) (O.OpensF.cons (O.Opens.slice Try.underlying22 (by kernel_rfl) (O.Opens.int Try.underlying5 (by kernel_rfl))) rfl (O.OpensF.cons (O.Opens.slice Try.underlying22 (by kernel_rfl) (O.Opens.int Try.underlying5 (by kernel_rfl))) rfl (O.OpensF.cons (O.Opens.int Try.underlying5 (by kernel_rfl)) rfl (O.OpensF.cons (O.Opens.bool Try.underlying4 (by kernel_rfl)) rfl (O.OpensF.cons (O.Opens.int Try.underlying3 (by kernel_rfl)) rfl (O.OpensF.cons (O.Opens.int Try.underlying3 (by kernel_rfl)) rfl (O.OpensF.cons (O.Opens.int Try.underlying3 (by kernel_rfl)) rfl (O.OpensF.one (O.Opens.slice Try.underlying23 (by kernel_rfl) ((O.Opens.struct Try.underlying114 (by kernel_rfl) (O.OpensF.cons (O.Opens.int Try.underlying5 (by kernel_rfl)) rfl (O.OpensF.cons (O.Opens.int Try.underlying3 (by kernel_rfl)) rfl (O.OpensF.one (O.Opens.int Try.underlying3 (by kernel_rfl)) rfl)))).iso (fun x : S114 => (x.f0, x.f1, x.f2)) (fun x => (⟨x.1, x.2.1, x.2.2⟩ : S114)) (fun _ => rfl))) rfl))))))))).iso (fun x : S25 => (x.f0, x.f1, x.f2, x.f3, x.f4, x.f5, x.f6, x.f7)) (fun x => (⟨x.1, x.2.1, x.2.2.1, x.2.2.2.1, x.2.2.2.2.1, x.2.2.2.2.2.1, x.2.2.2.2.2.2.1, x.2.2.2.2.2.2.2⟩ : S25)) (fun _ => rfl))
  have op1 : O.Opens Try.prog 25 k25 (fun x_ => (x_.f0.length ≤ maxLen ∧ ∀ y0_ ∈ x_.f0, (Lit.int .u8 y0_).wf = true) ∧ (x_.f1.length ≤ maxLen ∧ ∀ y0_ ∈ x_.f1, (Lit.int .u8 y0_).wf = true) ∧ (Lit.int .u8 x_.f2).wf = true ∧ True ∧ (Lit.int .i64 x_.f4).wf = true ∧ (Lit.int .i64 x_.f5).wf = true ∧ (Lit.int .i64 x_.f6).wf = true ∧ (x_.f7.length ≤ maxLen ∧ ∀ y0_ ∈ x_.f7, (Lit.int .u8 y0_.f0).wf = true ∧ (Lit.int .i64 y0_.f1).wf = true ∧ (Lit.int .i64 y0_.f2).wf = true)) := op1'
  obtain ⟨x1, kk1, g1⟩ := op1.2 _ _ _ _ _ _ _ _ hf1
  obtain ⟨A1_0, c1_0, A1_1, c1_1, A1_7, c1_7, e1, hc1_0, hr1_0, hc1_1, hr1_1, hc1_7, hr1_7⟩ := k25_open kk1
  obtain rfl : cs1 = #[.slice A1_0 x1.f0.length c1_0, .slice A1_1 x1.f1.length c1_1, .int .u8 x1.f2, .bool x1.f3, .int .i64 x1.f4, .int .i64 x1.f5, .int .i64 x1.f6, .slice A1_7 x1.f7.length c1_7] := by cases cs1; simpa [Value.cells] using e1
  obtain ⟨b2, len2, cap2, rfl⟩ := okWide_slice Try.underlying23 (hval 2 23 v2 rfl rfl)
  have k2 := h2
  have lt2 : ∀ x ∈ p2, x.block < W.heap.size := by obtain ⟨m, hm⟩ := k2; exact DataW.trod_lt m _ _ _ hm
  obtain ⟨fuel2, hf2⟩ := h2
  have op2' := (O.Opens.slice Try.underlying23 (by kernel_rfl) ((O.Opens.struct Try.underlying114 (by kernel_rfl) (O.OpensF.cons (O.Opens.int Try.underlying5 (by kernel_rfl)) rfl (O.OpensF.cons (O.Opens.int Try.underlying3 (by kernel_rfl)) rfl (O.OpensF.one (O.Opens.int Try.underlying3 (by kernel_rfl)) rfl)))).iso (fun x : S114 => (x.f0, x.f1, x.f2)) (fun x => (⟨x.1, x.2.1, x.2.2⟩ : S114)) (fun _ => rfl)))
  have op2 : O.Opens Try.prog 23 (Kd.slice 114 k114) (fun x_ => x_.length ≤ maxLen ∧ ∀ y0_ ∈ x_, (Lit.int .u8 y0_.f0).wf = true ∧ (Lit.int .i64 y0_.f1).wf = true ∧ (Lit.int .i64 y0_.f2).wf = true) := op2'
  obtain ⟨x2, kk2, g2⟩ := op2.2 _ _ _ _ _ _ _ _ hf2
  obtain ⟨A2, c2, e2, hc2, hr2⟩ := kk2
  simp [Value.cells] at e2
  obtain ⟨rfl, rfl, rfl⟩ := e2
  clear hA0 hval0 hsz0 hsz
  refine (Q.capstanlaw07_MethodSame.walk Pure.MethodSame A0_0 c0_0 x0.f0 A0_1 c0_1 x0.f1 x0.f2 x0.f3 x0.f4 x0.f5 x0.f6 A0_7 c0_7 x0.f7 A1_0 c1_0 x1.f0 A1_1 c1_1 x1.f1 x1.f2 x1.f3 x1.f4 x1.f5 x1.f6 A1_7 c1_7 x1.f7 b2 _ x2 W hr0_0 hc0_0 hr0_1 hc0_1 hr0_7 hc0_7 g0 hr1_0 hc1_0 hr1_1 hc1_1 hr1_7 hc1_7 g1 hr2 hc2 g2).mono fun e W' ⟨he, bel⟩ => ?_
  subst he
  exact ⟨_, rfl, _, _, _, [], _, [], hW', trodAll_mk1 (shut_bool Try.underlying4 _), (trodAll_cons_mk (Below.trod laidOut (by kernel_rfl) (of_decide_eq_true (by kernel_rfl)) k0 bel lt0) (trodAll_cons_mk (Below.trod laidOut (by kernel_rfl) (of_decide_eq_true (by kernel_rfl)) k1 bel lt1) (trodAll_cons_mk (Below.trod laidOut (by kernel_rfl) (of_decide_eq_true (by kernel_rfl)) k2 bel lt2) trodAll_mk0))), rfl, bel.frame _, fun h => by cases h⟩
theorem over : Rows.methodSameRow.holds Try.pinned (OpenSpec.ofChange Rows.methodSameSpec) :=
  OpenClaim.holds_of_wide 6 Try.f6 rfl rfl rfl rfl rfl rfl rfl ⟨rfl, rfl, rfl, rfl, rfl⟩ rfl rfl rfl rfl rfl (by kernel_rfl) Try.func6 (by kernel_rfl)
    (of_decide_eq_true (by kernel_rfl)) (by unfold Func.isWrapper; first | (rw [if_pos (by decide +kernel)]; kernel_rfl) | (rw [if_neg (by decide +kernel)]; exact ⟨rfl, rfl⟩))
    (fun os started H enc _ => lifted os started H enc)
theorem proved : Rows.MethodSameSaid := over
#print axioms proved
end Go.Proofs.Ytdbdajifalioiaa.methodSame
namespace Go.Proofs.Ytdbdajifalioiaa
/-- The row, under a short name, for the claim. -/
theorem methodSame_holds : Rows.MethodSameSaid := methodSame.proved
end Go.Proofs.Ytdbdajifalioiaa
