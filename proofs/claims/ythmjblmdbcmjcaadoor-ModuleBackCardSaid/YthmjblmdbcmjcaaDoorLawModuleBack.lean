/- Contracts of the functions of this seat (each: the call of the function does what the plain Lean function of the same name tells; the conditions stand in each statement). Written by a program of this session and by hand; checked by Lean. -/
import Derived.Test.YthmjblmdbcmjcaaDoorRows
import Derived.Test.YthmjblmdbcmjcaaDoorB24
import Derived.Test.YthmjblmdbcmjcaaDoorPureModuleBack
import Derived.Test.YthmjblmdbcmjcaaDoorLaid
import Derived.Test.YthmjblmdbcmjcaaDoorTie
import Derived.Test.YthmjblmdbcmjcaaDoorCards
import Derived.SevenTiedAt
import Derived.WalkKit
import Derived.ProofKit
import Derived.OpenShut
import Derived.ShutString
import Derived.ChangeOld
import Derived.Below
import Derived.SizedLaws
import Derived.Test.YthmjblmdbcmjcaaDoorWSized
import Derived.Test.YthmjblmdbcmjcaaDoorOpen
namespace Go.Proofs.YthmjblmdbcmjcaaDoor.moduleBack
open Go.ChangeShapes Go.WideShapes Go.ChangeAt Go.RowKit
open Go.ChangeMaps (open_string shut_string)
set_option linter.unusedVariables false
open Go.Proofs.YthmjblmdbcmjcaaDoor.B Go.Proofs.YthmjblmdbcmjcaaDoorW.PrintWords
theorem own : ownKnob Tryd.prog.godebug = none := by kernel_rfl
theorem laidOut : laidOutB Tryd.prog = true := by kernel_rfl
def IsRow (k : IntKind) (w : World) (a : Option Addr) (len cap : Nat) (zs : List Int) : Prop :=
  (a = none ∧ len = 0 ∧ cap = 0 ∧ zs = []) ∨
  ∃ x, a = some x ∧ len ≤ cap ∧ cap ≤ maxLen ∧ zs.length = cap ∧ (∀ i, i < zs.length → w.cell? (x.add i) = some (.int k (zs.getD i 0))) ∧ ∀ n ∈ zs, (Lit.int k n).wf = true
set_option maxRecDepth 100000 in
theorem lifted (os : Os) (started : os.Started) (H : Type) (enc : TypeId × Value → H) :
    ReturnsInHanded {} Tryd.checked os 6 .any (fun w args => (Rows.moduleBackSpec.pre enc Tryd.prog Tryd.f6 Rows.moduleBackRow.domain false w args ∧ laidMetH Tryd.prog Rows.moduleBackRow.laid w) ∧ sizedMet enc Tryd.prog Tryd.f6 (OpenSpec.ofChange Rows.moduleBackSpec) false w args) (Rows.moduleBackSpec.post enc Tryd.prog Tryd.f6 false true false false) := by
  refine returnsInHanded_of_change_and (C := Tryd.checked) (X := fun w _ => laidMetH Tryd.prog Rows.moduleBackRow.laid w) (fun _ _ _ hh h => h.of_heap hh) own started (by kernel_rfl) Tryd.func6
    (ChangeSpec.witness_at (enc := enc) (C := Tryd.checked) (os := os) (X := fun w _ => laidMetH Tryd.prog Rows.moduleBackRow.laid w) false (laidWorld os) #[.agg #[.slice none 0 0, .slice none 0 0, .slice none 0 0, .int .i64 0], .slice none 0 0, .int .u8 0] 8 rfl (by kernel_rfl) (by kernel_rfl) (by kernel_rfl) (by kernel_rfl) (by kernel_rfl) (laidWorld_met os _)) ?_
  intro W base args ds gs before hval0 hW hcnd hsz0 hL _
  have hsz : (DataW.weightsEach Tryd.prog (Tryd.f6.params.toList ++ Rows.moduleBackSpec.plain.varTypes Tryd.prog) (ds ++ gs)).all (· ≤ reachBytes) = true := hsz0
  have hval : ∀ (j : Nat) t v, Tryd.f6.params[j]? = some t → args[j]? = some v → Value.okWide Tryd.prog W .any base t v := hval0
  have hW' := hW
  obtain ⟨p, q, hA0, hV, rfl, hfz, hnd⟩ := hW
  have hA : DataW.TrodAll enc Tryd.prog W 0 (fun _ => true) true Tryd.f6.params.toList args.toList ds p := hA0
  rw [Tryd.params6] at hA hval hsz
  obtain ⟨v0, vs0, d0, ds0, p0, q0, hargs, rfl, rfl, h0, r0⟩ := trodAll_cons hA
  obtain ⟨v1, vs1, d1, ds1, p1, q1, rfl, rfl, rfl, h1, r1⟩ := trodAll_cons r0
  obtain ⟨v2, vs2, d2, ds2, p2, q2, rfl, rfl, rfl, h2, r2⟩ := trodAll_cons r1
  obtain ⟨rfl, rfl, rfl⟩ := trodAll_nil r2
  obtain rfl : args = #[v0, v1, v2] := by cases args; simp_all
  obtain ⟨rfl, rfl⟩ := trodVars_none hV
  obtain ⟨cs0, rfl, hs0⟩ := okWide_struct Tryd.underlying26 (hval 0 26 v0 rfl rfl)
  have k0 := h0
  have lt0 : ∀ x ∈ p0, x.block < W.heap.size := by obtain ⟨m, hm⟩ := k0; exact DataW.trod_lt m _ _ _ hm
  obtain ⟨fuel0, hf0⟩ := h0
  have op0' := ((O.Opens.struct Tryd.underlying26 (by kernel_rfl) (O.OpensF.cons (O.Opens.slice Tryd.underlying23 (by kernel_rfl) ((O.Opens.struct Tryd.underlying73 (by kernel_rfl) (O.OpensF.cons (O.Opens.int Tryd.underlying5 (by kernel_rfl)) rfl (O.OpensF.cons (O.Opens.int Tryd.underlying2 (by kernel_rfl)) rfl (O.OpensF.one (O.Opens.int Tryd.underlying2 (by kernel_rfl)) rfl)))).iso (fun x : S73 => (x.f0, x.f1, x.f2)) (fun x => (⟨x.1, x.2.1, x.2.2⟩ : S73)) (fun _ => rfl))) rfl (O.OpensF.cons (O.Opens.slice Tryd.underlying23 (by kernel_rfl) ((O.Opens.struct Tryd.underlying73 (by kernel_rfl) (O.OpensF.cons (O.Opens.int Tryd.underlying5 (by kernel_rfl)) rfl (O.OpensF.cons (O.Opens.int Tryd.underlying2 (by kernel_rfl)) rfl (O.OpensF.one (O.Opens.int Tryd.underlying2 (by kernel_rfl)) rfl)))).iso (fun x : S73 => (x.f0, x.f1, x.f2)) (fun x => (⟨x.1, x.2.1, x.2.2⟩ : S73)) (fun _ => rfl))) rfl (O.OpensF.cons (O.Opens.slice Tryd.underlying24 (by kernel_rfl) ((O.Opens.struct Tryd.underlying47 (by kernel_rfl) (O.OpensF.cons (O.Opens.slice Tryd.underlying22 (by kernel_rfl) (O.Opens.int Tryd.underlying5 (by kernel_rfl))) rfl (O.OpensF.cons (O.Opens.slice Tryd.underlying22 (by kernel_rfl) (O.Opens.int Tryd.underlying5 (by kernel_rfl))) rfl (O.OpensF.cons (O.Opens.int Tryd.underlying5 (by kernel_rfl)) rfl (O.OpensF.cons (O.Opens.bool Tryd.underlying4 (by kernel_rfl)) rfl (O.OpensF.cons (O.Opens.int Tryd.underlying3 (by kernel_rfl)) rfl (O.OpensF.cons (O.Opens.int Tryd.underlying3 (by kernel_rfl)) rfl (O.OpensF.cons (O.Opens.int Tryd.underlying3 (by kernel_rfl)) rfl (O.OpensF.one (O.Opens.slice Tryd.underlying45 (by kernel_rfl) ((O.Opens.struct Tryd.underlying75 (by kernel_rfl) (O.OpensF.cons (O.Opens.int Tryd.underlying5 (by kernel_rfl)) rfl (O.OpensF.cons (O.Opens.int Tryd.underlying3 (by kernel_rfl)) rfl (O.OpensF.one (O.Opens.int Tryd.underlying3 (by kernel_rfl)) rfl)))).iso (fun x : S75 => (x.f0, x.f1, x.f2)) (fun x => (⟨x.1, x.2.1, x.2.2⟩ : S75)) (fun _ => rfl))) rfl))))))))).iso (fun x : S47 => (x.f0, x.f1, x.f2, x.f3, x.f4, x.f5, x.f6, x.f7)) (fun x => (⟨x.1, x.2.1, x.2.2.1, x.2.2.2.1, x.2.2.2.2.1, x.2.2.2.2.2.1, x.2.2.2.2.2.2.1, x.2.2.2.2.2.2.2⟩ : S47)) (fun _ => rfl))) rfl (O.OpensF.one (O.Opens.int Tryd.underlying3 (by kernel_rfl)) rfl))))).iso (fun x : S26 => (x.f0, x.f1, x.f2, x.f3)) (fun x => (⟨x.1, x.2.1, x.2.2.1, x.2.2.2⟩ : S26)) (fun _ => rfl))
  have op0 : O.Opens Tryd.prog 26 k26 (fun x_ => (x_.f0.length ≤ maxLen ∧ ∀ y0_ ∈ x_.f0, (Lit.int .u8 y0_.f0).wf = true ∧ (Lit.int .i64 y0_.f1).wf = true ∧ (Lit.int .i64 y0_.f2).wf = true) ∧ (x_.f1.length ≤ maxLen ∧ ∀ y0_ ∈ x_.f1, (Lit.int .u8 y0_.f0).wf = true ∧ (Lit.int .i64 y0_.f1).wf = true ∧ (Lit.int .i64 y0_.f2).wf = true) ∧ (x_.f2.length ≤ maxLen ∧ ∀ y0_ ∈ x_.f2, (y0_.f0.length ≤ maxLen ∧ ∀ y1_ ∈ y0_.f0, (Lit.int .u8 y1_).wf = true) ∧ (y0_.f1.length ≤ maxLen ∧ ∀ y1_ ∈ y0_.f1, (Lit.int .u8 y1_).wf = true) ∧ (Lit.int .u8 y0_.f2).wf = true ∧ True ∧ (Lit.int .i64 y0_.f4).wf = true ∧ (Lit.int .i64 y0_.f5).wf = true ∧ (Lit.int .i64 y0_.f6).wf = true ∧ (y0_.f7.length ≤ maxLen ∧ ∀ y1_ ∈ y0_.f7, (Lit.int .u8 y1_.f0).wf = true ∧ (Lit.int .i64 y1_.f1).wf = true ∧ (Lit.int .i64 y1_.f2).wf = true)) ∧ (Lit.int .i64 x_.f3).wf = true) := op0'
  obtain ⟨x0, kk0, g0⟩ := op0.2 _ _ _ _ _ _ _ _ hf0
  obtain ⟨A0_0, c0_0, A0_1, c0_1, A0_2, c0_2, e0, hc0_0, hr0_0, hc0_1, hr0_1, hc0_2, hr0_2⟩ := k26_open kk0
  obtain rfl : cs0 = #[.slice A0_0 x0.f0.length c0_0, .slice A0_1 x0.f1.length c0_1, .slice A0_2 x0.f2.length c0_2, .int .i64 x0.f3] := by cases cs0; simpa [Value.cells] using e0
  obtain ⟨a1, len1, cap1, rfl⟩ := okWide_slice Tryd.underlying22 (hval 1 22 v1 rfl rfl)
  have k1 := h1
  have lt1 : ∀ x ∈ p1, x.block < W.heap.size := by obtain ⟨m, hm⟩ := k1; exact DataW.trod_lt m _ _ _ hm
  obtain ⟨z1, w1⟩ : ∃ zs, IsRow .u8 W a1 len1 cap1 zs := by
    obtain ⟨fuel, hf⟩ := h1
    rcases open_ints Tryd.underlying22 Tryd.underlying5 (by kernel_rfl) hf with ⟨hcs, _⟩ | ⟨x, l, c, zs, hcs, _, hl, hm, hz, _, hcell, hwz⟩
    · simp [Value.cells] at hcs
      obtain ⟨rfl, rfl, rfl⟩ := hcs
      exact ⟨[], .inl ⟨rfl, rfl, rfl, rfl⟩⟩
    · simp [Value.cells] at hcs
      obtain ⟨rfl, rfl, rfl⟩ := hcs
      exact ⟨zs, .inr ⟨_, rfl, hl, hm, by simpa using hz, hcell, hwz⟩⟩
  have y1 : len1 * 1 ≤ 140737488351232 := Go.Proofs.YthmjblmdbcmjcaaDoorW.PrintWords.sized_ints hsz (j := 1) (t := 22) rfl rfl Tryd.underlying22 Tryd.underlying5 (by kernel_rfl) (by kernel_rfl) h1
  obtain ⟨a2, rfl, rfl, rfl, w2⟩ := open_int Tryd.underlying5 (hval 2 5 v2 rfl rfl) h2
  have hG := gl_of_laid hL
  clear hA0 hval0 hsz0 hsz hL
  refine (B.capstanlaw08_ModuleBack.walk Pure.ModuleBack A0_0 c0_0 x0.f0 A0_1 c0_1 x0.f1 A0_2 c0_2 x0.f2 x0.f3 a1 len1 cap1 z1 a2 W hG hr0_0 hc0_0 hr0_1 hc0_1 hr0_2 hc0_2 g0 w1 y1 w2).mono fun e W' ⟨he, bel⟩ => ?_
  subst he
  exact ⟨_, rfl, _, _, _, [], _, [], hW', trodAll_mk1 (shut_bool Tryd.underlying4 _), (trodAll_cons_mk (Below.trod laidOut (by kernel_rfl) (of_decide_eq_true (by kernel_rfl)) k0 bel lt0) (trodAll_cons_mk (Below.trod laidOut (by kernel_rfl) (of_decide_eq_true (by kernel_rfl)) k1 bel lt1) (trodAll_cons_mk (shut_int Tryd.underlying5 w2) trodAll_mk0))), rfl, bel.frame _, fun h => by cases h⟩
theorem over : Rows.moduleBackRow.holds Tryd.pinned (OpenSpec.ofChange Rows.moduleBackSpec) :=
  OpenClaim.holds_of_wide 6 Tryd.f6 rfl rfl rfl rfl rfl rfl rfl ⟨rfl, rfl, rfl, rfl, rfl⟩ rfl rfl rfl rfl rfl (by kernel_rfl) Tryd.func6 (by kernel_rfl)
    (of_decide_eq_true (by kernel_rfl)) (by unfold Func.isWrapper; first | (rw [if_pos (by decide +kernel)]; kernel_rfl) | (rw [if_neg (by decide +kernel)]; exact ⟨rfl, rfl⟩))
    (fun os started H enc _ => lifted os started H enc)
theorem proved : Rows.ModuleBackCardSaid :=
  Claim7.holds_tied_plain_at .later [] [.data, .data] true (true, "020409cb53cd6189169fa20cd18a305e73ff81312b2d3764a349fcd9657115d7") true
    over (fun _ h => by cases h) (by kernel_rfl) (fun _ h => by cases h) moduleBack_row_tie rfl ⟨rfl, rfl⟩ (by kernel_rfl) rfl
    (fun f fn hf hfn => by
      obtain rfl : f = 6 := Option.some.inj ((show Tryd.prog.funcNamed "capstan/capstanlaw08.ModuleBack" = some 6 by kernel_rfl).symm.trans hf) |>.symm
      obtain rfl : fn = Tryd.f6 := (Option.some.inj (Tryd.func6.symm.trans hfn)).symm
      exact ⟨by kernel_rfl, fun j t ht => by
        have hall : ((Tryd.f6.params.toList).all fun t => !(Tryd.prog.wantsStandIn t)) = true := by kernel_rfl
        have hm : t ∈ Tryd.f6.params.toList := List.mem_of_getElem? (by simpa using ht)
        have := List.all_eq_true.1 hall t hm
        exact (show Tryd.prog.wantsStandIn t = false from by simpa using this)⟩)
    (by kernel_rfl)
#print axioms proved
end Go.Proofs.YthmjblmdbcmjcaaDoor.moduleBack
namespace Go.Proofs.YthmjblmdbcmjcaaDoor
/-- The row, under a short name, for the claim. -/
theorem moduleBack_holds : Rows.ModuleBackCardSaid := moduleBack.proved
end Go.Proofs.YthmjblmdbcmjcaaDoor
