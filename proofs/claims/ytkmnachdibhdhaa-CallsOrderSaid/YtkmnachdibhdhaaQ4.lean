/- Contracts of the functions of this seat (each: the call of the function does what the plain Lean function of the same name tells; the conditions stand in each statement). Written by a program of this session and by hand; checked by Lean. -/
import Derived.Test.YtkmnachdibhdhaaQ0
import Derived.Test.YtkmnachdibhdhaaQ1
import Derived.Test.YtkmnachdibhdhaaQ2
namespace Go.Proofs.Ytkmnachdibhdhaa.Q
open Go.RowKit Go.Proofs.YtkmnachdibhdhaaW.PrintWords Go.Proofs.YtkmnachdibhdhaaW.PrintLast Go.Proofs.YtkmnachdibhdhaaW.PrintMore
attribute [local go_sem] max2_int min2_int max_two min_two max_three min_three max_four min_four   -- for this text's walks alone
set_option linter.unusedVariables false
set_option linter.unusedSimpArgs false

/-! ### calls_Deep: function 32 -/
section
/-! A region that draws its order, all of whose operations but the last only read: whatever order, the last one finds the same frame. -/
def rlOk (ops : Array Oper) (N : Nat) : Bool :=
  decide (ops.size = N + 1) && (List.range (N + 1)).all fun i => match ops[i]? with
    | some o => o.guard.isNone && (match o.op with | .defer _ => false | .select _ _ => false | _ => true) && (o.after.all fun e => !Region.binds .any e || decide (e.on < i)) &&
      (decide (i = N) || (o.dst.isSome &&
        (o.op.operands.toList.all fun x => match x with
          | .tmp t => (List.range N).all fun j => (ops[j]?.bind (·.dst)) != some t || o.after.any fun e => e.on == j && Region.binds .any e
          | _ => true) &&
        ((List.range (N + 1)).any fun j => decide (i < j) && (match ops[j]? with | some p => p.after.any fun e => e.on == i && Region.binds .any e | none => false))))
    | none => false
def rlPure (P : Program) (w : World) (full : Act) : List Oper → Prop
  | [] => True
  | o :: r => ((execOp full.eval o).run P w = .ok (.value (full.eval (.tmp (o.dst.getD 0)))) w ∧ o.about P w full.eval = none) ∧ rlPure P w full r
theorem rlPure_get {P : Program} {w : World} {full : Act} : ∀ {l : List Oper}, rlPure P w full l → ∀ (i : Nat) (o : Oper), l[i]? = some o → (execOp full.eval o).run P w = .ok (.value (full.eval (.tmp (o.dst.getD 0)))) w ∧ o.about P w full.eval = none := by
  intro l
  induction l with
  | nil => intro _ i o h; simp at h
  | cons p r ih =>
    intro h i o hi
    cases i with
    | zero =>
      obtain rfl : p = o := by simpa using hi
      exact h.1
    | succ i => exact ih h.2 i o (by simpa using hi)
def rlPut (a : Act) (ps : List (Nat × Value)) : Act := ps.foldl (fun b p => b.put (some p.1) p.2) a
theorem rlPut_size (ps : List (Nat × Value)) : ∀ a : Act, (rlPut a ps).tmps.size = a.tmps.size ∧ (rlPut a ps).defers = a.defers := by
  induction ps with
  | nil => intro a; exact ⟨rfl, rfl⟩
  | cons p r ih => intro a; have := ih (a.put (some p.1) p.2); exact ⟨this.1.trans (by simp [Act.put]), this.2⟩
theorem rlPut_far (ps : List (Nat × Value)) : ∀ (a : Act) (t : Nat), (∀ p ∈ ps, p.1 ≠ t) → (rlPut a ps).tmps[t]? = a.tmps[t]? := by
  induction ps with
  | nil => intro a t _; rfl
  | cons p r ih =>
    intro a t h
    refine (ih (a.put (some p.1) p.2) t (fun q hq => h q (List.mem_cons_of_mem _ hq))).trans ?_
    have := h p (List.mem_cons_self ..)
    simp [Act.put, Array.getElem?_setIfInBounds, this]
structure RlInv (ops : Array Oper) (N : Nat) (full : Act) (listed : Array Bool) (a : Act) : Prop where
  size : listed.size = N + 1
  tsize : a.tmps.size = full.tmps.size
  defers : a.defers = full.defers
  far : ∀ t, (∀ j o, j < N → ops[j]? = some o → o.dst ≠ some t) → a.tmps[t]? = full.tmps[t]?
  near : ∀ j o t, j < N → ops[j]? = some o → o.dst = some t → listed.getD j false = true → a.tmps[t]? = full.tmps[t]?
  shut : ∀ j o, ops[j]? = some o → listed.getD j false = true → ∀ e ∈ o.after, Region.binds .any e = true → listed.getD e.on false = true
  last : listed.getD N true = false
theorem rl_getD {listed : Array Bool} {j : Nat} (h : j < listed.size) : listed.getD j true = listed.getD j false := by simp [Array.getD, h]
theorem rl_set {listed : Array Bool} {i j : Nat} (hi : i < listed.size) : (listed.setIfInBounds i true).getD j false = if i = j then true else listed.getD j false := by
  rw [Array.getD_eq_getD_getElem?, Array.getD_eq_getD_getElem?, Array.getElem?_setIfInBounds]
  by_cases h : i = j
  · subst h; simp [hi]
  · simp [h]
theorem region_last {F : Fence} {n : Nat} {P : Program} {id : Nat} {ops : Array Oper} {Q : Exit → Act → World → Prop} {a : Act} {w : World} (N : Nat) (full : Act) (last : Oper) (ps : List (Nat × Value)) (hm : P.follows .mixedOrders = true) (hB : rlOk ops N = true) (hl : ops[N]? = some last)
    (hfull : full = rlPut a ps) (hps : ps.map (fun p => some p.1) = (ops.toList.take N).map (·.dst)) (hp : rlPure P w.drew full (ops.toList.take N)) (hlast : last.wpIn F n P full w.drew (fun a w => Q .normal a w) Q) :
    (Code.region id ops true).wpIn F n P Q a w := by
  refine wpIn_region_any hm ?_
  change wpAnyIn F n P .any ops Q ops.size (Array.replicate ops.size false) a w.drew
  unfold rlOk at hB
  rw [Bool.and_eq_true, decide_eq_true_eq] at hB
  obtain ⟨hsz, hall⟩ := hB
  have hop : ∀ i, i < N + 1 → ∃ o, ops[i]? = some o ∧ o.guard = none ∧ (∀ c, o.op ≠ .defer c) ∧ (∀ cs b, o.op ≠ .select cs b) ∧ (∀ e ∈ o.after, Region.binds .any e = true → e.on < i) ∧ (i < N → (∃ d, o.dst = some d) ∧ (∀ t, Operand.tmp t ∈ o.op.operands → ∀ j p, j < N → ops[j]? = some p → p.dst = some t → ∃ e ∈ o.after, e.on = j ∧ Region.binds .any e = true) ∧ ∃ j p, i < j ∧ j < N + 1 ∧ ops[j]? = some p ∧ ∃ e ∈ p.after, e.on = i ∧ Region.binds .any e = true) := by
    intro i hi
    have h := List.all_eq_true.1 hall i (List.mem_range.2 hi)
    cases ho : ops[i]? with
    | none => rw [ho] at h; cases h
    | some o =>
      rw [ho] at h
      simp only [Bool.and_eq_true, Bool.or_eq_true, decide_eq_true_eq, Option.isNone_iff_eq_none, Option.isSome_iff_exists] at h
      obtain ⟨⟨⟨h1, h2⟩, h3⟩, h4⟩ := h
      refine ⟨o, rfl, h1, ?_, ?_, ?_, ?_⟩
      · intro c hc; rw [hc] at h2; cases h2
      · intro cs b hc; rw [hc] at h2; cases h2
      · intro e he hb
        have := Array.all_eq_true'.1 h3 e he
        simpa [hb] using this
      · intro hiN
        rcases h4 with h4 | ⟨⟨h5, h6⟩, h7⟩
        · omega
        · refine ⟨h5, fun t ht j p hj hpj hpt => ?_, ?_⟩
          · have h8 := List.all_eq_true.1 h6 (.tmp t) (by simpa using ht)
            have h9 := List.all_eq_true.1 h8 j (List.mem_range.2 hj)
            rw [hpj] at h9
            simp only [Option.bind_some, hpt, bne_self_eq_false, Bool.false_or] at h9
            obtain ⟨e, he, h10⟩ := Array.any_eq_true'.1 h9
            rw [Bool.and_eq_true, beq_iff_eq] at h10
            exact ⟨e, he, h10⟩
          · obtain ⟨j, hj, h8⟩ := List.any_eq_true.1 h7
            rw [Bool.and_eq_true, decide_eq_true_eq] at h8
            cases hpj : ops[j]? with
            | none => rw [hpj] at h8; cases h8.2
            | some p =>
              rw [hpj] at h8
              obtain ⟨e, he, h10⟩ := Array.any_eq_true'.1 h8.2
              rw [Bool.and_eq_true, beq_iff_eq] at h10
              exact ⟨j, p, h8.1, List.mem_range.1 hj, hpj, e, he, h10⟩
  have hnone : ∀ i, N + 1 ≤ i → ops[i]? = none := fun i hi => Array.getElem?_eq_none (by omega)
  have htake : ∀ i o, i < N → ops[i]? = some o → (ops.toList.take N)[i]? = some o := fun i o hi ho => by rw [List.getElem?_take_of_lt hi, Array.getElem?_toList]; exact ho
  have main : ∀ fuel (listed : Array Bool) (b : Act), RlInv ops N full listed b → listed.toList.count false = fuel → wpAnyIn F n P .any ops Q fuel listed b w.drew := by
    intro fuel
    induction fuel with
    | zero =>
      intro listed b hI hc
      exfalso
      have h1 := List.count_eq_zero.1 hc
      have h2 := hI.last
      have h3 : N < listed.size := by have := hI.size; omega
      rw [Array.getD_eq_getD_getElem?, Array.getElem?_eq_getElem h3] at h2
      exact h1 (by have : listed[N] ∈ listed.toList := by simp
                   rw [show listed[N] = false from h2] at this; exact this)
    | succ fuel ih =>
      intro listed b hI hc
      have hls := hI.size
      have hready : ∀ i, i ∈ Region.ready .any ops listed → i < N + 1 ∧ listed.getD i false = false := by
        intro i hi
        obtain ⟨h1, o, ho, _⟩ := mem_ready.1 hi
        have hi2 : i < N + 1 := by
          rcases Nat.lt_or_ge i (N + 1) with h | h
          · exact h
          · rw [hnone i h] at ho; cases ho
        exact ⟨hi2, by rw [← rl_getD (by omega)]; exact h1⟩
      have hcount : ∀ i, i < N + 1 → listed.getD i false = false → (listed.setIfInBounds i true).toList.count false = fuel := by
        intro i hi hf
        have hi2 : i < listed.toList.length := by simp; omega
        rw [Array.toList_setIfInBounds, List.count_set hi2]
        have : listed.toList[i] = false := by
          have h3 : i < listed.size := by omega
          rw [Array.getD_eq_getD_getElem?, Array.getElem?_eq_getElem h3] at hf
          simpa using hf
        rw [this, hc]
        simp
      refine ⟨fun hr => ?_, fun i hi => ?_⟩
      · exfalso
        have key : ∀ i, i < N + 1 → listed.getD i false = true := by
          intro i
          induction i using Nat.strongRecOn with
          | _ i ihi =>
            intro hi
            cases hf : listed.getD i false with
            | true => rfl
            | false =>
              exfalso
              obtain ⟨o, ho, _, _, _, h4, _⟩ := hop i hi
              have : i ∈ Region.ready .any ops listed := mem_ready.2 ⟨by rw [rl_getD (by omega)]; exact hf, o, ho, fun e he hb => ihi e.on (h4 e he hb) (by have := h4 e he hb; omega)⟩
              rw [hr] at this
              cases this
        have h1 := key N (by omega)
        have h2 := hI.last
        rw [rl_getD (by omega), h1] at h2
        cases h2
      · obtain ⟨hi1, hif⟩ := hready i hi
        obtain ⟨_, o', ho', hdep⟩ := mem_ready.1 hi
        obtain ⟨o, ho, hg, hdf, hsl, hlt, hin⟩ := hop i hi1
        obtain rfl : o = o' := by rw [ho] at ho'; injection ho'
        have hw : ∀ c : Act, Region.wanted o (yielded ops c.tmps) = true := fun c => by unfold Region.wanted; rw [hg]
        unfold wpOpIn
        rw [ho]
        simp only [hw, if_true]
        by_cases hiN : i < N
        · obtain ⟨⟨d, hd⟩, hopd, j, p, hij, hj1, hpj, e, he, heo, heb⟩ := hin hiN
          have hsame : ∀ x ∈ o.op.operands, b.eval x = full.eval x := by
            intro x hx
            cases x with
            | tmp t =>
              show b.tmps.getD t undef = full.tmps.getD t undef
              rw [Array.getD_eq_getD_getElem?, Array.getD_eq_getD_getElem?]
              congr 1
              by_cases hex : ∃ j q, j < N ∧ ops[j]? = some q ∧ q.dst = some t
              · obtain ⟨j, q, hj, hq, hqt⟩ := hex
                obtain ⟨e, he, rfl, heb⟩ := hopd t hx j q hj hq hqt
                exact hI.near e.on q t hj hq hqt (hdep e he heb)
              · exact hI.far t (fun j q hj hq hqt => hex ⟨j, q, hj, hq, hqt⟩)
            | _ => rfl
          obtain ⟨hrun, hab⟩ := rlPure_get hp i o (htake i o hiN ho)
          rw [hd] at hrun
          unfold Oper.wpIn
          refine ⟨fun f hf => (by rw [about_congr o w.drew hsame, hab] at hf; cases hf), ?_⟩
          rw [Oper.semAt_eq _ _ _ hdf, execOp_congr o hsl hsame, hrun]
          show wpAnyIn F n P .any ops Q fuel (listed.setIfInBounds i true) (b.put o.dst (full.eval (.tmp d))) w.drew
          rw [hd]
          refine ih _ _ ⟨by simpa using hls, ?_, hI.defers, ?_, ?_, ?_, ?_⟩ (hcount i hi1 hif)
          · simpa [Act.put] using hI.tsize
          · intro t ht
            have hdt : d ≠ t := fun e => ht i o hiN ho (by rw [hd, e])
            simpa [Act.put, Array.getElem?_setIfInBounds, hdt] using hI.far t ht
          · intro j q t hj hq hqt hlj
            by_cases hdt : d = t
            · subst hdt
              by_cases hds : d < full.tmps.size
              · simp [Act.put, hI.tsize, hds, Act.eval]
              · have hle : full.tmps.size ≤ (d : Nat) := Nat.le_of_not_lt hds
                have e1 : (b.put (some d) (full.eval (.tmp d))).tmps[d]? = none := Array.getElem?_eq_none (by simpa [Act.put, hI.tsize] using hle)
                have e2 : full.tmps[d]? = none := Array.getElem?_eq_none hle
                rw [e1, e2]
            · have h2 : b.tmps[t]? = full.tmps[t]? := by
                refine hI.near j q t hj hq hqt ?_
                rw [rl_set (by omega)] at hlj
                by_cases hij2 : i = j
                · subst hij2
                  rw [ho] at hq
                  cases hq
                  rw [hd] at hqt
                  exact absurd (by injection hqt) hdt
                · rwa [if_neg hij2] at hlj
              simpa [Act.put, Array.getElem?_setIfInBounds, hdt] using h2
          · intro j q hq hlj e he hb
            rw [rl_set (by omega)] at hlj ⊢
            by_cases h1 : i = e.on
            · rw [if_pos h1]
            · rw [if_neg h1]
              by_cases h2 : i = j
              · subst h2
                rw [ho] at hq
                cases hq
                exact hdep e he hb
              · rw [if_neg h2] at hlj
                exact hI.shut j q hq hlj e he hb
          · rw [rl_getD (by simp; omega), rl_set (by omega), if_neg (by omega), ← rl_getD (by omega)]
            exact hI.last
        · obtain rfl : i = N := by omega
          obtain rfl : o = last := by rw [ho] at hl; injection hl
          have hallL : ∀ m j, j + m = i → 0 < m → listed.getD j false = true := by
            intro m
            induction m using Nat.strongRecOn with
            | _ m ihm =>
              intro j hj hm0
              obtain ⟨q, hq, _, _, _, _, hq2⟩ := hop j (by omega)
              obtain ⟨_, _, j2, p, h1, h2, hp2, e, he, heo, heb⟩ := hq2 (by omega)
              by_cases hj2 : j2 = i
              · subst hj2
                rw [ho] at hp2
                cases hp2
                rw [← heo]
                exact hdep e he heb
              · have := hI.shut j2 p hp2 (ihm (i - j2) (by omega) j2 (by omega) (by omega)) e he heb
                rwa [heo] at this
          have hb : b = full := by
            have ht : b.tmps = full.tmps := by
              apply Array.ext hI.tsize
              intro t h1 h2
              have h3 : b.tmps[t]? = full.tmps[t]? := by
                by_cases hex : ∃ j q, j < i ∧ ops[j]? = some q ∧ q.dst = some t
                · obtain ⟨j, q, hj, hq, hqt⟩ := hex
                  exact hI.near j q t hj hq hqt (hallL (i - j) j (by omega) (by omega))
                · exact hI.far t (fun j q hj hq hqt => hex ⟨j, q, hj, hq, hqt⟩)
              rw [Array.getElem?_eq_getElem h1, Array.getElem?_eq_getElem h2] at h3
              injection h3
            have := hI.defers
            obtain ⟨bt, bd⟩ := b
            obtain ⟨ft, fd⟩ := full
            dsimp only at ht this
            rw [ht, this]
          subst hb
          have hf0 : fuel = 0 := by
            have hz := hcount i hi1 hif
            have : (listed.setIfInBounds i true).toList.count false = 0 := by
              rw [List.count_eq_zero]
              intro hmem
              obtain ⟨t, ht, h1⟩ := List.getElem_of_mem hmem
              have h2 : (listed.setIfInBounds i true).getD t false = false := by
                rw [Array.getD_eq_getD_getElem?]
                have ht2 : t < (listed.setIfInBounds i true).size := by simpa using ht
                rw [Array.getElem?_eq_getElem ht2, Option.getD_some]
                exact h1
              rw [rl_set (by omega)] at h2
              by_cases hti : i = t
              · rw [if_pos hti] at h2; cases h2
              · rw [if_neg hti] at h2
                have ht3 : t < listed.size := by simpa using ht
                rw [hallL (i - t) t (by omega) (by omega)] at h2
                cases h2
            omega
          subst hf0
          refine Oper.wpIn_mono (fun a' w' hq => ?_) hlast
          refine ⟨?_, hq⟩
          cases hrd : Region.ready .any ops (listed.setIfInBounds i true) with
          | nil => rfl
          | cons x xs =>
            exfalso
            have hx : x ∈ Region.ready .any ops (listed.setIfInBounds i true) := by rw [hrd]; exact List.mem_cons_self ..
            obtain ⟨h1, q, hq, _⟩ := mem_ready.1 hx
            have hx2 : x < i + 1 := by
              rcases Nat.lt_or_ge x (i + 1) with h | h
              · exact h
              · rw [hnone x h] at hq; cases hq
            rw [rl_getD (by simp; omega), rl_set (by omega)] at h1
            by_cases hti : i = x
            · rw [if_pos hti] at h1; cases h1
            · rw [if_neg hti, hallL (i - x) x (by omega) (by omega)] at h1
              cases h1
  have hfs := rlPut_size ps a
  rw [hsz]
  refine main (N + 1) _ a ⟨by simp, by rw [hfull]; exact hfs.1.symm, by rw [hfull]; exact hfs.2.symm, ?_, ?_, ?_, ?_⟩ (by simp)
  · intro t ht
    rw [hfull]
    refine (rlPut_far ps a t (fun p hp' e => ?_)).symm
    have h1 : some p.1 ∈ ps.map (fun p => some p.1) := List.mem_map.2 ⟨p, hp', rfl⟩
    rw [hps] at h1
    obtain ⟨o, ho, hod⟩ := List.mem_map.1 h1
    obtain ⟨j, hj, hjo⟩ := List.getElem_of_mem ho
    have hj2 : j < N := by simp at hj; omega
    refine ht j o hj2 ?_ (by rw [hod, e])
    rw [← hjo]
    simp at hj
    simp [hj]
  · intro j o t hj ho hot hlj
    rw [Array.getD_eq_getD_getElem?, Array.getElem?_replicate] at hlj
    split at hlj <;> cases hlj
  · intro j o ho hlj
    rw [Array.getD_eq_getD_getElem?, Array.getElem?_replicate] at hlj
    split at hlj <;> cases hlj
  · rw [Array.getD_eq_getD_getElem?, Array.getElem?_replicate]
    simp
end
section
attribute [local go_sem] Oper.semAt_some
def dpRow (k : Nat) (d : List Int) (l : List Int) : List Int := l.foldl (fun d x => d.set k (max (d.getD k 0) (wrap64 (d.getD x.toNat 0 + 1)))) d
def dpAll (names : Int → List Int) (d order : List Int) : List Int := order.foldl (fun d k => dpRow k.toNat (d.set k.toNat 1) (names k)) d
theorem dpRow_length (k : Nat) (l : List Int) : ∀ d : List Int, (dpRow k d l).length = d.length := by
  induction l with
  | nil => intro d; rfl
  | cons x t ih => intro d; show (dpRow k _ t).length = _; rw [ih]; simp
theorem dpRow_snoc (k : Nat) (d l : List Int) (x : Int) : dpRow k d (l ++ [x]) = (dpRow k d l).set k (max ((dpRow k d l).getD k 0) (wrap64 ((dpRow k d l).getD x.toNat 0 + 1))) := by
  unfold dpRow; rw [List.foldl_append]; rfl
def dpGood (l2 : List S52) (n : Int) (k : Int) : Bool := decide (0 ≤ k ∧ k < n ∧ k < (l2.length : Int) ∧ (rd_T52 l2 k).f7.length ≤ 100000 ∧ cl_ok n (cl_names (rd_T52 l2 k).f7) = true)
def calls_Deep.f (k : Nat) (l0_0 l0_1 : List S86) (l0_2 : List S52) (a0_3 : Int) : Option (List Int × Int) := (calls_Order.f k l0_0 l0_1 l0_2 a0_3).bind fun p => if p.2 = 0 then (if p.1.length ≤ 10000 ∧ p.1.all (dpGood l0_2 p.1.length) = true then some (dpAll (fun k => cl_names (rd_T52 l0_2 k).f7) (List.replicate p.1.length 0) p.1, 0) else none) else some ([], p.2)
theorem calls_Deep.mono : ∀ a0 a1 a2 a3 k, LeO (calls_Deep.f k a0 a1 a2 a3) (calls_Deep.f (k + 1) a0 a1 a2 a3) := by
  intro a0 a1 a2 a3 k
  unfold calls_Deep.f
  exact LeO.bind (calls_Order.mono _ _ _ _ _) fun p => LeO.refl _
/-- make([]int, n), within a fence. -/
theorem make_Z {F : Fence} {nF : Nat} {P : Program} (w : World) {ops : Array Oper} {rest : List Oper} {o : Oper} {a : Act} {Q : Exit → Act → World → Prop} (hg : o.guard = none) (l c : Operand) (t : TypeId) (hop : o.op = Op.makeSlice t l c)
    (ht : P.underlying t = some (.slice 3)) (hinfo : (P.info? 3).map (fun i => (i.zero, i.size, i.bytes)) = some (some (.int .i64 0), 1, 8)) (kl kc : IntKind) (n : Nat) (hl : a.eval l = .int kl n) (hc : a.eval c = .int kc n) (hn : n ≤ 1000000)
    (hK : wpListIn F nF P ops Q rest (a.put o.dst (.slice (some ⟨w.heap.size, 0, none⟩) n n)) (w.alloc (.cells (Array.replicate n (.int .i64 0)) 3))) :
    wpListIn F nF P ops Q (o :: rest) a w := by
  obtain ⟨i0, hi, hzz⟩ := Option.map_eq_some_iff.1 hinfo
  simp only [Prod.mk.injEq] at hzz
  obtain ⟨hz0, hz1, hz2⟩ := hzz
  have hrun := run_make (P := P) w t 3 i0 (.int .i64 0) ht hi hz0 kl kc (n : Int) (n : Int) (by omega) (Int.le_refl _) (by rw [hz2]; omega) (by omega)
  have hcells : madeCells (Value.int .i64 0).cells ((n : Int).toNat * i0.size) = Array.replicate n (.int .i64 0) := by
    rw [hz1, Nat.mul_one, Int.toNat_natCast]
    apply Array.ext'
    rw [show (Value.int .i64 0).cells = #[Value.int .i64 0] from rfl, toList_madeCells_one]
    simp
  rw [hcells, Int.toNat_natCast] at hrun
  refine wpListIn_plain hg fun K hK' => ?_
  unfold Oper.wpIn
  refine ⟨?_, ?_⟩
  · simp [Oper.about, hop]
  · rw [Oper.semAt_plain F _ _ (by rw [hop]; intro c hc'; cases hc')]
    simp [execOp, hop, hl, hc, hrun, Result.andThen]
    exact hK' _ _ hK
theorem dp_set (W : World) (b i : Nat) (v : Value) : W.grownBy (W.setCell ⟨b, i, none⟩ v) (some b) := ⟨rfl, rfl, rfl, by simp [World.setCell], fun k _ hk => Below.heap_setCell W ⟨b, i, none⟩ v k (fun e => hk (by rw [e]))⟩
theorem dp_drew (W : World) (row : Option Nat) : W.grownBy W.drew row := ⟨rfl, rfl, rfl, Nat.le_refl _, fun _ _ _ => rfl⟩
/-- The marks of the loops over functions that have ended. -/
def dpMark (D : Nat) : Deferred := { target := .collected D, args := #[] }
theorem leaves_marks {F : Fence} {nF : Nat} {P : Program} {fn : Func} {tmps : Array Value} {R : Ending → World → Prop} (base : Nat) : ∀ (Ds : List Nat) (W : World), Ds.Nodup → (∀ D ∈ Ds, base ≤ D ∧ W.heap[D]? = some (.deferred (some []))) → (∀ W', Below base W W' → (∀ k, k ∉ Ds → W'.heap[k]? = W.heap[k]?) → LeavesInM F nF P fn tmps R [] .returning W') → base ≤ W.heap.size → LeavesInM F nF P fn tmps R (Ds.map dpMark) .returning W := by
  intro Ds
  induction Ds with
  | nil => intro W _ _ h hb; exact h W (Below.refl _ _) (fun _ _ => rfl)
  | cons D Ds ih =>
    intro W hn hD h hb
    obtain ⟨hn1, hn2⟩ := List.nodup_cons.1 hn
    obtain ⟨hb1, hd1⟩ := hD D (List.mem_cons_self ..)
    have hg := grownBy_putObj' W D (.deferred none)
    have hlt := blk_lt hd1
    have far : ∀ k, k ≠ D → (W.putObj D (.deferred none)).heap[k]? = W.heap[k]? := by
      intro k hk
      by_cases h1 : k < W.heap.size
      · exact hg.block k h1 (fun e => hk (by injection e))
      · rw [Array.getElem?_eq_none (xs := W.heap) (by omega), Array.getElem?_eq_none (by simp [World.putObj]; omega)]
    have hB : Below base W (W.putObj D (.deferred none)) := (Below.refl base W).grown hg hb (fun k e => by cases e; exact hb1)
    refine ⟨by simp, .inl ⟨D, _, rfl, run_takeDeferred hd1, ?_⟩⟩
    refine ih _ hn2 (fun E hE => ⟨(hD E (List.mem_cons_of_mem _ hE)).1, (far E (fun e => hn1 (e ▸ hE))).trans (hD E (List.mem_cons_of_mem _ hE)).2⟩) (fun W' hb' hk' => h W' (hB.trans hb') (fun k hk => ?_)) (Nat.le_trans hb hB.size)
    exact (hk' k (fun e => hk (List.mem_cons_of_mem _ e))).trans (far k (fun e => hk (e ▸ List.mem_cons_self ..)))
/-- All that the method's code names come, in order; each is told to be among them. -/
theorem named_stops2 (n : Nat) (hn : 1 ≤ n) (B n₀ : Nat) (A2 : Option Addr) (c2 : Nat) (ms : List S52) (j : Int) (hj : 0 ≤ j ∧ j < (ms.length : Int)) (w0 w : World) (hw0 : Below w0.heap.size w0 w) (hn₀ : w0.heap.size ≤ n₀) (hnw : n₀ ≤ w.heap.size) (hlen : (rd_T52 ms j).f7.length ≤ 100000)
    (hB : B + 1 < w.heap.size) (hb0 : w.cell? ⟨B, 2, none⟩ = some (.slice A2 ms.length c2)) (hb1 : w.cell? ⟨B + 1, 0, none⟩ = some (.int .i64 j)) (hC : Kd.C k52 w0 A2 ms.length ms) :
    SeqStopsK Fence.wide n Try.prog 69 #[.pointer (some ⟨B, 0, none⟩), .pointer (some ⟨B + 1, 0, none⟩)] (fun x : {x : Int // x ∈ cl_names (rd_T52 ms j).f7} => #[.int .i64 x.1]) (Below n₀) (fun ys => ys.map (·.1) = cl_names (rd_T52 ms j).f7) (fun _ => True) 100001 w := fun l J Jx W hW hJ hJx hY h0 => by
  have hcut : ∀ pre x t, cl_names (rd_T52 ms j).f7 = pre ++ x :: t → pre.length < 100001 := by
    intro pre x t e
    have h1 : (cl_names (rd_T52 ms j).f7).length ≤ (rd_T52 ms j).f7.length := by unfold cl_names; rw [List.length_map]; exact List.length_filter_le _ _
    rw [e] at h1
    simp at h1
    omega
  refine (named1_in n hn l B n₀ A2 c2 ms j hj (fun pre V => ∃ p : List {x : Int // x ∈ cl_names (rd_T52 ms j).f7}, p.map (·.1) = pre ∧ J p V) (fun pre V => ∃ p : List {x : Int // x ∈ cl_names (rd_T52 ms j).f7}, p.map (·.1) = pre ∧ Jx p V) w0 W
    (fun pre V V' row hs hg hr => by obtain ⟨p, hp, hs⟩ := hs; exact ⟨p, hp, hJ p V V' row hs hg hr⟩) (hw0.trans (hW.mono hw0.size)) hn₀ (Nat.le_trans hnw hW.size) hlen
    (fun pre x W1 h1 h2 => ?_) ((hW.cell (p := ⟨B, 2, none⟩) (by show B < _; omega)).trans hb0) ((hW.cell (p := ⟨B + 1, 0, none⟩) hB).trans hb1) hC ⟨[], rfl, h0⟩).mono ?_
  · obtain ⟨p, rfl, h1⟩ := h1
    obtain ⟨t, h2⟩ := h2
    have hx : x ∈ cl_names (rd_T52 ms j).f7 := by rw [h2]; simp
    refine (hY p ⟨x, hx⟩ W1 h1 (by have := hcut _ _ _ h2; simpa using this)).mono ?_
    rintro e W' (⟨he, hj, hb⟩ | ⟨he, hj⟩)
    · exact .inl ⟨he, ⟨p ++ [⟨x, hx⟩], by simp, hj⟩, hb⟩
    · exact .inr ⟨he, ⟨p ++ [⟨x, hx⟩], by simp, hj⟩⟩
  · rintro e W' ⟨hv, ⟨ys, hys, p, hp, hj⟩ | ⟨pre, _, p, hp, hj⟩⟩
    · exact ⟨hv, .inl ⟨p, hp.trans hys, hj⟩⟩
    · exact ⟨hv, .inr ⟨p, trivial, hj⟩⟩
set_option maxHeartbeats 8000000 in
set_option maxRecDepth 100000 in
theorem calls_Deep.calls (k : Nat) (A0_0 : Option Addr) (c0_0 : Nat) (l0_0 : List (S86)) (A0_1 : Option Addr) (c0_1 : Nat) (l0_1 : List (S86)) (A0_2 : Option Addr) (c0_2 : Nat) (l0_2 : List (S52)) (a0_3 : Int) (r1 : List Int) (r2 : Int) (w : World) (hr0_0 : Kd.C k86 w A0_0 l0_0.length l0_0) (hc0_0 : l0_0.length ≤ c0_0) (hr0_1 : Kd.C k86 w A0_1 l0_1.length l0_1) (hc0_1 : l0_1.length ≤ c0_1) (hr0_2 : Kd.C k52 w A0_2 l0_2.length l0_2) (hc0_2 : l0_2.length ≤ c0_2) (h : calls_Deep.f k l0_0 l0_1 l0_2 a0_3 = some (r1, r2)) :
    Calls Try.prog 32 #[.agg #[.slice A0_0 l0_0.length c0_0, .slice A0_1 l0_1.length c0_1, .slice A0_2 l0_2.length c0_2, .int .i64 a0_3]] w fun e w' => ∃ v0_ : Value, e = .returned (.tuple #[v0_, .int .i64 r2]) ∧ Kd.R (Kd.int .i64) 3 w' w.heap.size (fun _ => True) v0_ r1 ∧ Below w.heap.size w w' := by
  have HR0 := Aside0.mk hr0_0
  have HR1 := Aside0.mk hr0_1
  have HR2 := Aside0.mk hr0_2
  have HC0 := Aside0.mk hc0_0
  have HC1 := Aside0.mk hc0_1
  have HC2 := Aside0.mk hc0_2
  clear hr0_0 hr0_1 hr0_2 hc0_0 hc0_1 hc0_2
  unfold calls_Deep.f at h
  obtain ⟨⟨order, e0⟩, hord, h⟩ := Option.bind_eq_some_iff.mp h
  have HA := Aside0.mk hord
  clear hord
  dsimp only at h
  by_cases he : e0 = 0
  · subst he
    rw [if_pos rfl] at h
    by_cases hb : order.length ≤ 10000 ∧ order.all (dpGood l0_2 order.length) = true
    case neg => rw [if_neg hb] at h; cases h
    rw [if_pos hb] at h
    obtain ⟨hb1, hb2⟩ := hb
    have H := Aside0.mk h
    have HB2 := Aside0.mk hb2
    clear h hb2
    refine (callsIn_wide (n := 5)).1 ?_
    refine callsIn_of_wp_marks Try.func32 rfl trivial ?_ rfl
    simp only [Try.ntmps32, List.size_toArray, List.length_cons, List.length_nil, Nat.reduceAdd, Nat.reduceSub, Array.replicate_succ, Array.replicate_zero, List.push_toArray, List.append_toArray, List.nil_append, List.cons_append]
    gi_wp2_with (first | (refine ⟨trivial, ?_⟩; gi_at_call 30; (refine (callsIn_wide.2 (calls_Order.calls k A0_0 c0_0 l0_0 A0_1 c0_1 l0_1 A0_2 c0_2 l0_2 a0_3 order 0 _ (Kd.C_alloc HR0.out _) HC0.out (Kd.C_alloc HR1.out _) HC1.out (Kd.C_alloc HR2.out _) HC2.out HA.out)).mono ?_); rintro e w1 ⟨v1, rfl, hS1, hb1'⟩; have S1 := Aside0.mk hS1; have B1 := Aside0.mk (((Below.refl w.heap.size w).alloc (Nat.le_refl _) (.cells #[.slice A0_0 l0_0.length c0_0, .slice A0_1 l0_1.length c0_1, .slice A0_2 l0_2.length c0_2, .int .i64 a0_3] 25)).trans (hb1'.mono (by simp))); have M1 := Aside0.mk (blk_below (blk_new w (.cells #[.slice A0_0 l0_0.length c0_0, .slice A0_1 l0_1.length c0_1, .slice A0_2 l0_2.length c0_2, .int .i64 a0_3] 25)) hb1'); obtain ⟨Aw, cw, rfl⟩ := Kd.R_slice hS1; clear hS1 hb1') | (gi_at_make; refine make_Z w1 rfl (.tmp 19) (.tmp 19) 53 rfl Try.underlying53 info3 .i64 .i64 order.length rfl rfl (by omega) ?_))
    obtain ⟨W0, hW0⟩ : ∃ W0, (w1.alloc (.cells (Array.replicate order.length (.int .i64 0)) 3)).alloc (.cells #[.slice (some ⟨w1.heap.size, 0, none⟩) order.length order.length] 53) = W0 := ⟨_, rfl⟩
    have hsz : W0.heap.size = w1.heap.size + 2 := by rw [← hW0]; simp
    have BW := Aside0.mk (show Below w1.heap.size w1 W0 by rw [← hW0]; exact below_alloc (below_alloc (Below.refl _ _) _) _)
    have G0 := Aside0.mk (show W0.heap[w1.heap.size]? = some (.cells ((List.replicate order.length (0 : Int)).map (Value.int .i64)).toArray 3 (0, 0)) by rw [← hW0]; simpa using blk_alloc (blk_new w1 (.cells (Array.replicate order.length (.int .i64 0)) 3)) _)
    have P0 := Aside0.mk (show W0.heap[w1.heap.size + 1]? = some (.cells #[.slice (some ⟨w1.heap.size, 0, none⟩) order.length order.length] 53 (0, 0)) by rw [← hW0]; simpa using blk_new (w1.alloc (.cells (Array.replicate order.length (.int .i64 0)) 3)) (.cells #[.slice (some ⟨w1.heap.size, 0, none⟩) order.length order.length] 53))
    have M0 := Aside0.mk (blk_below M1.out BW.out)
    have C0 := Aside0.mk (Kd.C_below (Kd.R_reads' S1.out).2.2 BW.out)
    have B0 := Aside0.mk (B1.out.trans (BW.out.mono B1.out.size))
    rw [hW0]
    clear hW0
    refine wpIn_loop_ghost_k (fun m a W => ∃ (i : Nat) (d : List Int) (Ds : List Nat) (u8 u9 u24 u25 u26 u27 u28 u29 u30 u31 u32 u33 u34 u35 u36 u37 u38 u39 u40 u41 u42 u43 u44 u45 u46 u47 : Value), a = { tmps := #[.agg #[.slice A0_0 l0_0.length c0_0, .slice A0_1 l0_1.length c0_1, .slice A0_2 l0_2.length c0_2, .int .i64 a0_3], .pointer (some ⟨w.heap.size, 0, none⟩), .slice none 0 0, .int .i64 0, .slice Aw order.length cw, .int .i64 0, .pointer (some ⟨w1.heap.size + 1, 0, none⟩), undef, u8, u9, .tuple #[.slice Aw order.length cw, .int .i64 0], .agg #[.slice A0_0 l0_0.length c0_0, .slice A0_1 l0_1.length c0_1, .slice A0_2 l0_2.length c0_2, .int .i64 a0_3], .tuple #[.slice Aw order.length cw, .int .i64 0], .slice Aw order.length cw, .int .i64 0, .int .i64 0, .bool false, undef, .slice Aw order.length cw, .int .i64 order.length, .slice (some ⟨w1.heap.size, 0, none⟩) order.length order.length, .slice Aw order.length cw, .int .i64 order.length, .int .i64 i, u24, u25, u26, u27, u28, u29, u30, u31, u32, u33, u34, u35, u36, u37, u38, u39, u40, u41, u42, u43, u44, u45, u46, u47, undef], defers := Ds.map dpMark } ∧ m = order.length - i ∧ i ≤ order.length ∧ d.length = order.length ∧ dpAll (fun k => cl_names (rd_T52 l0_2 k).f7) d (order.drop i) = r1 ∧ W0.grownBy W (some w1.heap.size) ∧ W.heap[w1.heap.size]? = some (.cells (d.map (Value.int .i64)).toArray 3 (0, 0)) ∧ Ds.Nodup ∧ (∀ D ∈ Ds, W0.heap.size ≤ D ∧ W.heap[D]? = some (.deferred (some [])))) order.length ?start ?round
    case start =>
      refine ⟨0, List.replicate order.length 0, [], _, _, _, _, _, _, _, _, _, _, _, _, _, _, _, _, _, _, _, _, _, _, _, _, _, _, rfl, rfl, Nat.zero_le _, List.length_replicate, ?_, World.grownBy.refl _ _, G0.out, List.nodup_nil, (fun _ h => absurd h (List.not_mem_nil))⟩
      have h := H.out
      simp only [Option.some.injEq, Prod.mk.injEq] at h
      exact h.1
    case round =>
      rintro m a W ⟨i, d, Ds, u8, u9, u24, u25, u26, u27, u28, u29, u30, u31, u32, u33, u34, u35, u36, u37, u38, u39, u40, u41, u42, u43, u44, u45, u46, u47, rfl, rfl, hi, hdl, hd, hG, hg, hnd, hDs⟩ J K hJ hK
      have hr2 : r2 = 0 := by have h := H.out; simp only [Option.some.injEq, Prod.mk.injEq] at h; exact h.2.symm
      subst hr2
      have HG := Aside0.mk hG
      have Hg := Aside0.mk hg
      have HD := Aside0.mk hDs
      have HN := Aside0.mk hnd
      have HL := Aside0.mk hd
      clear hG hg hDs hnd hd
      by_cases hlt : i < order.length
      · have hgood : dpGood l0_2 order.length order[i] = true := List.all_eq_true.1 HB2.out _ (List.getElem_mem hlt)
        obtain ⟨q1, q2, q3, q4, q5⟩ := of_decide_eq_true hgood
        have BWW := Aside0.mk (show Below w1.heap.size w1 W from BW.out.grown HG.out BW.out.size (fun k e => by cases e; exact Nat.le_refl _))
        have hfar : ∀ k, k < W0.heap.size → k ≠ w1.heap.size → W.heap[k]? = W0.heap[k]? := fun k h1 h2 => HG.out.block k h1 (by intro e; injection e with e; exact h2 e)
        have p0 := blk_cell ((hfar _ (by omega) (by omega)).trans P0.out) 0
        have hw : w.heap.size < w1.heap.size := blk_lt M1.out
        have M2 := Aside0.mk ((hfar _ (by omega) (by omega)).trans M0.out)
        have m0 : W.cell? ⟨w.heap.size, 0, none⟩ = some (.slice A0_0 l0_0.length c0_0) := (blk_cell M2.out 0).trans rfl
        have m1 : W.cell? ⟨w.heap.size, 1, none⟩ = some (.slice A0_1 l0_1.length c0_1) := (blk_cell M2.out 1).trans rfl
        have m2 : W.cell? ⟨w.heap.size, 2, none⟩ = some (.slice A0_2 l0_2.length c0_2) := (blk_cell M2.out 2).trans rfl
        have m3 : W.cell? ⟨w.heap.size, 3, none⟩ = some (.int .i64 a0_3) := (blk_cell M2.out 3).trans rfl
        obtain ⟨ad, rfl, hci⟩ := at_ints (Kd.C_below (Kd.R_reads' S1.out).2.2 BWW.out) i hlt hlt
        have HLT := Aside0.mk HL.out
        generalize hk : order[i] = k at *
        obtain ⟨kn, rfl⟩ : ∃ kn : Nat, k = (kn : Int) := ⟨k.toNat, by omega⟩
        have hkn : kn < order.length := by omega
        have hkd : kn < d.length := by omega
        have z0 : W.cell? ⟨w1.heap.size, kn, none⟩ = some (.int .i64 d[kn]) := by rw [blk_cell Hg.out kn]; simp [hkd]
        have y0 := blk_frozen Hg.out kn
        have hWs : W0.heap.size ≤ W.heap.size := HG.out.size
        have n1 : w1.heap.size + 1 < W.heap.size := by omega
        have n2 : w1.heap.size < W.heap.size := by omega
        have n3 : w.heap.size < W.heap.size := by omega
        have e1 : W.heap.size ≠ w1.heap.size := by omega
        have e2 : w.heap.size ≠ w1.heap.size := by omega
        have e3 : w1.heap.size + 1 ≠ w1.heap.size := by omega
        gi_wp2_with (first | (refine ⟨trivial, ?_⟩; gi_at_call 54; (refine (named_in _ _ _ _ _ _ _ _ _ _ _ _ _).mono ?_); rintro e w2 ⟨rfl, rfl⟩))
        obtain ⟨W1, hW1⟩ : ∃ W1, ((((W.setCell ⟨w1.heap.size, kn, none⟩ (.int .i64 1)).alloc (.cells #[.int .i64 kn] 3)).alloc (.cells #[.slice A0_0 l0_0.length c0_0, .slice A0_1 l0_1.length c0_1, .slice A0_2 l0_2.length c0_2, .int .i64 a0_3] 25)).alloc (.cells #[.int .i64 kn] 3)) = W1 := ⟨_, rfl⟩
        have hsS : (W.setCell ⟨w1.heap.size, kn, none⟩ (.int .i64 1)).heap.size = W.heap.size := by simp [World.setCell]
        have s1 : W1.heap.size = W.heap.size + 3 := by rw [← hW1]; simp
        have gW : Aside0 (W.grownBy W1 (some w1.heap.size)) := ⟨by rw [← hW1]; exact (((dp_set W w1.heap.size kn (.int .i64 1)).trans (World.grownBy_alloc _ _ _)).trans (World.grownBy_alloc _ _ _)).trans (World.grownBy_alloc _ _ _)⟩
        have g1 : Aside0 (W1.heap[w1.heap.size]? = some (.cells ((d.set kn 1).map (Value.int .i64)).toArray 3 (0, 0))) := ⟨by
          rw [← hW1]
          have := blk_alloc (blk_alloc (blk_alloc (blk_put Hg.out kn (.int .i64 1) rfl) (.cells #[.int .i64 kn] 3)) (.cells #[.slice A0_0 l0_0.length c0_0, .slice A0_1 l0_1.length c0_1, .slice A0_2 l0_2.length c0_2, .int .i64 a0_3] 25)) (.cells #[.int .i64 kn] 3)
          simpa [List.map_set] using this⟩
        have z1 : Aside0 (W1.heap[W.heap.size]? = some (.cells #[.int .i64 kn] 3 (0, 0))) := ⟨by
          rw [← hW1]
          have := blk_new (W.setCell ⟨w1.heap.size, kn, none⟩ (.int .i64 1)) (.cells #[.int .i64 kn] 3)
          rw [hsS] at this
          exact blk_alloc (blk_alloc this _) _⟩
        have b0 : W1.cell? ⟨W.heap.size + 1, 2, none⟩ = some (.slice A0_2 l0_2.length c0_2) := by
          rw [← hW1]
          have := blk_new ((W.setCell ⟨w1.heap.size, kn, none⟩ (.int .i64 1)).alloc (.cells #[.int .i64 kn] 3)) (.cells #[.slice A0_0 l0_0.length c0_0, .slice A0_1 l0_1.length c0_1, .slice A0_2 l0_2.length c0_2, .int .i64 a0_3] 25)
          rw [World.size_alloc, hsS] at this
          exact blk_cell (blk_alloc this _) 2
        have b1 : W1.cell? ⟨W.heap.size + 1 + 1, 0, none⟩ = some (.int .i64 kn) := by
          rw [← hW1]
          have := blk_new (((W.setCell ⟨w1.heap.size, kn, none⟩ (.int .i64 1)).alloc (.cells #[.int .i64 kn] 3)).alloc (.cells #[.slice A0_0 l0_0.length c0_0, .slice A0_1 l0_1.length c0_1, .slice A0_2 l0_2.length c0_2, .int .i64 a0_3] 25)) (.cells #[.int .i64 kn] 3)
          rw [World.size_alloc, World.size_alloc, hsS] at this
          exact blk_cell this 0
        have BV : Aside0 (Below w.heap.size w W1) := ⟨((B0.out.grown HG.out B0.out.size (fun k e => by cases e; exact B1.out.size)).grown gW.out (Nat.le_trans B0.out.size hWs) (fun k e => by cases e; exact B1.out.size))⟩
        have P1 : Aside0 (W1.heap[w1.heap.size + 1]? = some (.cells #[.slice (some ⟨w1.heap.size, 0, none⟩) order.length order.length] 53 (0, 0))) := ⟨((gW.out.block _ (by omega) (by intro e; injection e with e; omega)).trans (hfar _ (by omega) (by omega))).trans P0.out⟩
        rw [hW1]
        clear hW1
        refine wpIn_rangeFunc_ownF rfl (by omega) (gf := 69) (lb := #[.pointer (some ⟨W.heap.size + 1, 0, none⟩), .pointer (some ⟨W.heap.size + 1 + 1, 0, none⟩)]) rfl trivial (enters_of Try.func69 (by kernel_rfl) rfl)
          (named_stops2 (5 - 1) (by omega) (W.heap.size + 1) w.heap.size A0_2 c0_2 l0_2 (kn : Int) ⟨q1, q3⟩ w W1 BV.out (Nat.le_refl _) (by omega) q4 (by omega) b0 b1 HR2.out) belowK_t (belowK_b (by omega)) (Below.refl _ _) (fun _ => rfl)
          (fun pre V => W1.grownBy V (some w1.heap.size) ∧ V.heap[w1.heap.size]? = some (.cells ((dpRow kn (d.set kn 1) (pre.map (·.1))).map (Value.int .i64)).toArray 3 (0, 0)))
          (fun _ _ _ => False)
          (fun pre V V' row hs hg hr => ⟨hs.1.andThen hg (fun j e => .inl (hr j e).1), (hg.block _ (blk_lt hs.2) (fun e => by have := (hr _ e.symm).1; omega)).trans hs.2⟩)
          (fun _ _ _ _ _ hs _ _ => hs)
          ⟨World.grownBy.refl _ _, g1.out⟩
          (fun x => { tmps := #[.agg #[.slice A0_0 l0_0.length c0_0, .slice A0_1 l0_1.length c0_1, .slice A0_2 l0_2.length c0_2, .int .i64 a0_3], .pointer (some ⟨w.heap.size, 0, none⟩), .slice none 0 0, .int .i64 0, .slice (some ad) order.length cw, .int .i64 0, .pointer (some ⟨w1.heap.size + 1, 0, none⟩), undef, .pointer (some ⟨W.heap.size, 0, none⟩), .int .i64 x.1, .tuple #[.slice (some ad) order.length cw, .int .i64 0], .agg #[.slice A0_0 l0_0.length c0_0, .slice A0_1 l0_1.length c0_1, .slice A0_2 l0_2.length c0_2, .int .i64 a0_3], .tuple #[.slice (some ad) order.length cw, .int .i64 0], .slice (some ad) order.length cw, .int .i64 0, .int .i64 0, .bool false, undef, .slice (some ad) order.length cw, .int .i64 order.length, .slice (some ⟨w1.heap.size, 0, none⟩) order.length order.length, .slice (some ad) order.length cw, .int .i64 order.length, .int .i64 i, .bool true, .pointer (some (ad.add i)), .int .i64 kn, .slice (some ⟨w1.heap.size, 0, none⟩) order.length order.length, .int .i64 kn, .pointer (some ⟨w1.heap.size, kn, none⟩), .agg #[.slice A0_0 l0_0.length c0_0, .slice A0_1 l0_1.length c0_1, .slice A0_2 l0_2.length c0_2, .int .i64 a0_3], .int .i64 kn, .func (.func 69) #[] #[.pointer (some ⟨W.heap.size + 1, 0, none⟩), .pointer (some ⟨W.heap.size + 1 + 1, 0, none⟩)], .int .i64 x.1, u34, u35, u36, u37, u38, u39, u40, u41, u42, u43, u44, u45, u46, u47, undef], defers := [] })
          ?assign ?body ?done (fun _ _ _ _ _ _ h _ => h.elim)
        case assign =>
          intro l x V K hK
          gi_wp2
          exact hK
        case body =>
          rintro l pre ⟨x, hx⟩ V ⟨hv1, hv2⟩ hl
          have V1 := Aside0.mk hv1
          have V2 := Aside0.mk hv2
          clear hv1 hv2
          have hxr := List.all_eq_true.1 q5 x hx
          obtain ⟨hx0, hx1⟩ := of_decide_eq_true hxr
          obtain ⟨xn, rfl⟩ : ∃ xn : Nat, x = (xn : Int) := ⟨x.toNat, by omega⟩
          have hpl : (dpRow kn (d.set kn 1) (pre.map (·.1))).length = order.length := by rw [dpRow_length]; simpa using hdl
          have hsn := dpRow_snoc kn (d.set kn 1) (pre.map (·.1)) (xn : Int)
          generalize hdp : dpRow kn (d.set kn 1) (pre.map (·.1)) = dp at *
          have v0 : V.cell? ⟨w1.heap.size, kn, none⟩ = some (.int .i64 (dp.getD kn 0)) := by rw [blk_cell V2.out kn]; simp [hpl, hkn]
          have v1 : V.cell? ⟨w1.heap.size, xn, none⟩ = some (.int .i64 (dp.getD xn 0)) := by rw [blk_cell V2.out xn]; simp [hpl, show xn < order.length by omega]
          have y1 := blk_frozen V2.out kn
          have v2 := blk_cell ((V1.out.block _ (by omega) (by intro e; injection e with e; omega)).trans P1.out) 0
          have v3 := blk_cell ((V1.out.block _ (by omega) (by intro e; injection e with e; omega)).trans z1.out) 0
          have hkn2 : (kn : Int) < (order.length : Int) := by omega
          refine wpIn_block ?_
          dsimp only
          refine region_last 13 { tmps := #[.agg #[.slice A0_0 l0_0.length c0_0, .slice A0_1 l0_1.length c0_1, .slice A0_2 l0_2.length c0_2, .int .i64 a0_3], .pointer (some ⟨w.heap.size, 0, none⟩), .slice none 0 0, .int .i64 0, .slice (some ad) order.length cw, .int .i64 0, .pointer (some ⟨w1.heap.size + 1, 0, none⟩), undef, .pointer (some ⟨W.heap.size, 0, none⟩), .int .i64 xn, .tuple #[.slice (some ad) order.length cw, .int .i64 0], .agg #[.slice A0_0 l0_0.length c0_0, .slice A0_1 l0_1.length c0_1, .slice A0_2 l0_2.length c0_2, .int .i64 a0_3], .tuple #[.slice (some ad) order.length cw, .int .i64 0], .slice (some ad) order.length cw, .int .i64 0, .int .i64 0, .bool false, undef, .slice (some ad) order.length cw, .int .i64 order.length, .slice (some ⟨w1.heap.size, 0, none⟩) order.length order.length, .slice (some ad) order.length cw, .int .i64 order.length, .int .i64 i, .bool true, .pointer (some (ad.add i)), .int .i64 kn, .slice (some ⟨w1.heap.size, 0, none⟩) order.length order.length, .int .i64 kn, .pointer (some ⟨w1.heap.size, kn, none⟩), .agg #[.slice A0_0 l0_0.length c0_0, .slice A0_1 l0_1.length c0_1, .slice A0_2 l0_2.length c0_2, .int .i64 a0_3], .int .i64 kn, .func (.func 69) #[] #[.pointer (some ⟨W.heap.size + 1, 0, none⟩), .pointer (some ⟨W.heap.size + 1 + 1, 0, none⟩)], .int .i64 xn, .slice (some ⟨w1.heap.size, 0, none⟩) order.length order.length, .int .i64 kn, .slice (some ⟨w1.heap.size, 0, none⟩) order.length order.length, .int .i64 kn, .pointer (some ⟨w1.heap.size, kn, none⟩), .int .i64 (dp.getD kn 0), .slice (some ⟨w1.heap.size, 0, none⟩) order.length order.length, .int .i64 xn, .pointer (some ⟨w1.heap.size, xn, none⟩), .int .i64 (dp.getD xn 0), .int .i64 (IntKind.i64.wrap (dp.getD xn 0 + 1)), .int .i64 (max (dp.getD kn 0) (IntKind.i64.wrap (dp.getD xn 0 + 1))), .pointer (some ⟨w1.heap.size, kn, none⟩), u47, undef], defers := [] } ?lo [(34, .slice (some ⟨w1.heap.size, 0, none⟩) order.length order.length), (35, .int .i64 kn), (36, .slice (some ⟨w1.heap.size, 0, none⟩) order.length order.length), (37, .int .i64 kn), (38, .pointer (some ⟨w1.heap.size, kn, none⟩)), (39, .int .i64 (dp.getD kn 0)), (40, .slice (some ⟨w1.heap.size, 0, none⟩) order.length order.length), (41, .int .i64 xn), (42, .pointer (some ⟨w1.heap.size, xn, none⟩)), (43, .int .i64 (dp.getD xn 0)), (44, .int .i64 (IntKind.i64.wrap (dp.getD xn 0 + 1))), (45, .int .i64 (max (dp.getD kn 0) (IntKind.i64.wrap (dp.getD xn 0 + 1)))), (46, .pointer (some ⟨w1.heap.size, kn, none⟩))] ?rm ?rb ?ro ?rf ?rs ?rp ?rl
          case rm => kernel_rfl
          case ro => rfl
          case rb => kernel_rfl
          case rf => simp only [rlPut, List.foldl_cons, List.foldl_nil, Act.put, List.setIfInBounds_toArray, List.set_cons_succ, List.set_cons_zero]
          case rs => rfl
          case rp =>
            refine ⟨⟨?a1, ?b1⟩, ⟨?a2, ?b2⟩, ⟨?a3, ?b3⟩, ⟨?a4, ?b4⟩, ⟨?a5, ?b5⟩, ⟨?a6, ?b6⟩, ⟨?a7, ?b7⟩, ⟨?a8, ?b8⟩, ⟨?a9, ?b9⟩, ⟨?a10, ?b10⟩, ⟨?a11, ?b11⟩, ⟨?a12, ?b12⟩, ⟨?a13, ?b13⟩, trivial⟩
            case a1 | a2 | a3 | a4 | a5 | a6 | a7 | a8 | a9 | a10 | a11 | a13 => go_simp
            case a12 => first | (go_simp; done) | (go_simp; rw [Int.max_def]; split <;> split <;> omega)
            case b1 | b2 | b3 | b4 | b5 | b6 | b7 | b8 | b9 | b10 | b11 | b12 | b13 => go_simp
          case rl =>
            go_simp
            have hW := i64_w (dp.getD xn 0 + 1)
            refine ⟨(KeepsOthers.drew V).trans (KeepsOthers.setCell _ _ _), (below_drew1 (Below.refl w.heap.size V)).setCell (p := ⟨w1.heap.size, kn, none⟩) (by show w.heap.size ≤ w1.heap.size; omega) _, (V1.out.trans (dp_drew V _)).trans (dp_set _ _ _ _), ?_⟩
            have hkl : kn < dp.length := by omega
            have hput := blk_put V2.out kn (.int .i64 (max dp[kn] (IntKind.i64.wrap (dp[xn]?.getD 0 + 1)))) rfl
            refine Eq.trans hput ?_
            have hs5 : ∀ p : List {x : Int // x ∈ cl_names (rd_T52 l0_2 (kn : Int)).f7}, p.unattach = p.map (·.1) := fun _ => rfl
            have hs3 : dpRow kn (d.set kn 1) ((pre.map (·.1)) ++ [(xn : Int)]) = dp.set kn (max (dp.getD kn 0) (wrap64 (dp.getD xn 0 + 1))) := hsn
            rw [hs5, List.map_append, List.map_cons, List.map_nil, hs3, ← hW, List.map_set]
            simp [hkl]
        case done =>
          rintro D ys V hD hys ⟨hv1, hv2⟩ hK2
          have V1 := Aside0.mk hv1
          have V2 := Aside0.mk hv2
          have KD := Aside0.mk hK2
          have YS := Aside0.mk hys
          clear hv1 hv2 hK2 hys
          gi_wp2
          refine Handed.intro (order.length - (i + 1)) (by omega) (hJ _ _ _ ?_)
          refine ⟨i + 1, dpRow kn (d.set kn 1) (ys.map (·.1)), D :: Ds, _, _, _, _, _, _, _, _, _, _, _, _, _, _, _, _, _, _, _, _, _, _, _, _, _, _, rfl, rfl, by omega, ?_, ?_, ?_, V2.out, ?_, ?_⟩
          · rw [dpRow_length]; simpa using hdl
          · rw [YS.out]
            have h5 := HLT.out
            rw [List.drop_eq_getElem_cons hlt, hk] at h5
            exact h5
          · exact HG.out.trans (gW.out.trans V1.out)
          · refine List.nodup_cons.2 ⟨fun hm => ?_, HN.out⟩
            have := blk_lt (HD.out D hm).2
            omega
          · intro E hE
            rcases List.mem_cons.1 hE with rfl | hE
            · exact ⟨by omega, KD.out⟩
            · obtain ⟨h6, h7⟩ := HD.out E hE
              refine ⟨h6, ?_⟩
              have h8 : W1.heap[E]? = W.heap[E]? := gW.out.block E (blk_lt h7) (by intro e; injection e with e; omega)
              exact (V1.out.block E (by have := blk_lt h7; omega) (by intro e; injection e with e; omega)).trans (h8.trans h7)
      · obtain rfl : i = order.length := by omega
        have p0 := blk_cell ((HG.out.block _ (blk_lt P0.out) (by intro e; injection e with e; omega)).trans P0.out) 0
        gi_wp2
        refine leaves_marks W0.heap.size Ds _ HN.out HD.out (fun W' hB' hk' => ?_) HG.out.size
        have hd : d = r1 := by have := HL.out; rwa [List.drop_length] at this
        subst hd
        have hg' : W'.heap[w1.heap.size]? = some (.cells (d.map (Value.int .i64)).toArray 3 (0, 0)) := (hk' _ (fun hm => by have := (HD.out _ hm).1; omega)).trans Hg.out
        have hB2 : Below w.heap.size W W' := hB'.mono B0.out.size
        have hB3 : Below w.heap.size w W := B0.out.grown HG.out B0.out.size (fun k e => by cases e; exact B1.out.size)
        refine ⟨.tuple #[.slice (some ⟨w1.heap.size, 0, none⟩) order.length order.length, .int .i64 0], by simp [results, Try.f32, go_sem], _, rfl, R_ints.2 ⟨fun _ _ => trivial, by rw [List.length_map, Nat.mul_one], .inr ⟨w1.heap.size, order.length, _, by rw [hdl], B1.out.size, hg', by omega, by unfold maxLen; omega, by simp [hdl], by simp [List.take_of_length_le]⟩⟩, hB3.trans hB2⟩
  · rw [if_neg he] at h
    obtain ⟨rfl, rfl⟩ := (by simpa using h : [] = r1 ∧ e0 = r2)
    have hne : (e0 != 0) = true := by rw [bne_iff_ne]; exact he
    go_enter Try.func32, Try.ntmps32
    go_wp2_with (first | (go_at_call 30; (refine (calls_Order.calls k A0_0 c0_0 l0_0 A0_1 c0_1 l0_1 A0_2 c0_2 l0_2 a0_3 order e0 _ (Kd.C_alloc HR0.out _) HC0.out (Kd.C_alloc HR1.out _) HC1.out (Kd.C_alloc HR2.out _) HC2.out HA.out).mono ?_); rintro e w1 ⟨v1, rfl, hS1, hb1'⟩; have B1 := Aside0.mk (((Below.refl w.heap.size w).alloc (Nat.le_refl _) (.cells #[.slice A0_0 l0_0.length c0_0, .slice A0_1 l0_1.length c0_1, .slice A0_2 l0_2.length c0_2, .int .i64 a0_3] 25)).trans (hb1'.mono (by simp))); obtain ⟨Aw, cw, rfl⟩ := Kd.R_slice hS1; clear hS1 hb1'))
    go_ret2
    exact ⟨_, rfl, Kd.R_nil _ _ _ _ _, B1.out⟩
end

end Go.Proofs.Ytkmnachdibhdhaa.Q
