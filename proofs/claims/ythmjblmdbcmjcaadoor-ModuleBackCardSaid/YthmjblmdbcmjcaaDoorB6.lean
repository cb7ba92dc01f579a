/- Contracts of functions of this seat. -/
import Derived.Test.YthmjblmdbcmjcaaDoorB0
import Derived.Test.YthmjblmdbcmjcaaDoorB4
namespace Go.Proofs.YthmjblmdbcmjcaaDoor.B
open Go.RowKit Go.Proofs.YthmjblmdbcmjcaaDoorW.PrintWords Go.Proofs.YthmjblmdbcmjcaaDoorW.PrintLast Go.Proofs.YthmjblmdbcmjcaaDoorW.PrintMore
attribute [local go_sem] max2_int min2_int max_two min_two max_three min_three max_four min_four
set_option linter.unusedVariables false
set_option linter.unusedSimpArgs false

/-! ### method_Read: function 76 -/
/-- A reader's three cells. -/
def MRd (W : World) (g : Nat) (A : Option Addr) (n c : Nat) (a e : Int) : Prop := W.heap[g]? = some (.cells #[.slice A n c, .int .i64 a, .int .i64 e] 133 (0, 0))
def method_reader_number.f (k : Nat) (l : List Int) (a e wd lo hi : Int) : Option (Int × Int × Int) := if e = 0 then (octet_Get.f k l a wd).bind fun g => some (g.1, g.2.1, if g.2.2 = 0 then (if g.1 < lo ∨ g.1 > hi then 70 else 0) else g.2.2) else some (0, a, e)
theorem method_reader_number.mono : ∀ a0 a1 a2 a3 a4 a5 k, LeO (method_reader_number.f k a0 a1 a2 a3 a4 a5) (method_reader_number.f (k + 1) a0 a1 a2 a3 a4 a5) := by
  intro a0 a1 a2 a3 a4 a5 k
  unfold method_reader_number.f
  exact LeO.ite (LeO.bind (octet_Get.mono _ _ _ _) fun b => LeO.refl _) (LeO.refl _)
set_option maxHeartbeats 8000000 in
set_option maxRecDepth 100000 in
theorem method_reader_number.calls (k g base : Nat) (A : Option Addr) (c : Nat) (l : List Int) (a e wd lo hi : Int) (r : Int × Int × Int) (w : World) (hg : base ≤ g) (hM : MRd w g A l.length c a e) (hr : Kd.C (Kd.int .u8) w A l.length l) (hc : l.length ≤ c) (h : method_reader_number.f k l a e wd lo hi = some r) :
    Calls Tryd.prog 105 #[.pointer (some ⟨g, 0, none⟩), .int .i64 wd, .int .i64 lo, .int .i64 hi] w fun er w' => er = .returned (.int .i64 r.1) ∧ MRd w' g A l.length c r.2.1 r.2.2 ∧ KeepBut w w' g none ∧ Below base w w' := by
  unfold method_reader_number.f at h
  by_cases he : e = 0
  · subst he
    rw [if_pos rfl] at h
    obtain ⟨⟨g1, g2, g3⟩, hq, h⟩ := Option.bind_eq_some_iff.mp h
    rw [Option.some.injEq] at h
    subst h; have HM := Aside0.mk hM; have HR := Aside0.mk hr; have HC := Aside0.mk hc; have HQ := Aside0.mk hq; have hlt := blk_lt hM; have d0 := blk_cell hM 0; have d1 := blk_cell hM 1; have d2 := blk_cell hM 2; clear hM hr hc hq
    go_enter Tryd.func105, Tryd.ntmps105
    go_wp2
    go_region_with (go_at_call 30; (refine (octet_Get.calls k A c l a wd g1 g2 g3 _ (Kd.C_drew HR.out) HC.out HQ.out).mono ?_); rintro e w1 ⟨rfl, hb⟩; have HB := Aside0.mk ((Below.drew (Below.refl w.heap.size w)).trans hb); have hk := (HB.out.block g hlt).trans HM.out; have e0 := blk_cell hk 0; have e1 := blk_cell hk 1; have e2 := blk_cell hk 2; have f1 := blk_frozen hk 1; have f2 := blk_frozen hk 2; have HK := Aside0.mk hk; clear hk hb)
    all_goals
      by_cases h3 : g3 = 0
      · subst h3
        by_cases h4 : g1 < lo
        · have b1 : decide (g1 < lo) = true := decide_eq_true h4
          go_wp2; go_ret
          try rw [if_pos rfl, if_pos (.inl h4)]
          exact ⟨rfl, blk_put (blk_put (blk_put HK.out 2 _ rfl) 2 _ rfl) 1 _ rfl, (((KeepBut.of_below HB.out g none).set_ 2 _).set_ 2 _).set_ 1 _, (((HB.out.mono (by omega)).setCell (p := ⟨g, 2, none⟩) hg _).setCell (p := ⟨g, 2, none⟩) hg _).setCell (p := ⟨g, 1, none⟩) hg _⟩
        · have b1 : decide (g1 < lo) = false := decide_eq_false h4
          by_cases h5 : hi < g1
          · have b2 : decide (hi < g1) = true := decide_eq_true h5
            go_wp2; go_ret
            try rw [if_pos rfl, if_pos (.inr h5)]
            exact ⟨rfl, blk_put (blk_put (blk_put HK.out 2 _ rfl) 2 _ rfl) 1 _ rfl, (((KeepBut.of_below HB.out g none).set_ 2 _).set_ 2 _).set_ 1 _, (((HB.out.mono (by omega)).setCell (p := ⟨g, 2, none⟩) hg _).setCell (p := ⟨g, 2, none⟩) hg _).setCell (p := ⟨g, 1, none⟩) hg _⟩
          · have b2 : decide (hi < g1) = false := decide_eq_false h5
            go_wp2; go_ret
            try rw [if_pos rfl, if_neg (by omega)]
            exact ⟨rfl, blk_put (blk_put HK.out 2 _ rfl) 1 _ rfl, ((KeepBut.of_below HB.out g none).set_ 2 _).set_ 1 _, ((HB.out.mono (by omega)).setCell (p := ⟨g, 2, none⟩) hg _).setCell (p := ⟨g, 1, none⟩) hg _⟩
      · have hn : (g3 == 0) = false := beq_eq_false_iff_ne.mpr h3
        go_wp2; go_ret
        try rw [if_neg h3]
        exact ⟨rfl, blk_put (blk_put HK.out 2 _ rfl) 1 _ rfl, ((KeepBut.of_below HB.out g none).set_ 2 _).set_ 1 _, ((HB.out.mono (by omega)).setCell (p := ⟨g, 2, none⟩) hg _).setCell (p := ⟨g, 1, none⟩) hg _⟩
  · rw [if_neg he, Option.some.injEq] at h
    subst h; have HM := Aside0.mk hM; have d2 := blk_cell hM 2
    have hn : (e != 0) = true := by rw [bne_iff_ne]; exact he
    clear hM hr hc
    go_enter Tryd.func105, Tryd.ntmps105
    go_wp2; go_ret; exact ⟨rfl, HM.out, KeepBut.of_below (Below.refl _ _) g none, Below.refl _ _⟩
set_option maxHeartbeats 8000000 in
set_option maxRecDepth 100000 in
theorem method_reader_kind.calls (k g base : Nat) (A : Option Addr) (c : Nat) (l : List Int) (a e : Int) (r : Int × Int × Int) (w : World) (hg : base ≤ g) (hM : MRd w g A l.length c a e) (hr : Kd.C (Kd.int .u8) w A l.length l) (hc : l.length ≤ c) (h : method_reader_number.f k l a e 1 1 3 = some r) :
    Calls Tryd.prog 104 #[.pointer (some ⟨g, 0, none⟩)] w fun er w' => er = .returned (.int .u8 (r.1 % 256)) ∧ MRd w' g A l.length c r.2.1 r.2.2 ∧ KeepBut w w' g none ∧ Below base w w' := by
  have HM := Aside0.mk hM; have HR := Aside0.mk hr; have HC := Aside0.mk hc; have HH := Aside0.mk h; clear hM hr hc h
  go_enter Tryd.func104, Tryd.ntmps104
  go_wp2_with (go_at_call 105; (refine (method_reader_number.calls k g base A c l a e 1 1 3 r _ hg HM.out HR.out HC.out HH.out).mono ?_); rintro e w1 ⟨rfl, hm, hk, hb⟩; have M1 := Aside0.mk hm; have K1 := Aside0.mk hk; have B1 := Aside0.mk hb; clear hm hk hb)
  go_ret; exact ⟨rfl, M1.out, K1.out, B1.out⟩
def method_row_fill.l0 (k : Nat) (l : List Int) : Nat → Int → Int → List Int → Option (List Int × Int × Int)
  | 0, a, e, acc => some (acc, a, e)
  | d + 1, a, e, acc => (method_reader_number.f k l a e 1 1 3).bind fun v => if acc.length < 1000 then method_row_fill.l0 k l d v.2.1 v.2.2 (acc ++ [v.1 % 256]) else none
theorem method_row_fill.mono (l : List Int) : ∀ (d k : Nat) (a e : Int) (acc : List Int), LeO (method_row_fill.l0 k l d a e acc) (method_row_fill.l0 (k + 1) l d a e acc) := by
  intro d
  induction d with
  | zero => intro k a e acc; exact LeO.refl _
  | succ d ih =>
    intro k a e acc; simp only [method_row_fill.l0]
    exact LeO.bind (method_reader_number.mono _ _ _ _ _ _ _) fun v => LeO.ite (ih _ _ _ _) (LeO.refl _)
theorem method_reader_number.calls3 (k g base : Nat) (A : Option Addr) (c : Nat) (l : List Int) (a e wd lo hi r1 r2 r3 : Int) (w : World) (hg : base ≤ g) (hM : MRd w g A l.length c a e) (hr : Kd.C (Kd.int .u8) w A l.length l) (hc : l.length ≤ c) (h : method_reader_number.f k l a e wd lo hi = some (r1, r2, r3)) :
    Calls Tryd.prog 105 #[.pointer (some ⟨g, 0, none⟩), .int .i64 wd, .int .i64 lo, .int .i64 hi] w fun er w' => er = .returned (.int .i64 r1) ∧ MRd w' g A l.length c r2 r3 ∧ KeepBut w w' g none ∧ Below base w w' :=
  method_reader_number.calls k g base A c l a e wd lo hi (r1, r2, r3) w hg hM hr hc h
theorem method_reader_kind.calls3 (k g base : Nat) (A : Option Addr) (c : Nat) (l : List Int) (a e r1 r2 r3 : Int) (w : World) (hg : base ≤ g) (hM : MRd w g A l.length c a e) (hr : Kd.C (Kd.int .u8) w A l.length l) (hc : l.length ≤ c) (h : method_reader_number.f k l a e 1 1 3 = some (r1, r2, r3)) :
    Calls Tryd.prog 104 #[.pointer (some ⟨g, 0, none⟩)] w fun er w' => er = .returned (.int .u8 (r1 % 256)) ∧ MRd w' g A l.length c r2 r3 ∧ KeepBut w w' g none ∧ Below base w w' :=
  method_reader_kind.calls k g base A c l a e (r1, r2, r3) w hg hM hr hc h
theorem goesV_ {P : Program} {ops : Array Oper} {Q : Exit → Act → World → Prop} {oi : Oper} {N : Option Tmp} {a : Act} {w : World} {K : Act → World → Prop} {f : FuncId} (fn : Func) (hf : P.funcs[f]? = some fn) (hname : (fn.name == "runtime.NumGoroutine") = false) (hb : fn.body.isSome = true) (s : Operand) (args : Array Value)
    (hw : Region.wanted oi (yielded ops a.tmps) = true) (hN : oi.dst = N) (hop : oi.op = .call { callee := .value s, args := #[], argTypes := #[] }) (hs : a.eval s = .func (.func f) args #[])
    (h : Calls P f args w fun e w' => ∃ v, e = .returned v ∧ K (a.put N v) w') : if Region.wanted oi (yielded ops a.tmps) = true then Oper.wp P oi a w K Q else K (a.put N undef) w := by
  refine call_ f args hw hN ?_ h; have he := enters_ hf hname hb args w
  unfold execOp
  simp [hop, resolve, Deferred.ofValue, invoke, hs, he]
theorem keepBut_past {w w1 w2 : World} {g : Nat} {row : Option Nat} (h : KeepBut w w1 g row) (hb : Below w.heap.size w1 w2) : KeepBut w w2 g row := ⟨Nat.le_trans h.1 hb.size, fun i hi h1 h2 => (hb.block i hi).trans (h.2 i hi h1 h2)⟩
theorem keepBut_setRow {w W : World} {g gr : Nat} (h : KeepBut w W g (some gr)) (j : Nat) (u : Value) : KeepBut w (W.setCell ⟨gr, j, none⟩ u) g (some gr) := ⟨by have := h.1; simpa using this, fun i hi h1 h2 => (Below.heap_setCell W ⟨gr, j, none⟩ u i (fun e => h2 (by rw [e]))).trans (h.2 i hi h1 h2)⟩
theorem keepBut_more {w w1 : World} {g : Nat} (h : KeepBut w w1 g none) (gr : Nat) : KeepBut w w1 g (some gr) := ⟨h.1, fun i hi hg _ => h.2 i hi hg (by simp)⟩
set_option maxHeartbeats 8000000 in
set_option maxRecDepth 100000 in
theorem method_row_fill.calls (k g gr base : Nat) (A : Option Addr) (c : Nat) (l : List Int) (a e m : Int) (z1 : List Int) (z2 z3 : Int) (w : World) (hg : base ≤ g) (hgr : base ≤ gr) (hne : gr ≠ g) (hM : MRd w g A l.length c a e) (hrow : w.heap[gr]? = some (.cells #[.slice none 0 0] 138 (0, 0))) (hr : Kd.C (Kd.int .u8) w A l.length l) (hrb : ∀ W', Below base w W' → Kd.C (Kd.int .u8) W' A l.length l) (hc : l.length ≤ c) (hm : m ≤ 1000) (h : method_row_fill.l0 k l m.toNat a e [] = some (z1, z2, z3)) :
    Calls Tryd.prog 106 #[.pointer (some ⟨gr, 0, none⟩), .int .i64 m, .func (.func 104) #[.pointer (some ⟨g, 0, none⟩)] #[]] w fun er w' => ∃ v, er = .returned v ∧ Kd.R (Kd.int .u8) 5 w' w.heap.size (fun k_ => k_ ≠ g ∧ k_ ≠ gr) v z1 ∧ MRd w' g A l.length c z2 z3 ∧ KeepBut w w' g (some gr) ∧ Below base w w' := by
  have HM := Aside0.mk hM; have HO := Aside0.mk hrow; have HR := Aside0.mk hrb; have HC := Aside0.mk hc; have HH := Aside0.mk h; have LG := Aside0.mk (blk_lt hM); have LR := Aside0.mk (blk_lt hrow); clear hM hrow hr hrb hc h
  go_enter Tryd.func106, Tryd.ntmps106
  go_wp2
  go_loopw [8] (fun u wr => ∃ (i : Nat) (a e : Int) (acc : List Int) (va : Value), u = .int .i64 (i : Int) ∧ i ≤ m.toNat ∧ Aside0 (method_row_fill.l0 k l (m.toNat - i) a e acc = some (z1, z2, z3)) ∧ Aside0 (MRd wr g A l.length c a e) ∧ Aside0 (wr.heap[gr]? = some (.cells #[va] 138 (0, 0))) ∧ Aside0 (Kd.R (Kd.int .u8) 5 wr w.heap.size (fun k_ => k_ ≠ g ∧ k_ ≠ gr) va acc) ∧ Aside0 (KeepBut w wr g (some gr)) ∧ Aside0 (Below base w wr))
    (fun u _ => m.toNat - (intOf u).toNat)
  case atStart => exact ⟨0, a, e, [], _, rfl, Nat.zero_le _, HH, HM, HO, ⟨Kd.R_nil _ _ _ _ _⟩, ⟨KeepBut.refl _ _ _⟩, ⟨Below.refl _ _⟩⟩
  case round =>
    obtain ⟨i, a, e, acc, va, rfl, hi, HL6, HM6, HO6, HA6, HK6, HB6⟩ := hrel; have r6 := blk_cell HO6.out 0
    by_cases hlt : (i : Int) < m
    · have hl := HL6.out
      rw [show m.toNat - i = (m.toNat - (i + 1)) + 1 by omega, method_row_fill.l0] at hl; obtain ⟨⟨v1, v2, v3⟩, hv, hl⟩ := Option.bind_eq_some_iff.mp hl; have HV := Aside0.mk hv; clear hv HL6; dsimp only at hl
      by_cases hla : acc.length < 1000
      · rw [if_pos hla] at hl
        have HN := Aside0.mk hl; clear hl; go_wp2; refine start_ (n := 12) (S := fun w' => w'.cell? ⟨gr, 0, none⟩ = some va) (ds := [11]) #[false, false, false, false, false, false, false, false, false, false, false, false] (by kernel_rfl) rfl rfl (r6) (fun hHeld => ?_); refine pure_ (i := 0) (N := some 10) (v := ?_) (a' := ?_) #[true, false, false, false, false, false, false, false, false, false, false, false] rfl rfl (by kernel_rfl) (fun _ _ _ h => h) (Or.inl ⟨by rfl, ?_⟩) ?_ ?_; rotate_left
        · intro w'
          go_simp; with_reducible rfl
        rotate_left
        · simp only [Act.put, List.setIfInBounds_toArray, List.set_cons_zero, List.set_cons_succ, i64_w, i32_w]
          rfl
        refine pure_ (i := 1) (N := some 11) (v := ?_) (a' := ?_) #[true, true, false, false, false, false, false, false, false, false, false, false] rfl rfl (by kernel_rfl) (fun _ _ _ h => h) (Or.inl ⟨by rfl, ?_⟩) ?_ ?_; rotate_left
        · intro w'
          go_simp; with_reducible rfl
        rotate_left
        · simp only [Act.put, List.setIfInBounds_toArray, List.set_cons_zero, List.set_cons_succ, i64_w, i32_w]
          rfl
        refine pure_ (i := 2) (N := some 12) (v := ?_) (a' := ?_) #[true, true, true, false, false, false, false, false, false, false, false, false] rfl rfl (by kernel_rfl) (fun _ _ _ h => h) (Or.inl ⟨by rfl, ?_⟩) ?_ ?_; rotate_left
        · intro w'
          go_simp; with_reducible rfl
        rotate_left
        · simp only [Act.put, List.setIfInBounds_toArray, List.set_cons_zero, List.set_cons_succ, i64_w, i32_w]
          rfl
        refine pure_ (i := 3) (N := some 13) (v := ?_) (a' := ?_) #[true, true, true, true, false, false, false, false, false, false, false, false] rfl rfl (by kernel_rfl) (fun _ _ _ h => h) (Or.inl ⟨by rfl, ?_⟩) ?_ ?_; rotate_left
        · intro w'
          go_simp; with_reducible rfl
        rotate_left
        · simp only [Act.put, List.setIfInBounds_toArray, List.set_cons_zero, List.set_cons_succ, i64_w, i32_w]
          rfl
        refine pure_ (i := 5) (N := some 15) (v := ?_) (a' := ?_) #[true, true, true, true, false, true, false, false, false, false, false, false] rfl rfl (by kernel_rfl) (fun _ _ _ h => h) (Or.inl ⟨by rfl, ?_⟩) ?_ ?_; rotate_left
        · intro w'
          go_simp; with_reducible rfl
        rotate_left
        · simp only [Act.put, List.setIfInBounds_toArray, List.set_cons_zero, List.set_cons_succ, i64_w, i32_w]
          rfl
        refine take_ (i := 4) (N := some 14) (v := ?_) (a' := ?_) #[true, true, true, true, true, true, false, false, false, false, false, false] rfl rfl (by kernel_rfl) (fun _ _ _ h => h) (Or.inl ⟨by rfl, ?_⟩) hHeld ?_ ?_; rotate_left
        · intro w' s0
          go_simp; with_reducible rfl
        rotate_left
        · simp only [Act.put, List.setIfInBounds_toArray, List.set_cons_zero, List.set_cons_succ, i64_w, i32_w]
          rfl
        refine one_ (i := 6) (N := some 16) #[true, true, true, true, true, true, true, false, false, false, false, false] rfl rfl (by kernel_rfl) (by decide) (fun K hK => ?_); refine goesV_ Tryd.f104 (by kernel_rfl) rfl rfl (.tmp 15) #[.pointer (some ⟨g, 0, none⟩)] (by rfl) rfl rfl rfl ?_; refine (method_reader_kind.calls3 k g base A c l a e v1 v2 v3 _ hg ?hM (HR.out _ HB6.out.drew) HC.out HV.out).mono ?_
        case hM => exact HM6.out
        rintro er w7 ⟨rfl, hm7, hk7, hb7⟩; have hO7 := hk7.blk (show wr.drew.heap[gr]? = _ from HO6.out) hne (by simp); have M6 := Aside0.mk hm7; have A7 := Aside0.mk (Kd.R_keep (Kd.R_drew HA6.out) hk7 (fun _ h => h.1)); have K6 := Aside0.mk ((keep_drew HK6.out).trans (keepBut_more hk7 gr) (.inl rfl)); have B6 := Aside0.mk (HB6.out.drew.trans hb7); clear hm7 hk7 hb7; refine ⟨_, rfl, ?_⟩; refine hK.out _ _ ((blk_cell hO7 0)) (fun hHeld => ?_); clear hK K; refine norm_ (a' := ?_) ?_ ?_; rotate_left
        · show Act.put _ (some 16) _ = _
          simp only [Act.put, List.setIfInBounds_toArray, List.set_cons_zero, List.set_cons_succ, i64_w, i32_w]; rfl
        refine one_ (i := 7) (N := some 17) #[true, true, true, true, true, true, true, true, false, false, false, false] rfl rfl (by kernel_rfl) (by decide) (fun K hK => ?_); refine value_ (w1 := ?_) (v := ?_) (by rfl) rfl ?_ ?_; rotate_left 2
        · go_simp
          constructor
          · rfl
          · rfl
        refine hK.out _ _ ((blk_cell (blk_alloc hO7 (.cells #[.int .u8 (v1 % 256)] 5)) 0)) (fun hHeld => ?_); clear hK K; refine norm_ (a' := ?_) ?_ ?_; rotate_left
        · show Act.put _ (some 17) _ = _
          simp only [Act.put, List.setIfInBounds_toArray, List.set_cons_zero, List.set_cons_succ, i64_w, i32_w]; rfl
        refine one_ (i := 8) (N := some 18) #[true, true, true, true, true, true, true, true, true, false, false, false] rfl rfl (by kernel_rfl) (by decide) (fun K hK => ?_); refine Kd.R_append_step (Kd.int .u8) (w0 := w7) w.heap.size (by rfl) (.tmp 14) (.tmp 17) 22 5 (.int .u8 0) 1 rfl Tryd.underlying22 info5 rfl (by decide) (by omega) va acc (v1 % 256) [.int .u8 (v1 % 256)] (fun k_ => k_ ≠ g ∧ k_ ≠ gr) (fun _ => False) rfl rfl ?aP (fun _ hk => hk.elim) ?aF A7.out (Below.refl _ _) K6.out.1 ?aL ?_
        case aP => exact rfl
        case aF => exact fun k_ hk => by have h1_ := K6.out.1; have := LG.out; have := LR.out; exact ⟨by omega, by omega⟩
        case aL => omega
        intro v9 w9 ho hb9 hg9 hat; obtain ⟨A9a, c9, rfl⟩ := Kd.R_slice ho; rw [List.length_append, List.length_singleton] at ho ⊢; have O9 := Aside0.mk ((hb9.block gr LR.out).trans hO7); have r9 := blk_cell O9.out 0; have s9 := blk_frozen O9.out 0; have M9 := Aside0.mk ((hb9.block g LG.out).trans (show w7.heap[g]? = _ from M6.out)); have A9 := Aside0.mk ho; have K9 := Aside0.mk (keepBut_past K6.out hb9); have B9 := Aside0.mk (B6.out.trans (hb9.mono (Nat.le_trans hg (Nat.le_of_lt LG.out)))); clear ho hb9 hg9 hat; refine hK.out _ _ (r9) (fun hHeld => ?_); clear hK K; refine norm_ (a' := ?_) ?_ ?_; rotate_left
        · show Act.put _ (some 18) _ = _
          simp only [Act.put, List.setIfInBounds_toArray, List.set_cons_zero, List.set_cons_succ, i64_w, i32_w]; rfl
        refine pure_ (i := 9) (N := some 19) (v := ?_) (a' := ?_) #[true, true, true, true, true, true, true, true, true, true, false, false] rfl rfl (by kernel_rfl) (fun _ _ _ h => h) (Or.inl ⟨by rfl, ?_⟩) ?_ ?_; rotate_left
        · intro w'
          go_simp; with_reducible rfl
        rotate_left
        · simp only [Act.put, List.setIfInBounds_toArray, List.set_cons_zero, List.set_cons_succ, i64_w, i32_w]
          rfl
        refine pure_ (i := 10) (N := some 20) (v := ?_) (a' := ?_) #[true, true, true, true, true, true, true, true, true, true, true, false] rfl rfl (by kernel_rfl) (fun _ _ _ h => h) (Or.inl ⟨by rfl, ?_⟩) ?_ ?_; rotate_left
        · intro w'
          go_simp; with_reducible rfl
        rotate_left
        · simp only [Act.put, List.setIfInBounds_toArray, List.set_cons_zero, List.set_cons_succ, i64_w, i32_w]
          rfl
        refine last_ (i := 11) (N := none) #[true, true, true, true, true, true, true, true, true, true, true, true] rfl rfl (by kernel_rfl) (by decide) (fun K hK => ?_); refine skip_ (w1 := ?_) (by rfl) rfl ?_ ?_; rotate_left
        · go_simp
          rfl
        refine hK.out _ _ ?_; clear hK K; refine done_ (by kernel_rfl) ?_; go_wp2
        go_roundw
        case rel => exact ⟨i + 1, v2, v3, acc ++ [v1 % 256], _, by first | rfl | simp, by omega, HN, ⟨blk_far M9.out (p := ⟨gr, 0, none⟩) (fun e => hne e.symm) _⟩, ⟨blk_put O9.out 0 _ rfl⟩, ⟨Kd.R_far (p := ⟨gr, 0, none⟩) A9.out (fun _ hk => hk.2) _⟩, ⟨keepBut_setRow K9.out 0 _⟩, ⟨B9.out.setCell (p := ⟨gr, 0, none⟩) hgr _⟩⟩
        case measure => simp [intOf]; omega
      · rw [if_neg hla] at hl; cases hl
    · have HL := HL6.out
      rw [show m.toNat - i = 0 by omega, method_row_fill.l0] at HL; simp only [Option.some.injEq, Prod.mk.injEq] at HL; obtain ⟨rfl, rfl, rfl⟩ := HL; have hdec : decide ((i : Int) < m) = false := decide_eq_false hlt; go_wp2; go_ret; exact ⟨_, rfl, HA6.out, HM6.out, HK6.out, HB6.out⟩
theorem method_reader_number.within {k : Nat} {l : List Int} {a e wd lo hi r1 r2 : Int} (h : method_reader_number.f k l a e wd lo hi = some (r1, r2, 0)) : lo ≤ r1 ∧ r1 ≤ hi := by
  unfold method_reader_number.f at h
  by_cases he : e = 0
  · rw [if_pos he] at h
    obtain ⟨⟨g1, g2, g3⟩, hq, h⟩ := Option.bind_eq_some_iff.mp h
    simp only [Option.some.injEq, Prod.mk.injEq] at h
    obtain ⟨rfl, rfl, h9⟩ := h
    by_cases h3 : g3 = 0
    · rw [if_pos h3] at h9
      by_cases h4 : g1 < lo ∨ g1 > hi
      · rw [if_pos h4] at h9; exact absurd h9 (by decide)
      · omega
    · rw [if_neg h3] at h9; exact absurd h9 h3
  · rw [if_neg he] at h
    simp only [Option.some.injEq, Prod.mk.injEq] at h
    exact absurd h.2.2 he
theorem method_reader_number.stays {k : Nat} {l : List Int} {a e wd lo hi r1 r2 : Int} (he : e ≠ 0) (h : method_reader_number.f k l a e wd lo hi = some (r1, r2, 0)) : False := by
  unfold method_reader_number.f at h
  rw [if_neg he] at h
  simp only [Option.some.injEq, Prod.mk.injEq] at h
  exact he h.2.2
def method_Read.rows (k : Nat) (l : List Int) (n a e : Int) : Option (List Int × Int × Int) := if e = 0 then method_row_fill.l0 k l n.toNat a e [] else some ([], a, e)
def method_Read.tail (k : Nat) (l A L : List Int) (a e : Int) : Option (List Int × List Int × Int × Bool × Int × Int × Int × List S75 × Int × Int) :=
  (method_reader_number.f k l a e 1 1 2).bind fun r => (method_reader_number.f k l r.2.1 r.2.2 1 0 1).bind fun b => (method_reader_number.f k l b.2.1 b.2.2 3 0 1048576).bind fun u => (method_reader_number.f k l u.2.1 u.2.2 2 0 256).bind fun s => (method_reader_number.f k l s.2.1 s.2.2 2 0 1024).bind fun h => some (if h.2.2 = 0 then (A, L, r.1 % 256, b.1 == 1, u.1, s.1, h.1, [], h.2.1, 0) else ([], [], 0, false, 0, 0, 0, [], 0, h.2.2))
def method_Read.f (k : Nat) (l : List Int) (a : Int) : Option (List Int × List Int × Int × Bool × Int × Int × Int × List S75 × Int × Int) :=
  (method_reader_number.f k l a 0 1 0 4).bind fun p => if 0 ≤ p.1 ∧ p.1 ≤ 1000 then (method_Read.rows k l p.1 p.2.1 p.2.2).bind fun A => (method_reader_number.f k l A.2.1 A.2.2 1 0 (16 - p.1)).bind fun q => (method_Read.rows k l q.1 q.2.1 q.2.2).bind fun L => method_Read.tail k l A.1 L.1 L.2.1 L.2.2 else none
theorem method_Read.mono_rows : ∀ l n a e k, LeO (method_Read.rows k l n a e) (method_Read.rows (k + 1) l n a e) := by
  intro l n a e k
  unfold method_Read.rows
  exact LeO.ite (method_row_fill.mono _ _ _ _ _ _) (LeO.refl _)
theorem method_Read.mono_tail : ∀ l A L a e k, LeO (method_Read.tail k l A L a e) (method_Read.tail (k + 1) l A L a e) := by
  intro l A L a e k
  unfold method_Read.tail
  exact LeO.bind (method_reader_number.mono _ _ _ _ _ _ _) fun r => LeO.bind (method_reader_number.mono _ _ _ _ _ _ _) fun b => LeO.bind (method_reader_number.mono _ _ _ _ _ _ _) fun u => LeO.bind (method_reader_number.mono _ _ _ _ _ _ _) fun s => LeO.bind (method_reader_number.mono _ _ _ _ _ _ _) fun h => LeO.refl _
theorem method_Read.mono : ∀ a0 a1 k, LeO (method_Read.f k a0 a1) (method_Read.f (k + 1) a0 a1) := by
  intro l a k
  unfold method_Read.f
  exact LeO.bind (method_reader_number.mono _ _ _ _ _ _ _) fun p => LeO.ite (LeO.bind (method_Read.mono_rows _ _ _ _ _) fun A => LeO.bind (method_reader_number.mono _ _ _ _ _ _ _) fun q => LeO.bind (method_Read.mono_rows _ _ _ _ _) fun L => method_Read.mono_tail _ _ _ _ _ _) (LeO.refl _)
/-- A method with nothing in it. -/
abbrev method_Read.Z : Obj := .cells #[.slice none 0 0, .slice none 0 0, .int .u8 0, .bool false, .int .i64 0, .int .i64 0, .int .i64 0, .slice none 0 0] 47
/-- The three blocks: the result, the reader, the method that is filled. -/
def MSt (w W : World) (A : Option Addr) (m c : Nat) (a e : Int) (v0 v1 x2 x3 x4 x5 x6 : Value) (xs0 xs1 : List Int) : Prop :=
  MRd W (w.heap.size + 1) A m c a e ∧ W.heap[w.heap.size + 1 + 1]? = some (.cells #[v0, v1, x2, x3, x4, x5, x6, .slice none 0 0] 47 (0, 0)) ∧ W.heap[w.heap.size]? = some method_Read.Z ∧ Below w.heap.size w W ∧
    Kd.R (Kd.int .u8) 5 W w.heap.size (fun k => (k ≠ w.heap.size ∧ k ≠ w.heap.size + 1 ∧ k ≠ w.heap.size + 1 + 1) ∧ some k ≠ v1.ownBlock) v0 xs0 ∧ Kd.R (Kd.int .u8) 5 W w.heap.size (fun k => (k ≠ w.heap.size ∧ k ≠ w.heap.size + 1 ∧ k ≠ w.heap.size + 1 + 1) ∧ some k ≠ v0.ownBlock) v1 xs1
theorem MSt.num {w W : World} {A : Option Addr} {c : Nat} {a e : Int} {v0 v1 x2 x3 x4 x5 x6 : Value} {xs0 xs1 l : List Int} (k : Nat) (wd lo hi r1 r2 r3 : Int) (hS : MSt w W A l.length c a e v0 v1 x2 x3 x4 x5 x6 xs0 xs1) (hr : Kd.C (Kd.int .u8) w A l.length l) (hc : l.length ≤ c) (h : method_reader_number.f k l a e wd lo hi = some (r1, r2, r3)) :
    Calls Tryd.prog 105 #[.pointer (some ⟨w.heap.size + 1, 0, none⟩), .int .i64 wd, .int .i64 lo, .int .i64 hi] W fun er w' => er = .returned (.int .i64 r1) ∧ MSt w w' A l.length c r2 r3 v0 v1 x2 x3 x4 x5 x6 xs0 xs1 := by
  obtain ⟨h1, h2, h3, h4, h5, h6⟩ := hS; refine (method_reader_number.calls3 k (w.heap.size + 1) w.heap.size A c l a e wd lo hi r1 r2 r3 W (by omega) h1 (Kd.C_below hr h4) hc h).mono ?_; rintro er w' ⟨rfl, hm, hk, hb⟩; exact ⟨rfl, hm, hk.blk h2 (by omega) (by simp), hk.blk h3 (by omega) (by simp), h4.trans hb, Kd.R_keep h5 hk (fun _ h => h.1.2.1), Kd.R_keep h6 hk (fun _ h => h.1.2.1)⟩
theorem MSt.zero (w : World) (A : Option Addr) (m c : Nat) (a : Int) : MSt w (((w.alloc method_Read.Z).alloc (.cells #[.slice A m c, .int .i64 a, .int .i64 0] 133)).alloc method_Read.Z) A m c a 0 (.slice none 0 0) (.slice none 0 0) (.int .u8 0) (.bool false) (.int .i64 0) (.int .i64 0) (.int .i64 0) [] [] := by
  refine ⟨blk_alloc ?_ _, ?_, blk_alloc (blk_alloc (blk_new w _) _) _, below_alloc (below_alloc (below_alloc (Below.refl w.heap.size w) _) _) _, Kd.R_nil _ _ _ _ _, Kd.R_nil _ _ _ _ _⟩
  · have h_ := blk_new (w.alloc method_Read.Z) (.cells #[.slice A m c, .int .i64 a, .int .i64 0] 133)
    rw [World.size_alloc] at h_; exact h_
  · have h_ := blk_new ((w.alloc method_Read.Z).alloc (.cells #[.slice A m c, .int .i64 a, .int .i64 0] 133)) method_Read.Z
    rw [World.size_alloc, World.size_alloc] at h_; exact h_
theorem MSt.far {w W : World} {A : Option Addr} {m c : Nat} {a e : Int} {v0 v1 x2 x3 x4 x5 x6 y2 y3 y4 y5 y6 u : Value} {xs0 xs1 : List Int} (j : Nat) (hS : MSt w W A m c a e v0 v1 x2 x3 x4 x5 x6 xs0 xs1) (hj : (#[v0, v1, x2, x3, x4, x5, x6, .slice none 0 0] : Array Value).setIfInBounds j u = #[v0, v1, y2, y3, y4, y5, y6, .slice none 0 0]) : MSt w (W.setCell ⟨w.heap.size + 1 + 1, j, none⟩ u) A m c a e v0 v1 y2 y3 y4 y5 y6 xs0 xs1 := by
  obtain ⟨h1, h2, h3, h4, h5, h6⟩ := hS; exact ⟨blk_far h1 (p := ⟨w.heap.size + 1 + 1, j, none⟩) (by show w.heap.size + 1 ≠ w.heap.size + 1 + 1; omega) _, blk_put h2 j _ hj, blk_far h3 (p := ⟨w.heap.size + 1 + 1, j, none⟩) (by show w.heap.size ≠ w.heap.size + 1 + 1; omega) _, h4.setCell (p := ⟨w.heap.size + 1 + 1, j, none⟩) (by show w.heap.size ≤ w.heap.size + 1 + 1; omega) _, Kd.R_far (p := ⟨w.heap.size + 1 + 1, j, none⟩) h5 (fun _ h => h.1.2.2) _, Kd.R_far (p := ⟨w.heap.size + 1 + 1, j, none⟩) h6 (fun _ h => h.1.2.2) _⟩
theorem MSt.fillA {w W : World} {A : Option Addr} {c : Nat} {a e : Int} {x2 x3 x4 x5 x6 : Value} {l : List Int} (k : Nat) (m : Int) (z1 : List Int) (z2 z3 : Int) (hS : MSt w W A l.length c a e (.slice none 0 0) (.slice none 0 0) x2 x3 x4 x5 x6 [] []) (hr : Kd.C (Kd.int .u8) w A l.length l) (hc : l.length ≤ c) (hm : m ≤ 1000) (h : method_row_fill.l0 k l m.toNat a e [] = some (z1, z2, z3)) :
    Calls Tryd.prog 106 #[.pointer (some ⟨W.heap.size, 0, none⟩), .int .i64 m, .func (.func 104) #[.pointer (some ⟨w.heap.size + 1, 0, none⟩)] #[]] (W.alloc (.cells #[.slice none 0 0] 138)) fun er w' => ∃ Av cv, er = .returned (.slice Av z1.length cv) ∧ w'.heap[w.heap.size + 1 + 1]? = some (.cells #[.slice none 0 0, .slice none 0 0, x2, x3, x4, x5, x6, .slice none 0 0] 47 (0, 0)) ∧ MSt w (w'.setCell ⟨w.heap.size + 1 + 1, 0, none⟩ (.slice Av z1.length cv)) A l.length c z2 z3 (.slice Av z1.length cv) (.slice none 0 0) x2 x3 x4 x5 x6 z1 [] := by
  obtain ⟨h1, h2, h3, h4, h5, h6⟩ := hS; have hlt := blk_lt h2; refine (method_row_fill.calls k (w.heap.size + 1) W.heap.size w.heap.size A c l a e m z1 z2 z3 _ (by omega) h4.size (by omega) (blk_alloc h1 _) (blk_new W _) (Kd.C_below hr (below_alloc h4 _)) (fun W' hW => Kd.C_below hr ((below_alloc h4 _).trans hW)) hc hm h).mono ?_; rintro er w' ⟨v, rfl, hv, hM, hk, hb⟩; obtain ⟨Av, cv, rfl⟩ := Kd.R_slice hv; have hm2 := hk.blk (blk_alloc h2 _) (by omega) (by simp; omega); have hvb := Kd.R_bound hv; have hlow := Kd.R_lower hvb (show w.heap.size ≤ (W.alloc (.cells #[.slice none 0 0] 138)).heap.size by rw [World.size_alloc]; omega); refine ⟨Av, cv, rfl, hm2, blk_far hM (p := ⟨w.heap.size + 1 + 1, 0, none⟩) (by show w.heap.size + 1 ≠ w.heap.size + 1 + 1; omega) _, blk_put hm2 0 _ rfl, blk_far (hk.blk (blk_alloc h3 _) (by omega) (by simp; omega)) (p := ⟨w.heap.size + 1 + 1, 0, none⟩) (by show w.heap.size ≠ w.heap.size + 1 + 1; omega) _, ((below_alloc h4 _).trans hb).setCell (p := ⟨w.heap.size + 1 + 1, 0, none⟩) (by show w.heap.size ≤ w.heap.size + 1 + 1; omega) _, Kd.R_far (p := ⟨w.heap.size + 1 + 1, 0, none⟩) (Kd.R_mono hlow (fun k_ hk_ => by have h_ := hk_.2.1; rw [World.size_alloc] at h_; refine ⟨⟨by omega, by omega, by omega⟩, ?_⟩; simp [Value.ownBlock])) (fun _ h => h.1.2.2) _, Kd.R_mono (Kd.R_nil _ _ _ _ (fun _ => False)) (fun _ h => h.elim)⟩
theorem MSt.fillL {w W : World} {A : Option Addr} {c : Nat} {a e : Int} {v0 x2 x3 x4 x5 x6 : Value} {xs0 l : List Int} (k : Nat) (m : Int) (z1 : List Int) (z2 z3 : Int) (hS : MSt w W A l.length c a e v0 (.slice none 0 0) x2 x3 x4 x5 x6 xs0 []) (hr : Kd.C (Kd.int .u8) w A l.length l) (hc : l.length ≤ c) (hm : m ≤ 1000) (h : method_row_fill.l0 k l m.toNat a e [] = some (z1, z2, z3)) :
    Calls Tryd.prog 106 #[.pointer (some ⟨W.heap.size, 0, none⟩), .int .i64 m, .func (.func 104) #[.pointer (some ⟨w.heap.size + 1, 0, none⟩)] #[]] (W.alloc (.cells #[.slice none 0 0] 138)) fun er w' => ∃ Av cv, er = .returned (.slice Av z1.length cv) ∧ w'.heap[w.heap.size + 1 + 1]? = some (.cells #[v0, .slice none 0 0, x2, x3, x4, x5, x6, .slice none 0 0] 47 (0, 0)) ∧ MSt w (w'.setCell ⟨w.heap.size + 1 + 1, 1, none⟩ (.slice Av z1.length cv)) A l.length c z2 z3 v0 (.slice Av z1.length cv) x2 x3 x4 x5 x6 xs0 z1 := by
  obtain ⟨h1, h2, h3, h4, h5, h6⟩ := hS; have hlt := blk_lt h2; refine (method_row_fill.calls k (w.heap.size + 1) W.heap.size w.heap.size A c l a e m z1 z2 z3 _ (by omega) h4.size (by omega) (blk_alloc h1 _) (blk_new W _) (Kd.C_below hr (below_alloc h4 _)) (fun W' hW => Kd.C_below hr ((below_alloc h4 _).trans hW)) hc hm h).mono ?_; rintro er w' ⟨v, rfl, hv, hM, hk, hb⟩; obtain ⟨Av, cv, rfl⟩ := Kd.R_slice hv; have hm2 := hk.blk (blk_alloc h2 _) (by omega) (by simp; omega); have hvb := Kd.R_bound hv; have hlow := Kd.R_lower hvb (show w.heap.size ≤ (W.alloc (.cells #[.slice none 0 0] 138)).heap.size by rw [World.size_alloc]; omega); refine ⟨Av, cv, rfl, hm2, blk_far hM (p := ⟨w.heap.size + 1 + 1, 1, none⟩) (by show w.heap.size + 1 ≠ w.heap.size + 1 + 1; omega) _, blk_put hm2 1 _ rfl, blk_far (hk.blk (blk_alloc h3 _) (by omega) (by simp; omega)) (p := ⟨w.heap.size + 1 + 1, 1, none⟩) (by show w.heap.size ≠ w.heap.size + 1 + 1; omega) _, ((below_alloc h4 _).trans hb).setCell (p := ⟨w.heap.size + 1 + 1, 1, none⟩) (by show w.heap.size ≤ w.heap.size + 1 + 1; omega) _, Kd.R_far (p := ⟨w.heap.size + 1 + 1, 1, none⟩) (Kd.R_mono (Kd.R_step (Kd.R_alloc (Kd.R_bound h5) (.cells #[.slice none 0 0] 138)) (fun k_ ho_ hl_ => hk.2 k_ hl_ ho_.1.1.2.1 (by have := ho_.2.2.1; simp; omega))) (fun k_ hk_ => ⟨hk_.1.1, fun e_ => by have h_ := (hvb.1 k_ e_.symm).2.1; have h9_ := hk_.2.2.1; rw [World.size_alloc] at h_; omega⟩)) (fun _ h => h.1.2.2) _, Kd.R_far (p := ⟨w.heap.size + 1 + 1, 1, none⟩) (Kd.R_mono hlow (fun k_ hk_ => by have h_ := hk_.2.1; rw [World.size_alloc] at h_; refine ⟨⟨by omega, by omega, by omega⟩, ?_⟩; (intro e_; have h8_ := (Kd.R_bound h5).1 k_ e_.symm; have h9_ := h8_.2.2.1; omega))) (fun _ h => h.1.2.2) _⟩
set_option maxHeartbeats 4000000 in
theorem method_Read.put8 {W : World} {g : Nat} {u0 u1 u2 u3 u4 u5 u6 u7 : Value} (h : W.heap[g]? = some (.cells #[u0, u1, u2, u3, u4, u5, u6, u7] 47 (0, 0))) (v0 v1 v2 v3 v4 v5 v6 v7 : Value) : ((((((((W.setCell ⟨g, 0, none⟩ v0).setCell ⟨g, 1, none⟩ v1).setCell ⟨g, 2, none⟩ v2).setCell ⟨g, 3, none⟩ v3).setCell ⟨g, 4, none⟩ v4).setCell ⟨g, 5, none⟩ v5).setCell ⟨g, 6, none⟩ v6).setCell ⟨g, 7, none⟩ v7).heap[g]? = some (.cells #[v0, v1, v2, v3, v4, v5, v6, v7] 47 (0, 0)) :=
  (blk_put (blk_put (blk_put (blk_put (blk_put (blk_put (blk_put (blk_put h 0 v0 rfl) 1 v1 rfl) 2 v2 rfl) 3 v3 rfl) 4 v4 rfl) 5 v5 rfl) 6 v6 rfl) 7 v7 rfl)
set_option maxHeartbeats 4000000 in
theorem method_Read.putB {w W : World} {g : Nat} (h : Below w.heap.size w W) (hg : w.heap.size ≤ g) (v0 v1 v2 v3 v4 v5 v6 v7 : Value) : Below w.heap.size w ((((((((W.setCell ⟨g, 0, none⟩ v0).setCell ⟨g, 1, none⟩ v1).setCell ⟨g, 2, none⟩ v2).setCell ⟨g, 3, none⟩ v3).setCell ⟨g, 4, none⟩ v4).setCell ⟨g, 5, none⟩ v5).setCell ⟨g, 6, none⟩ v6).setCell ⟨g, 7, none⟩ v7) :=
  ((((((((h.setCell (p := ⟨g, 0, none⟩) hg v0).setCell (p := ⟨g, 1, none⟩) hg v1).setCell (p := ⟨g, 2, none⟩) hg v2).setCell (p := ⟨g, 3, none⟩) hg v3).setCell (p := ⟨g, 4, none⟩) hg v4).setCell (p := ⟨g, 5, none⟩) hg v5).setCell (p := ⟨g, 6, none⟩) hg v6).setCell (p := ⟨g, 7, none⟩) hg v7)
set_option maxHeartbeats 4000000 in
theorem method_Read.putR {α : Type} {d : Kd α} {e base : Nat} {ok : Nat → Prop} {v : Value} {xs : List α} {W : World} {g : Nat} (h : d.R e W base ok v xs) (hok : ∀ k, ok k → k ≠ g) (v0 v1 v2 v3 v4 v5 v6 v7 : Value) : d.R e ((((((((W.setCell ⟨g, 0, none⟩ v0).setCell ⟨g, 1, none⟩ v1).setCell ⟨g, 2, none⟩ v2).setCell ⟨g, 3, none⟩ v3).setCell ⟨g, 4, none⟩ v4).setCell ⟨g, 5, none⟩ v5).setCell ⟨g, 6, none⟩ v6).setCell ⟨g, 7, none⟩ v7) base ok v xs :=
  (Kd.R_far (p := ⟨g, 7, none⟩) (Kd.R_far (p := ⟨g, 6, none⟩) (Kd.R_far (p := ⟨g, 5, none⟩) (Kd.R_far (p := ⟨g, 4, none⟩) (Kd.R_far (p := ⟨g, 3, none⟩) (Kd.R_far (p := ⟨g, 2, none⟩) (Kd.R_far (p := ⟨g, 1, none⟩) (Kd.R_far (p := ⟨g, 0, none⟩) h hok v0) hok v1) hok v2) hok v3) hok v4) hok v5) hok v6) hok v7)
set_option maxHeartbeats 40000000 in
set_option maxRecDepth 100000 in
theorem method_Read.calls (k : Nat) (A0 : Option Addr) (c0 : Nat) (l0 : List Int) (a1 : Int) (r1 : List Int) (r2 : List Int) (r3 : Int) (r4 : Bool) (r5 : Int) (r6 : Int) (r7 : Int) (r8 : List (S75)) (r9 : Int) (r10 : Int) (w : World) (hr0 : Kd.C (Kd.int .u8) w A0 l0.length l0) (hc0 : l0.length ≤ c0) (h : method_Read.f k l0 a1 = some (r1, r2, r3, r4, r5, r6, r7, r8, r9, r10)) :
    Calls Tryd.prog 76 #[.slice A0 l0.length c0, .int .i64 a1] w fun e w' => ∃ v0_ v1_ v7_ : Value, e = .returned (.tuple #[.agg #[v0_, v1_, .int .u8 r3, .bool r4, .int .i64 r5, .int .i64 r6, .int .i64 r7, v7_], .int .i64 r9, .int .i64 r10]) ∧ Kd.R (Kd.int .u8) 5 w' w.heap.size (fun k_ => some k_ ≠ (v1_ : Value).ownBlock) v0_ r1 ∧ Kd.R (Kd.int .u8) 5 w' w.heap.size (fun k_ => some k_ ≠ (v0_ : Value).ownBlock) v1_ r2 ∧ Kd.R k75 75 w' w.heap.size (fun _ => True) v7_ r8 ∧ Below w.heap.size w w' := by
  unfold method_Read.f at h
  obtain ⟨⟨p1, p2, p3⟩, hp, h⟩ := Option.bind_eq_some_iff.mp h
  dsimp only at h
  by_cases hpb : 0 ≤ p1 ∧ p1 ≤ 1000
  case neg => rw [if_neg hpb] at h; cases h
  rw [if_pos hpb] at h
  obtain ⟨⟨m1, m2, m3⟩, hA, h⟩ := Option.bind_eq_some_iff.mp h; obtain ⟨⟨q1, q2, q3⟩, hq, h⟩ := Option.bind_eq_some_iff.mp h; obtain ⟨⟨n1, n2, n3⟩, hL, h⟩ := Option.bind_eq_some_iff.mp h
  unfold method_Read.tail at h
  obtain ⟨⟨s1, s2, s3⟩, hs, h⟩ := Option.bind_eq_some_iff.mp h; obtain ⟨⟨b1, b2, b3⟩, hb, h⟩ := Option.bind_eq_some_iff.mp h; obtain ⟨⟨u1, u2, u3⟩, hu, h⟩ := Option.bind_eq_some_iff.mp h; obtain ⟨⟨t1, t2, t3⟩, ht, h⟩ := Option.bind_eq_some_iff.mp h; obtain ⟨⟨g1, g2, g3⟩, hg, h⟩ := Option.bind_eq_some_iff.mp h; obtain ⟨hp0, hp1⟩ := hpb; dsimp only at hA hq hL hs hb hu ht hg h; have HR := Aside0.mk hr0; have HC := Aside0.mk hc0; have HP := Aside0.mk hp; have HA := Aside0.mk hA; have HQ := Aside0.mk hq; have HL := Aside0.mk hL; have HS := Aside0.mk hs; have HB := Aside0.mk hb; have HU := Aside0.mk hu; have HT := Aside0.mk ht; have HG := Aside0.mk hg; have HH := Aside0.mk h; clear hr0 hc0 hp hA hq hL hs hb hu ht hg h; have Z0 := Aside0.mk (MSt.zero w A0 l0.length c0 a1)
  by_cases h9 : g3 = 0
  · subst h9
    rw [if_pos rfl] at HH; simp only [Option.some.injEq, Prod.mk.injEq] at HH; obtain ⟨rfl, rfl, rfl, rfl, rfl, rfl, rfl, rfl, rfl, rfl⟩ := HH
    by_cases h3 : p3 = 0
    · subst h3
      have HA2 := HA.out
      unfold method_Read.rows at HA2
      rw [if_pos rfl] at HA2; replace HA2 := Aside0.mk HA2
      by_cases h6 : q3 = 0
      · subst h6
        have HL2 := HL.out
        unfold method_Read.rows at HL2
        rw [if_pos rfl] at HL2; replace HL2 := Aside0.mk HL2; have HQ1 := Aside0.mk (Int.le_trans (method_reader_number.within HQ.out).2 (show 16 - p1 ≤ 1000 by omega))
        go_enter Tryd.func76, Tryd.ntmps76
        go_wp2_with (first | ((fail_if_success (have h_ := S1)); go_at_call 105; (refine (MSt.num k 1 0 4 p1 p2 0 Z0.out HR.out HC.out HP.out).mono ?_); rintro er w1 ⟨rfl, hS⟩; have e1 := blk_cell hS.1 2; have S1 := Aside0.mk hS; clear hS) | ((fail_if_success (have h_ := S2)); go_at_call 106; (refine (MSt.fillA k p1 m1 m2 m3 S1.out HR.out HC.out hp1 HA2.out).mono ?_); rintro er w2 ⟨A2, c2, rfl, hm, hS⟩; have k2 := blk_cell hm 0; have f2 := blk_frozen hm 0; have S2 := Aside0.mk hS; clear hm hS) | ((fail_if_success (have h_ := S3)); go_at_call 105; (refine (MSt.num k 1 0 (16 - p1) q1 q2 0 S2.out HR.out HC.out HQ.out).mono ?_); rintro er w3 ⟨rfl, hS⟩; have e3 := blk_cell hS.1 2; have S3 := Aside0.mk hS; clear hS) | ((fail_if_success (have h_ := S4)); go_at_call 106; (refine (MSt.fillL k q1 n1 n2 n3 S3.out HR.out HC.out HQ1.out HL2.out).mono ?_); rintro er w4 ⟨A4, c4, rfl, hm, hS⟩; have k4 := blk_cell hm 1; have f4 := blk_frozen hm 1; have S4 := Aside0.mk hS; clear hm hS) | ((fail_if_success (have h_ := S5)); go_at_call 105; (refine (MSt.num k 1 1 2 s1 s2 s3 S4.out HR.out HC.out HS.out).mono ?_); rintro er w5 ⟨rfl, hS⟩; have k5 := blk_cell hS.2.1 2; have f5 := blk_frozen hS.2.1 2; have S5 := Aside0.mk hS; clear hS) | ((fail_if_success (have h_ := S6)); go_at_call 105; (refine (MSt.num k 1 0 1 b1 b2 b3 (MSt.far 2 S5.out rfl) HR.out HC.out HB.out).mono ?_); rintro er w6 ⟨rfl, hS⟩; have k6 := blk_cell hS.2.1 3; have f6 := blk_frozen hS.2.1 3; have S6 := Aside0.mk hS; clear hS) | ((fail_if_success (have h_ := S7)); go_at_call 105; (refine (MSt.num k 3 0 1048576 u1 u2 u3 (MSt.far 3 S6.out rfl) HR.out HC.out HU.out).mono ?_); rintro er w7 ⟨rfl, hS⟩; have k7 := blk_cell hS.2.1 4; have f7 := blk_frozen hS.2.1 4; have S7 := Aside0.mk hS; clear hS) | ((fail_if_success (have h_ := S8)); go_at_call 105; (refine (MSt.num k 2 0 256 t1 t2 t3 (MSt.far 4 S7.out rfl) HR.out HC.out HT.out).mono ?_); rintro er w8 ⟨rfl, hS⟩; have k8 := blk_cell hS.2.1 5; have f8 := blk_frozen hS.2.1 5; have S8 := Aside0.mk hS; clear hS) | ((fail_if_success (have h_ := S9)); go_at_call 105; (refine (MSt.num k 2 0 1024 g1 g2 0 (MSt.far 5 S8.out rfl) HR.out HC.out HG.out).mono ?_); rintro er w9 ⟨rfl, hS⟩; have k9 := blk_cell hS.2.1 6; have f9 := blk_frozen hS.2.1 6; have hX := MSt.far 6 hS (u := .int .i64 g1) rfl; have e10 := blk_cell hX.1 2; have a10 := blk_cell hX.1 1; have zc0 := blk_cell hX.2.2.1 0; have zf0 := blk_frozen hX.2.2.1 0; have mc0 := blk_cell hX.2.1 0; have zc1 := blk_cell hX.2.2.1 1; have zf1 := blk_frozen hX.2.2.1 1; have mc1 := blk_cell hX.2.1 1; have zc2 := blk_cell hX.2.2.1 2; have zf2 := blk_frozen hX.2.2.1 2; have mc2 := blk_cell hX.2.1 2; have zc3 := blk_cell hX.2.2.1 3; have zf3 := blk_frozen hX.2.2.1 3; have mc3 := blk_cell hX.2.1 3; have zc4 := blk_cell hX.2.2.1 4; have zf4 := blk_frozen hX.2.2.1 4; have mc4 := blk_cell hX.2.1 4; have zc5 := blk_cell hX.2.2.1 5; have zf5 := blk_frozen hX.2.2.1 5; have mc5 := blk_cell hX.2.1 5; have zc6 := blk_cell hX.2.2.1 6; have zf6 := blk_frozen hX.2.2.1 6; have mc6 := blk_cell hX.2.1 6; have zc7 := blk_cell hX.2.2.1 7; have zf7 := blk_frozen hX.2.2.1 7; have mc7 := blk_cell hX.2.1 7; have S10 := Aside0.mk hX; clear hX; have S9 := Aside0.mk hS; clear hS))
        go_region_with (fail)
        all_goals
          go_wp2; have hfin := method_Read.put8 S10.out.2.2.1 (.slice A2 m1.length c2) (.slice A4 n1.length c4) (.int .u8 (s1 % 256)) (.bool (b1 == 1)) (.int .i64 u1) (.int .i64 t1) (.int .i64 g1) (.slice none 0 0); have t0_ := blk_cell hfin 0; have t1_ := blk_cell hfin 1; have t2_ := blk_cell hfin 2; have t3_ := blk_cell hfin 3; have t4_ := blk_cell hfin 4; have t5_ := blk_cell hfin 5; have t6_ := blk_cell hfin 6; have t7_ := blk_cell hfin 7; clear hfin; refine bodyPost_ret (v := .tuple #[.agg #[.slice A2 m1.length c2, .slice A4 n1.length c4, .int .u8 (s1 % 256), .bool (b1 == 1), .int .i64 u1, .int .i64 t1, .int .i64 g1, .slice none 0 0], .int .i64 g2, .int .i64 0]) (by simp [results, Tryd.results76, go_sem, t0_, t1_, t2_, t3_, t4_, t5_, t6_, t7_]) rfl ⟨_, _, _, rfl, Kd.R_mono (Kd.R_drew (method_Read.putR S10.out.2.2.2.2.1 (fun _ h => h.1.1) (.slice A2 m1.length c2) (.slice A4 n1.length c4) (.int .u8 (s1 % 256)) (.bool (b1 == 1)) (.int .i64 u1) (.int .i64 t1) (.int .i64 g1) (.slice none 0 0))) (fun _ h => h.2), Kd.R_mono (Kd.R_drew (method_Read.putR S10.out.2.2.2.2.2 (fun _ h => h.1.1) (.slice A2 m1.length c2) (.slice A4 n1.length c4) (.int .u8 (s1 % 256)) (.bool (b1 == 1)) (.int .i64 u1) (.int .i64 t1) (.int .i64 g1) (.slice none 0 0))) (fun _ h => h.2), Kd.R_nil _ _ _ _ _, below_drew (method_Read.putB S10.out.2.2.2.1 (Nat.le_refl _) (.slice A2 m1.length c2) (.slice A4 n1.length c4) (.int .u8 (s1 % 256)) (.bool (b1 == 1)) (.int .i64 u1) (.int .i64 t1) (.int .i64 g1) (.slice none 0 0))⟩
      · have HL2 := HL.out
        unfold method_Read.rows at HL2
        rw [if_neg h6] at HL2; simp only [Option.some.injEq, Prod.mk.injEq] at HL2; obtain ⟨rfl, rfl, rfl⟩ := HL2
        have c5 : s3 ≠ 0 := fun h => method_reader_number.stays h6 (h ▸ HS.out)
        have c6 : b3 ≠ 0 := fun h => method_reader_number.stays c5 (h ▸ HB.out)
        have c7 : u3 ≠ 0 := fun h => method_reader_number.stays c6 (h ▸ HU.out)
        have c8 : t3 ≠ 0 := fun h => method_reader_number.stays c7 (h ▸ HT.out)
        exact (method_reader_number.stays c8 HG.out).elim
    · have HA2 := HA.out
      unfold method_Read.rows at HA2
      rw [if_neg h3] at HA2; simp only [Option.some.injEq, Prod.mk.injEq] at HA2; obtain ⟨rfl, rfl, rfl⟩ := HA2; have hb3 : (p3 == 0) = false := beq_eq_false_iff_ne.mpr h3
      by_cases h6 : q3 = 0
      · exact absurd (method_reader_number.stays h3 (HQ.out.trans (by rw [h6]))) (fun h => h)
      · have HL2 := HL.out
        unfold method_Read.rows at HL2
        rw [if_neg h6] at HL2; simp only [Option.some.injEq, Prod.mk.injEq] at HL2; obtain ⟨rfl, rfl, rfl⟩ := HL2
        have c5 : s3 ≠ 0 := fun h => method_reader_number.stays h6 (h ▸ HS.out)
        have c6 : b3 ≠ 0 := fun h => method_reader_number.stays c5 (h ▸ HB.out)
        have c7 : u3 ≠ 0 := fun h => method_reader_number.stays c6 (h ▸ HU.out)
        have c8 : t3 ≠ 0 := fun h => method_reader_number.stays c7 (h ▸ HT.out)
        exact (method_reader_number.stays c8 HG.out).elim
  · rw [if_neg h9] at HH
    simp only [Option.some.injEq, Prod.mk.injEq] at HH; obtain ⟨rfl, rfl, rfl, rfl, rfl, rfl, rfl, rfl, rfl, rfl⟩ := HH
    have hb9 : (g3 != 0) = true := by rw [bne_iff_ne]; exact h9
    by_cases h3 : p3 = 0
    · subst h3
      have HA2 := HA.out
      unfold method_Read.rows at HA2
      rw [if_pos rfl] at HA2; replace HA2 := Aside0.mk HA2
      by_cases h6 : q3 = 0
      · subst h6
        have HL2 := HL.out
        unfold method_Read.rows at HL2
        rw [if_pos rfl] at HL2; replace HL2 := Aside0.mk HL2; have HQ1 := Aside0.mk (Int.le_trans (method_reader_number.within HQ.out).2 (show 16 - p1 ≤ 1000 by omega))
        go_enter Tryd.func76, Tryd.ntmps76
        go_wp2_with (first | ((fail_if_success (have h_ := S1)); go_at_call 105; (refine (MSt.num k 1 0 4 p1 p2 0 Z0.out HR.out HC.out HP.out).mono ?_); rintro er w1 ⟨rfl, hS⟩; have e1 := blk_cell hS.1 2; have S1 := Aside0.mk hS; clear hS) | ((fail_if_success (have h_ := S2)); go_at_call 106; (refine (MSt.fillA k p1 m1 m2 m3 S1.out HR.out HC.out hp1 HA2.out).mono ?_); rintro er w2 ⟨A2, c2, rfl, hm, hS⟩; have k2 := blk_cell hm 0; have f2 := blk_frozen hm 0; have S2 := Aside0.mk hS; clear hm hS) | ((fail_if_success (have h_ := S3)); go_at_call 105; (refine (MSt.num k 1 0 (16 - p1) q1 q2 0 S2.out HR.out HC.out HQ.out).mono ?_); rintro er w3 ⟨rfl, hS⟩; have e3 := blk_cell hS.1 2; have S3 := Aside0.mk hS; clear hS) | ((fail_if_success (have h_ := S4)); go_at_call 106; (refine (MSt.fillL k q1 n1 n2 n3 S3.out HR.out HC.out HQ1.out HL2.out).mono ?_); rintro er w4 ⟨A4, c4, rfl, hm, hS⟩; have k4 := blk_cell hm 1; have f4 := blk_frozen hm 1; have S4 := Aside0.mk hS; clear hm hS) | ((fail_if_success (have h_ := S5)); go_at_call 105; (refine (MSt.num k 1 1 2 s1 s2 s3 S4.out HR.out HC.out HS.out).mono ?_); rintro er w5 ⟨rfl, hS⟩; have k5 := blk_cell hS.2.1 2; have f5 := blk_frozen hS.2.1 2; have S5 := Aside0.mk hS; clear hS) | ((fail_if_success (have h_ := S6)); go_at_call 105; (refine (MSt.num k 1 0 1 b1 b2 b3 (MSt.far 2 S5.out rfl) HR.out HC.out HB.out).mono ?_); rintro er w6 ⟨rfl, hS⟩; have k6 := blk_cell hS.2.1 3; have f6 := blk_frozen hS.2.1 3; have S6 := Aside0.mk hS; clear hS) | ((fail_if_success (have h_ := S7)); go_at_call 105; (refine (MSt.num k 3 0 1048576 u1 u2 u3 (MSt.far 3 S6.out rfl) HR.out HC.out HU.out).mono ?_); rintro er w7 ⟨rfl, hS⟩; have k7 := blk_cell hS.2.1 4; have f7 := blk_frozen hS.2.1 4; have S7 := Aside0.mk hS; clear hS) | ((fail_if_success (have h_ := S8)); go_at_call 105; (refine (MSt.num k 2 0 256 t1 t2 t3 (MSt.far 4 S7.out rfl) HR.out HC.out HT.out).mono ?_); rintro er w8 ⟨rfl, hS⟩; have k8 := blk_cell hS.2.1 5; have f8 := blk_frozen hS.2.1 5; have S8 := Aside0.mk hS; clear hS) | ((fail_if_success (have h_ := S9)); go_at_call 105; (refine (MSt.num k 2 0 1024 g1 g2 g3 (MSt.far 5 S8.out rfl) HR.out HC.out HG.out).mono ?_); rintro er w9 ⟨rfl, hS⟩; have k9 := blk_cell hS.2.1 6; have f9 := blk_frozen hS.2.1 6; have hX := MSt.far 6 hS (u := .int .i64 g1) rfl; have e10 := blk_cell hX.1 2; have a10 := blk_cell hX.1 1; have zc0 := blk_cell hX.2.2.1 0; have zf0 := blk_frozen hX.2.2.1 0; have mc0 := blk_cell hX.2.1 0; have zc1 := blk_cell hX.2.2.1 1; have zf1 := blk_frozen hX.2.2.1 1; have mc1 := blk_cell hX.2.1 1; have zc2 := blk_cell hX.2.2.1 2; have zf2 := blk_frozen hX.2.2.1 2; have mc2 := blk_cell hX.2.1 2; have zc3 := blk_cell hX.2.2.1 3; have zf3 := blk_frozen hX.2.2.1 3; have mc3 := blk_cell hX.2.1 3; have zc4 := blk_cell hX.2.2.1 4; have zf4 := blk_frozen hX.2.2.1 4; have mc4 := blk_cell hX.2.1 4; have zc5 := blk_cell hX.2.2.1 5; have zf5 := blk_frozen hX.2.2.1 5; have mc5 := blk_cell hX.2.1 5; have zc6 := blk_cell hX.2.2.1 6; have zf6 := blk_frozen hX.2.2.1 6; have mc6 := blk_cell hX.2.1 6; have zc7 := blk_cell hX.2.2.1 7; have zf7 := blk_frozen hX.2.2.1 7; have mc7 := blk_cell hX.2.1 7; have S10 := Aside0.mk hX; clear hX; have S9 := Aside0.mk hS; clear hS))
        go_region_with (fail)
        all_goals
          go_wp2; have hfin := method_Read.put8 S10.out.2.2.1 (.slice none 0 0) (.slice none 0 0) (.int .u8 0) (.bool false) (.int .i64 0) (.int .i64 0) (.int .i64 0) (.slice none 0 0); have t0_ := blk_cell hfin 0; have t1_ := blk_cell hfin 1; have t2_ := blk_cell hfin 2; have t3_ := blk_cell hfin 3; have t4_ := blk_cell hfin 4; have t5_ := blk_cell hfin 5; have t6_ := blk_cell hfin 6; have t7_ := blk_cell hfin 7; clear hfin; refine bodyPost_ret (v := .tuple #[.agg #[.slice none 0 0, .slice none 0 0, .int .u8 0, .bool false, .int .i64 0, .int .i64 0, .int .i64 0, .slice none 0 0], .int .i64 0, .int .i64 g3]) (by simp [results, Tryd.results76, go_sem, t0_, t1_, t2_, t3_, t4_, t5_, t6_, t7_]) rfl ⟨_, _, _, rfl, Kd.R_nil _ _ _ _ _, Kd.R_nil _ _ _ _ _, Kd.R_nil _ _ _ _ _, below_drew (method_Read.putB S10.out.2.2.2.1 (Nat.le_refl _) (.slice none 0 0) (.slice none 0 0) (.int .u8 0) (.bool false) (.int .i64 0) (.int .i64 0) (.int .i64 0) (.slice none 0 0))⟩
      · have HL2 := HL.out
        unfold method_Read.rows at HL2
        rw [if_neg h6] at HL2; simp only [Option.some.injEq, Prod.mk.injEq] at HL2; obtain ⟨rfl, rfl, rfl⟩ := HL2; have hb6 : (q3 == 0) = false := beq_eq_false_iff_ne.mpr h6
        go_enter Tryd.func76, Tryd.ntmps76
        go_wp2_with (first | ((fail_if_success (have h_ := S1)); go_at_call 105; (refine (MSt.num k 1 0 4 p1 p2 0 Z0.out HR.out HC.out HP.out).mono ?_); rintro er w1 ⟨rfl, hS⟩; have e1 := blk_cell hS.1 2; have S1 := Aside0.mk hS; clear hS) | ((fail_if_success (have h_ := S2)); go_at_call 106; (refine (MSt.fillA k p1 m1 m2 m3 S1.out HR.out HC.out hp1 HA2.out).mono ?_); rintro er w2 ⟨A2, c2, rfl, hm, hS⟩; have k2 := blk_cell hm 0; have f2 := blk_frozen hm 0; have S2 := Aside0.mk hS; clear hm hS) | ((fail_if_success (have h_ := S3)); go_at_call 105; (refine (MSt.num k 1 0 (16 - p1) q1 q2 q3 S2.out HR.out HC.out HQ.out).mono ?_); rintro er w3 ⟨rfl, hS⟩; have e3 := blk_cell hS.1 2; have S3 := Aside0.mk hS; clear hS) | ((fail_if_success (have h_ := S5)); go_at_call 105; (refine (MSt.num k 1 1 2 s1 s2 s3 S3.out HR.out HC.out HS.out).mono ?_); rintro er w5 ⟨rfl, hS⟩; have k5 := blk_cell hS.2.1 2; have f5 := blk_frozen hS.2.1 2; have S5 := Aside0.mk hS; clear hS) | ((fail_if_success (have h_ := S6)); go_at_call 105; (refine (MSt.num k 1 0 1 b1 b2 b3 (MSt.far 2 S5.out rfl) HR.out HC.out HB.out).mono ?_); rintro er w6 ⟨rfl, hS⟩; have k6 := blk_cell hS.2.1 3; have f6 := blk_frozen hS.2.1 3; have S6 := Aside0.mk hS; clear hS) | ((fail_if_success (have h_ := S7)); go_at_call 105; (refine (MSt.num k 3 0 1048576 u1 u2 u3 (MSt.far 3 S6.out rfl) HR.out HC.out HU.out).mono ?_); rintro er w7 ⟨rfl, hS⟩; have k7 := blk_cell hS.2.1 4; have f7 := blk_frozen hS.2.1 4; have S7 := Aside0.mk hS; clear hS) | ((fail_if_success (have h_ := S8)); go_at_call 105; (refine (MSt.num k 2 0 256 t1 t2 t3 (MSt.far 4 S7.out rfl) HR.out HC.out HT.out).mono ?_); rintro er w8 ⟨rfl, hS⟩; have k8 := blk_cell hS.2.1 5; have f8 := blk_frozen hS.2.1 5; have S8 := Aside0.mk hS; clear hS) | ((fail_if_success (have h_ := S9)); go_at_call 105; (refine (MSt.num k 2 0 1024 g1 g2 g3 (MSt.far 5 S8.out rfl) HR.out HC.out HG.out).mono ?_); rintro er w9 ⟨rfl, hS⟩; have k9 := blk_cell hS.2.1 6; have f9 := blk_frozen hS.2.1 6; have hX := MSt.far 6 hS (u := .int .i64 g1) rfl; have e10 := blk_cell hX.1 2; have a10 := blk_cell hX.1 1; have zc0 := blk_cell hX.2.2.1 0; have zf0 := blk_frozen hX.2.2.1 0; have mc0 := blk_cell hX.2.1 0; have zc1 := blk_cell hX.2.2.1 1; have zf1 := blk_frozen hX.2.2.1 1; have mc1 := blk_cell hX.2.1 1; have zc2 := blk_cell hX.2.2.1 2; have zf2 := blk_frozen hX.2.2.1 2; have mc2 := blk_cell hX.2.1 2; have zc3 := blk_cell hX.2.2.1 3; have zf3 := blk_frozen hX.2.2.1 3; have mc3 := blk_cell hX.2.1 3; have zc4 := blk_cell hX.2.2.1 4; have zf4 := blk_frozen hX.2.2.1 4; have mc4 := blk_cell hX.2.1 4; have zc5 := blk_cell hX.2.2.1 5; have zf5 := blk_frozen hX.2.2.1 5; have mc5 := blk_cell hX.2.1 5; have zc6 := blk_cell hX.2.2.1 6; have zf6 := blk_frozen hX.2.2.1 6; have mc6 := blk_cell hX.2.1 6; have zc7 := blk_cell hX.2.2.1 7; have zf7 := blk_frozen hX.2.2.1 7; have mc7 := blk_cell hX.2.1 7; have S10 := Aside0.mk hX; clear hX; have S9 := Aside0.mk hS; clear hS))
        go_region_with (fail)
        all_goals
          go_wp2; have hfin := method_Read.put8 S10.out.2.2.1 (.slice none 0 0) (.slice none 0 0) (.int .u8 0) (.bool false) (.int .i64 0) (.int .i64 0) (.int .i64 0) (.slice none 0 0); have t0_ := blk_cell hfin 0; have t1_ := blk_cell hfin 1; have t2_ := blk_cell hfin 2; have t3_ := blk_cell hfin 3; have t4_ := blk_cell hfin 4; have t5_ := blk_cell hfin 5; have t6_ := blk_cell hfin 6; have t7_ := blk_cell hfin 7; clear hfin; refine bodyPost_ret (v := .tuple #[.agg #[.slice none 0 0, .slice none 0 0, .int .u8 0, .bool false, .int .i64 0, .int .i64 0, .int .i64 0, .slice none 0 0], .int .i64 0, .int .i64 g3]) (by simp [results, Tryd.results76, go_sem, t0_, t1_, t2_, t3_, t4_, t5_, t6_, t7_]) rfl ⟨_, _, _, rfl, Kd.R_nil _ _ _ _ _, Kd.R_nil _ _ _ _ _, Kd.R_nil _ _ _ _ _, below_drew (method_Read.putB S10.out.2.2.2.1 (Nat.le_refl _) (.slice none 0 0) (.slice none 0 0) (.int .u8 0) (.bool false) (.int .i64 0) (.int .i64 0) (.int .i64 0) (.slice none 0 0))⟩
    · have HA2 := HA.out
      unfold method_Read.rows at HA2
      rw [if_neg h3] at HA2; simp only [Option.some.injEq, Prod.mk.injEq] at HA2; obtain ⟨rfl, rfl, rfl⟩ := HA2; have hb3 : (p3 == 0) = false := beq_eq_false_iff_ne.mpr h3
      by_cases h6 : q3 = 0
      · exact absurd (method_reader_number.stays h3 (HQ.out.trans (by rw [h6]))) (fun h => h)
      · have HL2 := HL.out
        unfold method_Read.rows at HL2
        rw [if_neg h6] at HL2; simp only [Option.some.injEq, Prod.mk.injEq] at HL2; obtain ⟨rfl, rfl, rfl⟩ := HL2; have hb6 : (q3 == 0) = false := beq_eq_false_iff_ne.mpr h6
        go_enter Tryd.func76, Tryd.ntmps76
        go_wp2_with (first | ((fail_if_success (have h_ := S1)); go_at_call 105; (refine (MSt.num k 1 0 4 p1 p2 p3 Z0.out HR.out HC.out HP.out).mono ?_); rintro er w1 ⟨rfl, hS⟩; have e1 := blk_cell hS.1 2; have S1 := Aside0.mk hS; clear hS) | ((fail_if_success (have h_ := S3)); go_at_call 105; (refine (MSt.num k 1 0 (16 - p1) q1 q2 q3 S1.out HR.out HC.out HQ.out).mono ?_); rintro er w3 ⟨rfl, hS⟩; have e3 := blk_cell hS.1 2; have S3 := Aside0.mk hS; clear hS) | ((fail_if_success (have h_ := S5)); go_at_call 105; (refine (MSt.num k 1 1 2 s1 s2 s3 S3.out HR.out HC.out HS.out).mono ?_); rintro er w5 ⟨rfl, hS⟩; have k5 := blk_cell hS.2.1 2; have f5 := blk_frozen hS.2.1 2; have S5 := Aside0.mk hS; clear hS) | ((fail_if_success (have h_ := S6)); go_at_call 105; (refine (MSt.num k 1 0 1 b1 b2 b3 (MSt.far 2 S5.out rfl) HR.out HC.out HB.out).mono ?_); rintro er w6 ⟨rfl, hS⟩; have k6 := blk_cell hS.2.1 3; have f6 := blk_frozen hS.2.1 3; have S6 := Aside0.mk hS; clear hS) | ((fail_if_success (have h_ := S7)); go_at_call 105; (refine (MSt.num k 3 0 1048576 u1 u2 u3 (MSt.far 3 S6.out rfl) HR.out HC.out HU.out).mono ?_); rintro er w7 ⟨rfl, hS⟩; have k7 := blk_cell hS.2.1 4; have f7 := blk_frozen hS.2.1 4; have S7 := Aside0.mk hS; clear hS) | ((fail_if_success (have h_ := S8)); go_at_call 105; (refine (MSt.num k 2 0 256 t1 t2 t3 (MSt.far 4 S7.out rfl) HR.out HC.out HT.out).mono ?_); rintro er w8 ⟨rfl, hS⟩; have k8 := blk_cell hS.2.1 5; have f8 := blk_frozen hS.2.1 5; have S8 := Aside0.mk hS; clear hS) | ((fail_if_success (have h_ := S9)); go_at_call 105; (refine (MSt.num k 2 0 1024 g1 g2 g3 (MSt.far 5 S8.out rfl) HR.out HC.out HG.out).mono ?_); rintro er w9 ⟨rfl, hS⟩; have k9 := blk_cell hS.2.1 6; have f9 := blk_frozen hS.2.1 6; have hX := MSt.far 6 hS (u := .int .i64 g1) rfl; have e10 := blk_cell hX.1 2; have a10 := blk_cell hX.1 1; have zc0 := blk_cell hX.2.2.1 0; have zf0 := blk_frozen hX.2.2.1 0; have mc0 := blk_cell hX.2.1 0; have zc1 := blk_cell hX.2.2.1 1; have zf1 := blk_frozen hX.2.2.1 1; have mc1 := blk_cell hX.2.1 1; have zc2 := blk_cell hX.2.2.1 2; have zf2 := blk_frozen hX.2.2.1 2; have mc2 := blk_cell hX.2.1 2; have zc3 := blk_cell hX.2.2.1 3; have zf3 := blk_frozen hX.2.2.1 3; have mc3 := blk_cell hX.2.1 3; have zc4 := blk_cell hX.2.2.1 4; have zf4 := blk_frozen hX.2.2.1 4; have mc4 := blk_cell hX.2.1 4; have zc5 := blk_cell hX.2.2.1 5; have zf5 := blk_frozen hX.2.2.1 5; have mc5 := blk_cell hX.2.1 5; have zc6 := blk_cell hX.2.2.1 6; have zf6 := blk_frozen hX.2.2.1 6; have mc6 := blk_cell hX.2.1 6; have zc7 := blk_cell hX.2.2.1 7; have zf7 := blk_frozen hX.2.2.1 7; have mc7 := blk_cell hX.2.1 7; have S10 := Aside0.mk hX; clear hX; have S9 := Aside0.mk hS; clear hS))
        go_region_with (fail)
        all_goals
          go_wp2; have hfin := method_Read.put8 S10.out.2.2.1 (.slice none 0 0) (.slice none 0 0) (.int .u8 0) (.bool false) (.int .i64 0) (.int .i64 0) (.int .i64 0) (.slice none 0 0); have t0_ := blk_cell hfin 0; have t1_ := blk_cell hfin 1; have t2_ := blk_cell hfin 2; have t3_ := blk_cell hfin 3; have t4_ := blk_cell hfin 4; have t5_ := blk_cell hfin 5; have t6_ := blk_cell hfin 6; have t7_ := blk_cell hfin 7; clear hfin; refine bodyPost_ret (v := .tuple #[.agg #[.slice none 0 0, .slice none 0 0, .int .u8 0, .bool false, .int .i64 0, .int .i64 0, .int .i64 0, .slice none 0 0], .int .i64 0, .int .i64 g3]) (by simp [results, Tryd.results76, go_sem, t0_, t1_, t2_, t3_, t4_, t5_, t6_, t7_]) rfl ⟨_, _, _, rfl, Kd.R_nil _ _ _ _ _, Kd.R_nil _ _ _ _ _, Kd.R_nil _ _ _ _ _, below_drew (method_Read.putB S10.out.2.2.2.1 (Nat.le_refl _) (.slice none 0 0) (.slice none 0 0) (.int .u8 0) (.bool false) (.int .i64 0) (.int .i64 0) (.int .i64 0) (.slice none 0 0))⟩

/-! ### op_Known: function 110 -/
def op_Known.f (a0 : Int) : Option (Bool) := some (decide ((wrap64 (a0)) < 33))
set_option maxHeartbeats 8000000 in
set_option maxRecDepth 100000 in
theorem op_Known.calls (a0 : Int) (r : Bool) (w : World) (h : op_Known.f a0 = some r) :
  Calls Tryd.prog 110 #[.int .u8 a0] w fun e w' => e = .returned (.bool r) ∧ Drawn0 w w' := by
 have H : (some (decide ((wrap64 (a0)) < 33))) = some r := h; clear h; obtain rfl := Option.some.inj H
 go_enter Tryd.func110, Tryd.ntmps110
 go_wp2; go_ret; exact ⟨au16, au30⟩

end Go.Proofs.YthmjblmdbcmjcaaDoor.B
