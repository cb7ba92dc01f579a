/- Contracts of the functions of this seat (each: the call of the function does what the plain Lean function of the same name tells; the conditions stand in each statement). Written by a program of this session and by hand; checked by Lean. -/
import Derived.Test.YtdfjjooejfgglaaDoorY0
import Derived.Test.YtdfjjooejfgglaaDoorY2
import Derived.Test.YtdfjjooejfgglaaDoorY3
import Derived.Test.YtdfjjooejfgglaaDoorY4
namespace Go.Proofs.YtdfjjooejfgglaaDoor.Y
open Go.RowKit Go.Proofs.YtdfjjooejfgglaaDoorW.PrintWords Go.Proofs.YtdfjjooejfgglaaDoorW.PrintLast Go.Proofs.YtdfjjooejfgglaaDoorW.PrintMore
attribute [local go_sem] max2_int min2_int max_two min_two max_three min_three max_four min_four   -- for this text's walks alone
set_option linter.unusedVariables false
set_option linter.unusedSimpArgs false

/-! ### code_Read: function 9 -/
/-- A reader's two cells. -/
def CRd (W : World) (g : Nat) (A : Option Addr) (n c : Nat) (a : Int) : Prop := W.heap[g]? = some (.cells #[.slice A n c, .int .i64 a] 58 (0, 0))
set_option maxHeartbeats 8000000 in
set_option maxRecDepth 100000 in
theorem code_reader_number.ok (k g base : Nat) (A : Option Addr) (c : Nat) (l : List Int) (a wd r1 r2 : Int) (w : World) (hg : base ≤ g) (hM : CRd w g A l.length c a) (hr : Kd.C (Kd.int .u8) w A l.length l) (hc : l.length ≤ c) (h : octet_Get.f k l a wd = some (r1, r2, 0)) :
    Calls Tryd.prog 25 #[.pointer (some ⟨g, 0, none⟩), .int .i64 wd] w fun er w' => er = .returned (.int .i64 r1) ∧ CRd w' g A l.length c r2 ∧ KeepBut w w' g none ∧ Below base w w' := by
  have HM := Aside0.mk hM
  have HR := Aside0.mk hr
  have HC := Aside0.mk hc
  have HQ := Aside0.mk h
  have hlt := blk_lt hM
  have d0 := blk_cell hM 0
  have d1 := blk_cell hM 1
  clear hM hr hc h
  go_enter Tryd.func25, Tryd.ntmps25
  go_wp2
  go_region_with (go_at_call 50; (refine (octet_Get.calls k A c l a wd r1 r2 0 _ (Kd.C_drew HR.out) HC.out HQ.out).mono ?_); rintro e w1 ⟨rfl, hb⟩; have HB := Aside0.mk ((Below.drew (Below.refl w.heap.size w)).trans hb); have hk := (HB.out.block g hlt).trans HM.out; have e0 := blk_cell hk 0; have e1 := blk_cell hk 1; have f1 := blk_frozen hk 1; have HK := Aside0.mk hk; clear hk hb)
  all_goals
    go_wp2
    go_ret
    exact ⟨rfl, blk_put HK.out 1 _ rfl, (KeepBut.of_below HB.out g none).set_ 1 _, (HB.out.mono (by omega)).setCell (p := ⟨g, 1, none⟩) hg _⟩
set_option maxHeartbeats 8000000 in
set_option maxRecDepth 100000 in
theorem code_reader_number.bad (k g base : Nat) (A : Option Addr) (c : Nat) (l : List Int) (a wd r1 r2 r3 : Int) (w : World) (hg : base ≤ g) (hM : CRd w g A l.length c a) (hr : Kd.C (Kd.int .u8) w A l.length l) (hc : l.length ≤ c) (h3 : r3 ≠ 0) (h : octet_Get.f k l a wd = some (r1, r2, r3)) :
    Calls Tryd.prog 25 #[.pointer (some ⟨g, 0, none⟩), .int .i64 wd] w fun er w' => er = .panicked [CWr r3] ∧ Below w.heap.size w w' := by
  have HM := Aside0.mk hM
  have HR := Aside0.mk hr
  have HC := Aside0.mk hc
  have HQ := Aside0.mk h
  have hlt := blk_lt hM
  have d0 := blk_cell hM 0
  have d1 := blk_cell hM 1
  have hn : (r3 != 0) = true := by rw [bne_iff_ne]; exact h3
  clear hM hr hc h
  go_enter Tryd.func25, Tryd.ntmps25
  go_wp2
  go_region_with (go_at_call 50; (refine (octet_Get.calls k A c l a wd r1 r2 r3 _ (Kd.C_drew HR.out) HC.out HQ.out).mono ?_); rintro e w1 ⟨rfl, hb⟩; have HB := Aside0.mk ((Below.drew (Below.refl w.heap.size w)).trans hb); have hk := (HB.out.block g hlt).trans HM.out; have e0 := blk_cell hk 0; have e1 := blk_cell hk 1; have f1 := blk_frozen hk 1; have HK := Aside0.mk hk; clear hk hb)
  all_goals
    go_wp2
    exact ⟨rfl, rfl, HB.out⟩
theorem code_Read.asserts (v : Value) (w : World) : (Instr.typeAssert (.iface 54 v) 20 54 true).run Tryd.prog w = .ok (.tuple #[v, .bool true]) w := by
  simp [Instr.typeAssert, run_underlying Tryd.underlying54, go_sem, Result.andThen]
set_option maxHeartbeats 8000000 in
set_option maxRecDepth 100000 in
theorem code_Read.caught (n : Nat) (e : Int) (v0 v1 v2 : Value) (older : List PanicEntry) (w : World) (h0 : w.heap[n]? = some (.cells #[v0] 23 (0, 0))) (h1 : w.heap[n + 1]? = some (.cells #[v1] 3 (0, 0))) (h2 : w.heap[n + 1 + 1]? = some (.cells #[v2] 24 (0, 0))) :
    CallsD Tryd.prog 24 #[.pointer (some ⟨n, 0, none⟩), .pointer (some ⟨n + 1, 0, none⟩), .pointer (some ⟨n + 1 + 1, 0, none⟩)] (.panicking (CWr e :: older)) w fun er u' w' => er = .returned (.tuple #[]) ∧ u' = .panicking ({ v := .iface 54 (.agg #[.int .i64 e]), recovered := true } :: older) ∧ w'.heap[n]? = some (.cells #[.slice none 0 0] 23 (0, 0)) ∧ w'.heap[n + 1]? = some (.cells #[.int .i64 0] 3 (0, 0)) ∧ w'.heap[n + 1 + 1]? = some (.cells #[.int .i64 e] 24 (0, 0)) ∧ Below n w w' := by
  have H0 := Aside0.mk h0
  have H1 := Aside0.mk h1
  have H2 := Aside0.mk h2
  clear h0 h1 h2
  refine callsD_of_wpS Tryd.func24 rfl fun c₀ cs hu => ?_
  simp only [Tryd.ntmps24, List.size_toArray, List.length_cons, List.length_nil, Nat.reduceAdd, Nat.reduceSub, Array.replicate_succ, Array.replicate_zero, List.push_toArray, List.append_toArray, List.nil_append, List.cons_append]
  apply wpS_seq
  apply wpS_region
  simp [wpOpsS, go_sem, recoverD, hu, Tryd.ntmps24, Exit.thenS]
  refine wpS_of_wp ?_
  have hta := code_Read.asserts
  go_wp2
  have L0 := blk_lt H0.out
  have L1 := blk_lt H1.out
  have L2 := blk_lt H2.out
  have b0 := blk_alloc H0.out (.cells #[.int .i64 e] 54)
  have b1 := blk_alloc H1.out (.cells #[.int .i64 e] 54)
  have b2 := blk_alloc H2.out (.cells #[.int .i64 e] 54)
  have b3 := blk_new w (.cells #[.int .i64 e] 54)
  generalize hW : w.alloc (.cells #[.int .i64 e] 54) = W at *
  have B := Aside0.mk (show Below n w W by rw [← hW]; exact (Below.refl n w).alloc (Nat.le_of_lt L0) _)
  have c0 := blk_cell b0 0
  have c1 := blk_cell b1 0
  have c2 := blk_cell b2 0
  have c3 := blk_cell b3 0
  have f0 := blk_frozen b0 0
  have f1 := blk_frozen b1 0
  have f2 := blk_frozen b2 0
  have B0 := Aside0.mk b0
  have B1 := Aside0.mk b1
  have B2 := Aside0.mk b2
  have n3 : ¬ (n = w.heap.size) := Nat.ne_of_lt L0
  have n4 : ¬ (n + 1 = w.heap.size) := Nat.ne_of_lt L1
  have n5 : ¬ (w.heap.size = n) := fun h => n3 h.symm
  have n6 : ¬ (w.heap.size = n + 1) := fun h => n4 h.symm
  clear b0 b1 b2 b3 hW
  go_region_with (fail)
  all_goals
    go_wp2
    refine ⟨rfl, _, rfl, .tuple #[], by simp [results, Tryd.results24, go_sem], rfl, rfl, ?_, ?_, ?_, ?_⟩
    · exact blk_drew (blk_far (blk_far (blk_put B0.out 0 _ rfl) (p := ⟨n + 1, 0, none⟩) (by show n ≠ n + 1; omega) _) (p := ⟨n + 1 + 1, 0, none⟩) (by show n ≠ n + 1 + 1; omega) _)
    · exact blk_drew (blk_far (blk_put (blk_far B1.out (p := ⟨n, 0, none⟩) (by show n + 1 ≠ n; omega) _) 0 _ rfl) (p := ⟨n + 1 + 1, 0, none⟩) (by show n + 1 ≠ n + 1 + 1; omega) _)
    · exact blk_drew (blk_put (blk_far (blk_far B2.out (p := ⟨n, 0, none⟩) (by show n + 1 + 1 ≠ n; omega) _) (p := ⟨n + 1, 0, none⟩) (by show n + 1 + 1 ≠ n + 1; omega) _) 0 _ rfl)
    · exact (((B.out.setCell (p := ⟨n, 0, none⟩) (Nat.le_refl n) _).setCell (p := ⟨n + 1, 0, none⟩) (by show n ≤ n + 1; omega) _).setCell (p := ⟨n + 1 + 1, 0, none⟩) (by show n ≤ n + 1 + 1; omega) _).drew
set_option maxHeartbeats 8000000 in
set_option maxRecDepth 100000 in
theorem code_Read.idle (a b c : Value) (w : World) : CallsD Tryd.prog 24 #[a, b, c] .returning w fun er u' w' => er = .returned (.tuple #[]) ∧ u' = .returning ∧ w' = w := by
  refine callsD_of_wpS Tryd.func24 rfl fun c₀ cs hu => ?_
  simp only [Tryd.ntmps24, List.size_toArray, List.length_cons, List.length_nil, Nat.reduceAdd, Nat.reduceSub, Array.replicate_succ, Array.replicate_zero, List.push_toArray, List.append_toArray, List.nil_append, List.cons_append]
  apply wpS_seq
  apply wpS_region
  simp [wpOpsS, go_sem, recoverD, hu, Tryd.ntmps24, Exit.thenS]
  refine wpS_of_wp ?_
  go_wp2
  refine ⟨rfl, _, by cases c₀; simp_all, .tuple #[], by simp [results, Tryd.results24, go_sem], rfl, rfl, rfl⟩
def code_Read.l0 (k : Nat) (l : List Int) : Nat → Int → List S42 → Option (List S42 × Int × Int)
  | 0, a, acc => some (acc, a, 0)
  | d + 1, a, acc => (octet_Get.f k l a 1).bind fun g => if g.2.2 = 0 then (op_Known.f (g.1 % 256)).bind fun kn => if kn = true then (code_wide.f k (g.1 % 256)).bind fun wd => if wd = true then (octet_Get.f k l g.2.1 2).bind fun h => if h.2.2 = 0 then (op_May.f k (g.1 % 256) h.1 0).bind fun my => if my = true then (if acc.length < 1000 then code_Read.l0 k l d h.2.1 (acc ++ [⟨g.1 % 256, h.1, 0⟩]) else none) else some ([], 0, 40) else some ([], 0, h.2.2)
      else (op_May.f k (g.1 % 256) 0 0).bind fun my => if my = true then (if acc.length < 1000 then code_Read.l0 k l d g.2.1 (acc ++ [⟨g.1 % 256, 0, 0⟩]) else none) else some ([], 0, 40) else some ([], 0, 40) else some ([], 0, g.2.2)
def code_Read.f (k : Nat) (l : List Int) (a : Int) : Option (List S42 × Int × Int) :=
  (octet_Get.f k l a 1).bind fun g => if g.2.2 = 0 then (if 0 < g.1 ∧ g.1 ≤ 200 then code_Read.l0 k l g.1.toNat g.2.1 [] else some ([], 0, 40)) else some ([], 0, g.2.2)
theorem code_Read.mono_l0 (l : List Int) : ∀ (d k : Nat) (a : Int) (acc : List S42), LeO (code_Read.l0 k l d a acc) (code_Read.l0 (k + 1) l d a acc) := by
  intro d
  induction d with
  | zero => intro k a acc; exact LeO.refl _
  | succ d ih =>
    intro k a acc
    simp only [code_Read.l0]
    exact LeO.bind (octet_Get.mono _ _ _ _) fun g => LeO.ite (LeO.bind (LeO.refl _) fun kn => LeO.ite (LeO.bind (code_wide.mono _ _) fun wd => LeO.ite (LeO.bind (octet_Get.mono _ _ _ _) fun h => LeO.ite (LeO.bind (op_May.mono _ _ _ _) fun my => LeO.ite (LeO.ite (ih _ _ _) (LeO.refl _)) (LeO.refl _)) (LeO.refl _)) (LeO.bind (op_May.mono _ _ _ _) fun my => LeO.ite (LeO.ite (ih _ _ _) (LeO.refl _)) (LeO.refl _))) (LeO.refl _)) (LeO.refl _)
theorem code_Read.mono : ∀ a0 a1 k, LeO (code_Read.f k a0 a1) (code_Read.f (k + 1) a0 a1) := by
  intro l a k
  unfold code_Read.f
  exact LeO.bind (octet_Get.mono _ _ _ _) fun g => LeO.ite (LeO.ite (code_Read.mono_l0 _ _ _ _ _) (LeO.refl _)) (LeO.refl _)
/-- The blocks of the three results, and of the reader. -/
def CSt (w W : World) (A : Option Addr) (m c : Nat) (a : Int) (v : Value) (xs : List S42) : Prop :=
  CRd W (w.heap.size + 1 + 1 + 1) A m c a ∧ W.heap[w.heap.size]? = some (.cells #[v] 23 (0, 0)) ∧ W.heap[w.heap.size + 1]? = some (.cells #[.int .i64 0] 3 (0, 0)) ∧ W.heap[w.heap.size + 1 + 1]? = some (.cells #[.int .i64 0] 24 (0, 0)) ∧ Below w.heap.size w W ∧ Kd.R k42 42 W w.heap.size (fun k => k ≠ w.heap.size ∧ k ≠ w.heap.size + 1 ∧ k ≠ w.heap.size + 1 + 1 ∧ k ≠ w.heap.size + 1 + 1 + 1) v xs
theorem CSt.zero (w : World) (A : Option Addr) (m c : Nat) (a : Int) : CSt w ((((w.alloc (.cells #[.slice none 0 0] 23)).alloc (.cells #[.int .i64 0] 3)).alloc (.cells #[.int .i64 0] 24)).alloc (.cells #[.slice A m c, .int .i64 a] 58)) A m c a (.slice none 0 0) [] := by
  have h1 := blk_new (w.alloc (.cells #[.slice none 0 0] 23)) (.cells #[.int .i64 0] 3)
  have h2 := blk_new ((w.alloc (.cells #[.slice none 0 0] 23)).alloc (.cells #[.int .i64 0] 3)) (.cells #[.int .i64 0] 24)
  have h3 := blk_new (((w.alloc (.cells #[.slice none 0 0] 23)).alloc (.cells #[.int .i64 0] 3)).alloc (.cells #[.int .i64 0] 24)) (.cells #[.slice A m c, .int .i64 a] 58)
  rw [World.size_alloc] at h1
  rw [World.size_alloc, World.size_alloc] at h2
  rw [World.size_alloc, World.size_alloc, World.size_alloc] at h3
  exact ⟨h3, blk_alloc (blk_alloc (blk_alloc (blk_new w _) _) _) _, blk_alloc (blk_alloc h1 _) _, blk_alloc h2 _, below_alloc (below_alloc (below_alloc (below_alloc (Below.refl w.heap.size w) _) _) _) _, Kd.R_nil _ _ _ _ _⟩
theorem CSt.num {w W : World} {A : Option Addr} {c : Nat} {a : Int} {v : Value} {xs : List S42} {l : List Int} (k : Nat) (wd r1 r2 : Int) (hS : CSt w W A l.length c a v xs) (hr : Kd.C (Kd.int .u8) w A l.length l) (hc : l.length ≤ c) (h : octet_Get.f k l a wd = some (r1, r2, 0)) :
    Calls Tryd.prog 25 #[.pointer (some ⟨w.heap.size + 1 + 1 + 1, 0, none⟩), .int .i64 wd] W fun er w' => er = .returned (.int .i64 r1) ∧ CSt w w' A l.length c r2 v xs ∧ KeepBut W w' (w.heap.size + 1 + 1 + 1) none := by
  obtain ⟨h1, h2, h3, h4, h5, h6⟩ := hS
  refine (code_reader_number.ok k (w.heap.size + 1 + 1 + 1) w.heap.size A c l a wd r1 r2 W (by omega) h1 (Kd.C_below hr h5) hc h).mono ?_
  rintro er w' ⟨rfl, hm, hk, hb⟩
  exact ⟨rfl, ⟨hm, hk.blk h2 (by omega) (by simp), hk.blk h3 (by omega) (by simp), hk.blk h4 (by omega) (by simp), h5.trans hb, Kd.R_keep h6 hk (fun _ h => h.2.2.2)⟩, hk⟩
theorem CSt.bad {w W : World} {A : Option Addr} {c : Nat} {a : Int} {v : Value} {xs : List S42} {l : List Int} (k : Nat) (wd r1 r2 r3 : Int) (hS : CSt w W A l.length c a v xs) (hr : Kd.C (Kd.int .u8) w A l.length l) (hc : l.length ≤ c) (h3 : r3 ≠ 0) (h : octet_Get.f k l a wd = some (r1, r2, r3)) :
    Calls Tryd.prog 25 #[.pointer (some ⟨w.heap.size + 1 + 1 + 1, 0, none⟩), .int .i64 wd] W fun er w' => er = .panicked [CWr r3] ∧ CSt w w' A l.length c a v xs := by
  obtain ⟨h1, h2, h3_, h4, h5, h6⟩ := hS
  refine (code_reader_number.bad k (w.heap.size + 1 + 1 + 1) w.heap.size A c l a wd r1 r2 r3 W (by omega) h1 (Kd.C_below hr h5) hc h3 h).mono ?_
  rintro er w' ⟨rfl, hb⟩
  exact ⟨rfl, blk_below h1 hb, blk_below h2 hb, blk_below h3_ hb, blk_below h4 hb, h5.trans (hb.mono h5.size), Kd.R_below h6 hb⟩
theorem CSt.below {w W W2 : World} {A : Option Addr} {m c : Nat} {a : Int} {v : Value} {xs : List S42} (hS : CSt w W A m c a v xs) (hb : Below W.heap.size W W2) : CSt w W2 A m c a v xs := by
  obtain ⟨h1, h2, h3, h4, h5, h6⟩ := hS
  exact ⟨blk_below h1 hb, blk_below h2 hb, blk_below h3 hb, blk_below h4 hb, h5.trans (hb.mono h5.size), Kd.R_below h6 hb⟩
/-- And the block of the instruction that is being read. -/
def CSp (w W : World) (A : Option Addr) (m c : Nat) (a : Int) (v : Value) (xs : List S42) (p : Nat) (x y : Int) : Prop :=
  CSt w W A m c a v xs ∧ Kd.R k42 42 W w.heap.size (fun k => (k ≠ w.heap.size ∧ k ≠ w.heap.size + 1 ∧ k ≠ w.heap.size + 1 + 1 ∧ k ≠ w.heap.size + 1 + 1 + 1) ∧ k ≠ p) v xs ∧ W.heap[p]? = some (.cells #[.int .u8 x, .int .i64 y, .int .i64 0] 42 (0, 0)) ∧ w.heap.size + 1 + 1 + 1 < p
theorem CSp.new {w W : World} {A : Option Addr} {m c : Nat} {a : Int} {v : Value} {xs : List S42} (hS : CSt w W A m c a v xs) (x : Int) : CSp w (W.alloc (.cells #[.int .u8 x, .int .i64 0, .int .i64 0] 42)) A m c a v xs W.heap.size x 0 :=
  ⟨hS.below (Below.alloc (Below.refl W.heap.size W) (Nat.le_refl _) _), Kd.R_mono (Kd.R_alloc (Kd.R_bound hS.2.2.2.2.2) _) (fun k h => ⟨h.1, Nat.ne_of_lt h.2.2.1⟩), blk_new W _, blk_lt hS.1⟩
theorem CSp.below {w W W2 : World} {A : Option Addr} {m c : Nat} {a : Int} {v : Value} {xs : List S42} {p : Nat} {x y : Int} (hS : CSp w W A m c a v xs p x y) (hb : Below W.heap.size W W2) : CSp w W2 A m c a v xs p x y :=
  ⟨hS.1.below hb, Kd.R_below hS.2.1 hb, blk_below hS.2.2.1 hb, hS.2.2.2⟩
theorem CSp.num {w W : World} {A : Option Addr} {c : Nat} {a : Int} {v : Value} {xs : List S42} {l : List Int} {p : Nat} {x y : Int} (k : Nat) (wd r1 r2 : Int) (hS : CSp w W A l.length c a v xs p x y) (hr : Kd.C (Kd.int .u8) w A l.length l) (hc : l.length ≤ c) (h : octet_Get.f k l a wd = some (r1, r2, 0)) :
    Calls Tryd.prog 25 #[.pointer (some ⟨w.heap.size + 1 + 1 + 1, 0, none⟩), .int .i64 wd] W fun er w' => er = .returned (.int .i64 r1) ∧ CSp w w' A l.length c r2 v xs p x y := by
  refine (CSt.num k wd r1 r2 hS.1 hr hc h).mono ?_
  rintro er w' ⟨rfl, h1, hk⟩
  have hp := hS.2.2.2
  exact ⟨rfl, h1, Kd.R_keep hS.2.1 hk (fun _ h => h.1.2.2.2), hk.blk hS.2.2.1 (by omega) (by simp), hp⟩
theorem CSp.put {w W : World} {A : Option Addr} {m c : Nat} {a : Int} {v : Value} {xs : List S42} {p : Nat} {x y : Int} (hS : CSp w W A m c a v xs p x y) (z : Int) : CSp w (W.setCell ⟨p, 1, none⟩ (.int .i64 z)) A m c a v xs p x z := by
  obtain ⟨⟨h1, h2, h3, h4, h5, h6⟩, h7, h8, h9⟩ := hS
  exact ⟨⟨blk_far h1 (p := ⟨p, 1, none⟩) (by show _ ≠ p; omega) _, blk_far h2 (p := ⟨p, 1, none⟩) (by show _ ≠ p; omega) _, blk_far h3 (p := ⟨p, 1, none⟩) (by show _ ≠ p; omega) _, blk_far h4 (p := ⟨p, 1, none⟩) (by show _ ≠ p; omega) _, h5.setCell (p := ⟨p, 1, none⟩) (by show _ ≤ p; omega) _, Kd.R_mono (Kd.R_far (p := ⟨p, 1, none⟩) h7 (fun _ h => h.2) _) (fun _ h => h.1)⟩, Kd.R_far (p := ⟨p, 1, none⟩) h7 (fun _ h => h.2) _, blk_put h8 1 _ rfl, h9⟩
theorem CSt.app {w W w9 : World} {A : Option Addr} {m c : Nat} {a : Int} {v v9 : Value} {xs ys : List S42} (hS : CSt w W A m c a v xs) (hg : W.grownBy w9 v.ownBlock) (hb : Below w.heap.size w w9) (hR : Kd.R k42 42 w9 w.heap.size (fun k => k ≠ w.heap.size ∧ k ≠ w.heap.size + 1 ∧ k ≠ w.heap.size + 1 + 1 ∧ k ≠ w.heap.size + 1 + 1 + 1) v9 ys) : CSt w (w9.setCell ⟨w.heap.size, 0, none⟩ v9) A m c a v9 ys := by
  obtain ⟨h1, h2, h3, h4, h5, h6⟩ := hS
  exact ⟨blk_far (blk_grown h1 hg (fun e => (h6.1 _ e.symm).2.2.2 rfl)) (p := ⟨w.heap.size, 0, none⟩) (by show _ ≠ w.heap.size; omega) _, blk_put (blk_grown h2 hg (fun e => (h6.1 _ e.symm).1 rfl)) 0 _ rfl, blk_far (blk_grown h3 hg (fun e => (h6.1 _ e.symm).2.1 rfl)) (p := ⟨w.heap.size, 0, none⟩) (by show _ ≠ w.heap.size; omega) _, blk_far (blk_grown h4 hg (fun e => (h6.1 _ e.symm).2.2.1 rfl)) (p := ⟨w.heap.size, 0, none⟩) (by show _ ≠ w.heap.size; omega) _, hb.setCell (p := ⟨w.heap.size, 0, none⟩) (Nat.le_refl _) _, Kd.R_far (p := ⟨w.heap.size, 0, none⟩) hR (fun _ h => h.1) _⟩
set_option maxHeartbeats 8000000 in
set_option maxRecDepth 100000 in
theorem code_Read.calls (k : Nat) (A0 : Option Addr) (c0 : Nat) (l0 : List Int) (a1 : Int) (r1 : List (S42)) (r2 : Int) (r3 : Int) (w : World) (hG : Gl w) (hr0 : Kd.C (Kd.int .u8) w A0 l0.length l0) (hc0 : l0.length ≤ c0) (h : code_Read.f k l0 a1 = some (r1, r2, r3)) :
    Calls Tryd.prog 9 #[.slice A0 l0.length c0, .int .i64 a1] w fun e w' => ∃ v0_ : Value, e = .returned (.tuple #[v0_, .int .i64 r2, .int .i64 r3]) ∧ Kd.R k42 42 w' w.heap.size (fun _ => True) v0_ r1 ∧ Below w.heap.size w w' := by
  unfold code_Read.f at h
  obtain ⟨⟨g1, g2, g3⟩, hg, h⟩ := Option.bind_eq_some_iff.mp h
  dsimp only at h
  have HG := Aside0.mk hG
  have HR := Aside0.mk hr0
  have HC := Aside0.mk hc0
  have HQ := Aside0.mk hg
  clear hG hr0 hc0 hg
  have Z0 := Aside0.mk (CSt.zero w A0 l0.length c0 a1)
  have hmf : ∀ (fn : Fn) (first cap : Array Value) (w : World), (Instr.makeFunc fn first cap).run Tryd.prog w = .ok (.func fn first cap) w := fun _ _ _ _ => rfl
  by_cases h3 : g3 = 0
  case neg =>
    rw [if_neg h3] at h
    simp only [Option.some.injEq, Prod.mk.injEq] at h
    obtain ⟨rfl, rfl, rfl⟩ := h
    go_enter_defers Tryd.func9, Tryd.ntmps9
    go_wp2_with (first | (go_at_call 25; (refine (CSt.bad k 1 g1 g2 g3 Z0.out HR.out HC.out h3 HQ.out).mono ?_); rintro er w1 ⟨rfl, hS⟩; have S1 := Aside0.mk hS; clear hS))
    refine leaves_cons (f := 24) (args := #[.pointer (some ⟨w.heap.size, 0, none⟩), .pointer (some ⟨w.heap.size + 1, 0, none⟩), .pointer (some ⟨w.heap.size + 1 + 1, 0, none⟩)]) (by simp) (by simp [go_sem]) ?_
    refine (code_Read.caught w.heap.size g3 _ _ _ [] _ S1.out.2.1 S1.out.2.2.1 S1.out.2.2.2.1).mono ?_
    rintro er u' w'' ⟨rfl, rfl, y0, y1, y2, yb⟩
    have t0_ := blk_cell y0 0
    have t1_ := blk_cell y1 0
    have t2_ := blk_cell y2 0
    simp [Leaves, settle, results, Tryd.results9, go_sem, t0_, t1_, t2_]
    first | exact ⟨Kd.R_nil _ _ _ _ _, S1.out.2.2.2.2.1.trans yb⟩ | exact ⟨_, ⟨rfl, Kd.R_nil _ _ _ _ _⟩, S1.out.2.2.2.2.1.trans yb⟩
  subst h3
  rw [if_pos rfl] at h
  by_cases hm : 0 < g1 ∧ g1 ≤ 200
  case neg =>
    rw [if_neg hm] at h
    simp only [Option.some.injEq, Prod.mk.injEq] at h
    obtain ⟨rfl, rfl, rfl⟩ := h
    by_cases h4 : 0 < g1
    · have h5 : decide (g1 ≤ 200) = false := decide_eq_false fun h => hm ⟨h4, h⟩
      go_enter_defers Tryd.func9, Tryd.ntmps9
      go_wp2_with (first | (go_at_call 25; (refine (CSt.num k 1 g1 g2 Z0.out HR.out HC.out HQ.out).mono ?_); rintro er w1 ⟨rfl, hS, hk⟩; have S1 := Aside0.mk hS; clear hS hk) | (go_at_call 26; (refine (code_must.bad _).mono ?_); rintro er w2 ⟨rfl, rfl⟩))
      refine leaves_cons (f := 24) (args := #[.pointer (some ⟨w.heap.size, 0, none⟩), .pointer (some ⟨w.heap.size + 1, 0, none⟩), .pointer (some ⟨w.heap.size + 1 + 1, 0, none⟩)]) (by simp) (by simp [go_sem]) ?_
      refine (code_Read.caught w.heap.size 40 _ _ _ [] _ S1.out.2.1 S1.out.2.2.1 S1.out.2.2.2.1).mono ?_
      rintro er u' w'' ⟨rfl, rfl, y0, y1, y2, yb⟩
      have t0_ := blk_cell y0 0
      have t1_ := blk_cell y1 0
      have t2_ := blk_cell y2 0
      simp [Leaves, settle, results, Tryd.results9, go_sem, t0_, t1_, t2_]
      first | exact ⟨Kd.R_nil _ _ _ _ _, S1.out.2.2.2.2.1.trans yb⟩ | exact ⟨_, ⟨rfl, Kd.R_nil _ _ _ _ _⟩, S1.out.2.2.2.2.1.trans yb⟩
    · go_enter_defers Tryd.func9, Tryd.ntmps9
      go_wp2_with (first | (go_at_call 25; (refine (CSt.num k 1 g1 g2 Z0.out HR.out HC.out HQ.out).mono ?_); rintro er w1 ⟨rfl, hS, hk⟩; have S1 := Aside0.mk hS; clear hS hk) | (go_at_call 26; (refine (code_must.bad _).mono ?_); rintro er w2 ⟨rfl, rfl⟩))
      refine leaves_cons (f := 24) (args := #[.pointer (some ⟨w.heap.size, 0, none⟩), .pointer (some ⟨w.heap.size + 1, 0, none⟩), .pointer (some ⟨w.heap.size + 1 + 1, 0, none⟩)]) (by simp) (by simp [go_sem]) ?_
      refine (code_Read.caught w.heap.size 40 _ _ _ [] _ S1.out.2.1 S1.out.2.2.1 S1.out.2.2.2.1).mono ?_
      rintro er u' w'' ⟨rfl, rfl, y0, y1, y2, yb⟩
      have t0_ := blk_cell y0 0
      have t1_ := blk_cell y1 0
      have t2_ := blk_cell y2 0
      simp [Leaves, settle, results, Tryd.results9, go_sem, t0_, t1_, t2_]
      first | exact ⟨Kd.R_nil _ _ _ _ _, S1.out.2.2.2.2.1.trans yb⟩ | exact ⟨_, ⟨rfl, Kd.R_nil _ _ _ _ _⟩, S1.out.2.2.2.2.1.trans yb⟩
  rw [if_pos hm] at h
  obtain ⟨hm1, hm2⟩ := hm
  have HH := Aside0.mk h
  clear h
  go_enter_defers Tryd.func9, Tryd.ntmps9
  go_wp2_with (first | ((fail_if_success (have h_ := S1)); go_at_call 25; (refine (CSt.num k 1 g1 g2 Z0.out HR.out HC.out HQ.out).mono ?_); rintro er w1 ⟨rfl, hS, hk⟩; have S1 := Aside0.mk hS; clear hS hk) | (go_at_call 26; (refine (code_must.ok _).mono ?_); rintro er w2 ⟨rfl, rfl⟩))
  go_loopw [25] (fun u wr => ∃ (i : Nat) (a : Int) (acc : List S42) (v : Value), u = .int .i64 (i : Int) ∧ i ≤ g1.toNat ∧ Aside0 (code_Read.l0 k l0 (g1.toNat - i) a acc = some (r1, r2, r3)) ∧ Aside0 (CSt w wr A0 l0.length c0 a v acc))
    (fun u _ => g1.toNat - (intOf u).toNat)
  case atStart => exact ⟨0, g2, [], _, rfl, Nat.zero_le _, HH, S1⟩
  case round =>
    obtain ⟨i, a, acc, v, rfl, hi, HL, HS⟩ := hrel
    obtain ⟨Av, cv, rfl⟩ := Kd.R_slice HS.out.2.2.2.2.2
    by_cases hlt : (i : Int) < g1
    · have hl := HL.out
      rw [show g1.toNat - i = (g1.toNat - (i + 1)) + 1 by omega, code_Read.l0] at hl
      obtain ⟨⟨x1, x2, x3⟩, hx, hl⟩ := Option.bind_eq_some_iff.mp hl
      dsimp only at hl
      have HX := Aside0.mk hx
      clear hx HL
      by_cases e3 : x3 = 0
      case neg =>
        rw [if_neg e3] at hl
        simp only [Option.some.injEq, Prod.mk.injEq] at hl
        obtain ⟨rfl, rfl, rfl⟩ := hl
        go_wp2_with (first | ((fail_if_success (have h_ := M1)); go_at_call 25; (refine (CSt.bad k 1 x1 x2 x3 HS.out HR.out HC.out e3 HX.out).mono ?_); rintro er w1 ⟨rfl, hS⟩; have S1 := Aside0.mk hS; clear hS))
        refine leaves_cons (f := 24) (args := #[.pointer (some ⟨w.heap.size, 0, none⟩), .pointer (some ⟨w.heap.size + 1, 0, none⟩), .pointer (some ⟨w.heap.size + 1 + 1, 0, none⟩)]) (by simp) (by simp [go_sem]) ?_
        refine (code_Read.caught w.heap.size x3 _ _ _ [] _ S1.out.2.1 S1.out.2.2.1 S1.out.2.2.2.1).mono ?_
        rintro er u' w'' ⟨rfl, rfl, y0, y1, y2, yb⟩
        have t0_ := blk_cell y0 0
        have t1_ := blk_cell y1 0
        have t2_ := blk_cell y2 0
        simp [Leaves, settle, results, Tryd.results9, go_sem, t0_, t1_, t2_]
        first | exact ⟨Kd.R_nil _ _ _ _ _, S1.out.2.2.2.2.1.trans yb⟩ | exact ⟨_, ⟨rfl, Kd.R_nil _ _ _ _ _⟩, S1.out.2.2.2.2.1.trans yb⟩
      subst e3
      rw [if_pos rfl] at hl
      obtain ⟨kn, hkn, hl⟩ := Option.bind_eq_some_iff.mp hl
      have HKN := Aside0.mk hkn
      clear hkn
      cases kn with
      | false =>
        rw [if_neg (by decide)] at hl
        simp only [Option.some.injEq, Prod.mk.injEq] at hl
        obtain ⟨rfl, rfl, rfl⟩ := hl
        go_wp2_with (first | ((fail_if_success (have h_ := M1)); go_at_call 25; (refine (CSt.num k 1 x1 x2 HS.out HR.out HC.out HX.out).mono ?_); rintro er w1 ⟨rfl, hS, hk⟩; have P1 := Aside0.mk (CSp.new hS (x1 % 256)); have M1 := True.intro; clear hS hk) | (go_at_call 27; (refine (op_Known.calls (x1 % 256) false _ HKN.out).mono ?_); rintro er w2 ⟨rfl, ⟨nd, rfl⟩⟩; have P2 := Aside0.mk (P1.out.below (pw_below_drewN (Below.refl _ _) nd)); have q20 := blk_cell P2.out.2.2.1 0) | ((fail_if_success (have h_ := M2)); go_at_call 26; (refine (code_must.bad _).mono ?_); rintro er w_ ⟨rfl, rfl⟩; have M2 := True.intro))
        refine leaves_cons (f := 24) (args := #[.pointer (some ⟨w.heap.size, 0, none⟩), .pointer (some ⟨w.heap.size + 1, 0, none⟩), .pointer (some ⟨w.heap.size + 1 + 1, 0, none⟩)]) (by simp) (by simp [go_sem]) ?_
        refine (code_Read.caught w.heap.size 40 _ _ _ [] _ P2.out.1.2.1 P2.out.1.2.2.1 P2.out.1.2.2.2.1).mono ?_
        rintro er u' w'' ⟨rfl, rfl, y0, y1, y2, yb⟩
        have t0_ := blk_cell y0 0
        have t1_ := blk_cell y1 0
        have t2_ := blk_cell y2 0
        simp [Leaves, settle, results, Tryd.results9, go_sem, t0_, t1_, t2_]
        first | exact ⟨Kd.R_nil _ _ _ _ _, P2.out.1.2.2.2.2.1.trans yb⟩ | exact ⟨_, ⟨rfl, Kd.R_nil _ _ _ _ _⟩, P2.out.1.2.2.2.2.1.trans yb⟩
      | true =>
        rw [if_pos rfl] at hl
        obtain ⟨wd, hwd, hl⟩ := Option.bind_eq_some_iff.mp hl
        have HW := Aside0.mk hwd
        clear hwd
        cases wd with
        | true =>
          rw [if_pos rfl] at hl
          obtain ⟨⟨y1, y2, y3⟩, hy, hl⟩ := Option.bind_eq_some_iff.mp hl
          dsimp only at hl
          have HY := Aside0.mk hy
          clear hy
          by_cases e5 : y3 = 0
          case neg =>
            rw [if_neg e5] at hl
            simp only [Option.some.injEq, Prod.mk.injEq] at hl
            obtain ⟨rfl, rfl, rfl⟩ := hl
            go_wp2_with (first | ((fail_if_success (have h_ := M1)); go_at_call 25; (refine (CSt.num k 1 x1 x2 HS.out HR.out HC.out HX.out).mono ?_); rintro er w1 ⟨rfl, hS, hk⟩; have P1 := Aside0.mk (CSp.new hS (x1 % 256)); have M1 := True.intro; clear hS hk) | (go_at_call 27; (refine (op_Known.calls (x1 % 256) true _ HKN.out).mono ?_); rintro er w2 ⟨rfl, ⟨nd, rfl⟩⟩; have P2 := Aside0.mk (P1.out.below (pw_below_drewN (Below.refl _ _) nd)); have q20 := blk_cell P2.out.2.2.1 0) | ((fail_if_success (have h_ := M2)); go_at_call 26; (refine (code_must.ok _).mono ?_); rintro er w_ ⟨rfl, rfl⟩; have M2 := True.intro) | (go_at_call 28; (refine (code_wide.calls k (x1 % 256) true _ (Gl.below HG.out P2.out.1.2.2.2.2.1) HW.out).mono ?_); rintro er w4 ⟨rfl, hb⟩; have P4 := Aside0.mk (P2.out.below hb); have q40 := blk_cell P4.out.2.2.1 0; have q41 := blk_cell P4.out.2.2.1 1; have q42 := blk_cell P4.out.2.2.1 2; clear hb) | ((fail_if_success (have h_ := M5)); go_at_call 25; (refine (CSt.bad k 2 y1 y2 y3 P4.out.1 HR.out HC.out e5 HY.out).mono ?_); rintro er w5 ⟨rfl, hS⟩; have S5 := Aside0.mk hS; clear hS))
            refine leaves_cons (f := 24) (args := #[.pointer (some ⟨w.heap.size, 0, none⟩), .pointer (some ⟨w.heap.size + 1, 0, none⟩), .pointer (some ⟨w.heap.size + 1 + 1, 0, none⟩)]) (by simp) (by simp [go_sem]) ?_
            refine (code_Read.caught w.heap.size y3 _ _ _ [] _ S5.out.2.1 S5.out.2.2.1 S5.out.2.2.2.1).mono ?_
            rintro er u' w'' ⟨rfl, rfl, y0, y1, y2, yb⟩
            have t0_ := blk_cell y0 0
            have t1_ := blk_cell y1 0
            have t2_ := blk_cell y2 0
            simp [Leaves, settle, results, Tryd.results9, go_sem, t0_, t1_, t2_]
            first | exact ⟨Kd.R_nil _ _ _ _ _, S5.out.2.2.2.2.1.trans yb⟩ | exact ⟨_, ⟨rfl, Kd.R_nil _ _ _ _ _⟩, S5.out.2.2.2.2.1.trans yb⟩
          subst e5
          rw [if_pos rfl] at hl
          obtain ⟨my, hmy, hl⟩ := Option.bind_eq_some_iff.mp hl
          have HMY := Aside0.mk hmy
          clear hmy
          cases my with
          | false =>
            rw [if_neg (by decide)] at hl
            simp only [Option.some.injEq, Prod.mk.injEq] at hl
            obtain ⟨rfl, rfl, rfl⟩ := hl
            go_wp2_with (first | ((fail_if_success (have h_ := M1)); go_at_call 25; (refine (CSt.num k 1 x1 x2 HS.out HR.out HC.out HX.out).mono ?_); rintro er w1 ⟨rfl, hS, hk⟩; have P1 := Aside0.mk (CSp.new hS (x1 % 256)); have M1 := True.intro; clear hS hk) | (go_at_call 27; (refine (op_Known.calls (x1 % 256) true _ HKN.out).mono ?_); rintro er w2 ⟨rfl, ⟨nd, rfl⟩⟩; have P2 := Aside0.mk (P1.out.below (pw_below_drewN (Below.refl _ _) nd)); have q20 := blk_cell P2.out.2.2.1 0) | ((fail_if_success (have h_ := M2)); go_at_call 26; (refine (code_must.ok _).mono ?_); rintro er w_ ⟨rfl, rfl⟩; have M2 := True.intro) | (go_at_call 28; (refine (code_wide.calls k (x1 % 256) true _ (Gl.below HG.out P2.out.1.2.2.2.2.1) HW.out).mono ?_); rintro er w4 ⟨rfl, hb⟩; have P4 := Aside0.mk (P2.out.below hb); have q40 := blk_cell P4.out.2.2.1 0; have q41 := blk_cell P4.out.2.2.1 1; have q42 := blk_cell P4.out.2.2.1 2; clear hb) | ((fail_if_success (have h_ := M5)); go_at_call 25; (refine (CSp.num k 2 y1 y2 P4.out HR.out HC.out HY.out).mono ?_); rintro er w5 ⟨rfl, hS⟩; have s51 := blk_cell hS.2.2.1 1; have z51 := blk_frozen hS.2.2.1 1; have P5 := Aside0.mk (hS.put y1); have q50 := blk_cell P5.out.2.2.1 0; have q51 := blk_cell P5.out.2.2.1 1; have q52 := blk_cell P5.out.2.2.1 2; have M5 := True.intro; clear hS) | (go_at_call 29; (refine (op_May.calls k (x1 % 256) y1 0 false _ (Gl.below HG.out P5.out.1.2.2.2.2.1) HMY.out).mono ?_); rintro er w6 ⟨rfl, hb⟩; have P6 := Aside0.mk (P5.out.below hb); have n60 := blk_cell P6.out.1.2.1 0; have q60 := blk_cell P6.out.2.2.1 0; have q61 := blk_cell P6.out.2.2.1 1; have q62 := blk_cell P6.out.2.2.1 2; clear hb) | ((fail_if_success (have h_ := M7)); go_at_call 26; (refine (code_must.bad _).mono ?_); rintro er w_ ⟨rfl, rfl⟩; have M7 := True.intro))
            refine leaves_cons (f := 24) (args := #[.pointer (some ⟨w.heap.size, 0, none⟩), .pointer (some ⟨w.heap.size + 1, 0, none⟩), .pointer (some ⟨w.heap.size + 1 + 1, 0, none⟩)]) (by simp) (by simp [go_sem]) ?_
            refine (code_Read.caught w.heap.size 40 _ _ _ [] _ P6.out.1.2.1 P6.out.1.2.2.1 P6.out.1.2.2.2.1).mono ?_
            rintro er u' w'' ⟨rfl, rfl, y0, y1, y2, yb⟩
            have t0_ := blk_cell y0 0
            have t1_ := blk_cell y1 0
            have t2_ := blk_cell y2 0
            simp [Leaves, settle, results, Tryd.results9, go_sem, t0_, t1_, t2_]
            first | exact ⟨Kd.R_nil _ _ _ _ _, P6.out.1.2.2.2.2.1.trans yb⟩ | exact ⟨_, ⟨rfl, Kd.R_nil _ _ _ _ _⟩, P6.out.1.2.2.2.2.1.trans yb⟩
          | true =>
            rw [if_pos rfl] at hl
            by_cases hla : acc.length < 1000
            case neg => rw [if_neg hla] at hl; cases hl
            rw [if_pos hla] at hl
            have HN := Aside0.mk hl
            clear hl
            go_wp2_with (first | ((fail_if_success (have h_ := M1)); go_at_call 25; (refine (CSt.num k 1 x1 x2 HS.out HR.out HC.out HX.out).mono ?_); rintro er w1 ⟨rfl, hS, hk⟩; have P1 := Aside0.mk (CSp.new hS (x1 % 256)); have M1 := True.intro; clear hS hk) | (go_at_call 27; (refine (op_Known.calls (x1 % 256) true _ HKN.out).mono ?_); rintro er w2 ⟨rfl, ⟨nd, rfl⟩⟩; have P2 := Aside0.mk (P1.out.below (pw_below_drewN (Below.refl _ _) nd)); have q20 := blk_cell P2.out.2.2.1 0) | ((fail_if_success (have h_ := M2)); go_at_call 26; (refine (code_must.ok _).mono ?_); rintro er w_ ⟨rfl, rfl⟩; have M2 := True.intro) | (go_at_call 28; (refine (code_wide.calls k (x1 % 256) true _ (Gl.below HG.out P2.out.1.2.2.2.2.1) HW.out).mono ?_); rintro er w4 ⟨rfl, hb⟩; have P4 := Aside0.mk (P2.out.below hb); have q40 := blk_cell P4.out.2.2.1 0; have q41 := blk_cell P4.out.2.2.1 1; have q42 := blk_cell P4.out.2.2.1 2; clear hb) | ((fail_if_success (have h_ := M5)); go_at_call 25; (refine (CSp.num k 2 y1 y2 P4.out HR.out HC.out HY.out).mono ?_); rintro er w5 ⟨rfl, hS⟩; have s51 := blk_cell hS.2.2.1 1; have z51 := blk_frozen hS.2.2.1 1; have P5 := Aside0.mk (hS.put y1); have q50 := blk_cell P5.out.2.2.1 0; have q51 := blk_cell P5.out.2.2.1 1; have q52 := blk_cell P5.out.2.2.1 2; have M5 := True.intro; clear hS) | (go_at_call 29; (refine (op_May.calls k (x1 % 256) y1 0 true _ (Gl.below HG.out P5.out.1.2.2.2.2.1) HMY.out).mono ?_); rintro er w6 ⟨rfl, hb⟩; have P6 := Aside0.mk (P5.out.below hb); have n60 := blk_cell P6.out.1.2.1 0; have q60 := blk_cell P6.out.2.2.1 0; have q61 := blk_cell P6.out.2.2.1 1; have q62 := blk_cell P6.out.2.2.1 2; clear hb) | ((fail_if_success (have h_ := M7)); go_at_call 26; (refine (code_must.ok _).mono ?_); rintro er w_ ⟨rfl, rfl⟩; have M7 := True.intro) | ((with_reducible refine gate_builtin (b := .append) (xs := #[.tmp 44, .tmp 46]) rfl ?_); at_builtin; refine Kd.R_append k42 (w0 := w) w.heap.size rfl (.tmp 44) (.tmp 46) 23 42 (.agg #[(.int .u8 0), (.int .i64 0), (.int .i64 0)]) 24 rfl Tryd.underlying23 info42 rfl (by decide) (by omega) (.slice Av acc.length cv) acc (⟨x1 % 256, y1, 0⟩ : S42) [.int .u8 (x1 % 256), .int .i64 y1, .int .i64 0] (fun k => k ≠ w.heap.size ∧ k ≠ w.heap.size + 1 ∧ k ≠ w.heap.size + 1 + 1 ∧ k ≠ w.heap.size + 1 + 1 + 1) (fun _ => False) rfl (by first | (go_simp; done) | (go_simp; rfl)) ?aP (fun _ hk => hk.elim) ?aF P6.out.1.2.2.2.2.2 P6.out.1.2.2.2.2.1 P6.out.1.2.2.2.2.1.size ?aL ?_; (case aP => exact k42_mkM _ _ _ (⟨x1 % 256, y1, 0⟩ : S42)); (case aF => exact fun k_ hk => by have h1_ := P6.out.2.2.2; have h2_ := blk_lt P6.out.2.2.1; refine ⟨by omega, by omega, by omega, by omega⟩); (case aL => omega); intro v9 w9 ho hb9 hg hat; obtain ⟨A9, c9, rfl⟩ := Kd.R_slice ho; rw [List.length_append, List.length_singleton] at ho; have hN := blk_grown P6.out.1.2.1 hg (fun e => (P6.out.1.2.2.2.2.2.1 _ e.symm).1 rfl); have n90 := blk_cell hN 0; have z90 := blk_frozen hN 0; have S9 := Aside0.mk (CSt.app P6.out.1 hg hb9 ho); clear hN ho hb9 hg hat))
            go_roundw
            case rel => exact ⟨i + 1, y2, acc ++ [⟨x1 % 256, y1, 0⟩], .slice A9 (acc.length + 1) c9, by first | rfl | (rw [← hw]; done) | simp [hw], by omega, HN, S9⟩
            case measure => simp [intOf]; omega
        | false =>
          rw [if_neg (by decide)] at hl
          obtain ⟨my, hmy, hl⟩ := Option.bind_eq_some_iff.mp hl
          have HMY := Aside0.mk hmy
          clear hmy
          cases my with
          | false =>
            rw [if_neg (by decide)] at hl
            simp only [Option.some.injEq, Prod.mk.injEq] at hl
            obtain ⟨rfl, rfl, rfl⟩ := hl
            go_wp2_with (first | ((fail_if_success (have h_ := M1)); go_at_call 25; (refine (CSt.num k 1 x1 x2 HS.out HR.out HC.out HX.out).mono ?_); rintro er w1 ⟨rfl, hS, hk⟩; have P1 := Aside0.mk (CSp.new hS (x1 % 256)); have M1 := True.intro; clear hS hk) | (go_at_call 27; (refine (op_Known.calls (x1 % 256) true _ HKN.out).mono ?_); rintro er w2 ⟨rfl, ⟨nd, rfl⟩⟩; have P2 := Aside0.mk (P1.out.below (pw_below_drewN (Below.refl _ _) nd)); have q20 := blk_cell P2.out.2.2.1 0) | ((fail_if_success (have h_ := M2)); go_at_call 26; (refine (code_must.ok _).mono ?_); rintro er w_ ⟨rfl, rfl⟩; have M2 := True.intro) | (go_at_call 28; (refine (code_wide.calls k (x1 % 256) false _ (Gl.below HG.out P2.out.1.2.2.2.2.1) HW.out).mono ?_); rintro er w4 ⟨rfl, hb⟩; have P4 := Aside0.mk (P2.out.below hb); have q40 := blk_cell P4.out.2.2.1 0; have q41 := blk_cell P4.out.2.2.1 1; have q42 := blk_cell P4.out.2.2.1 2; clear hb) | (go_at_call 29; (refine (op_May.calls k (x1 % 256) 0 0 false _ (Gl.below HG.out P4.out.1.2.2.2.2.1) HMY.out).mono ?_); rintro er w6 ⟨rfl, hb⟩; have P6 := Aside0.mk (P4.out.below hb); have n60 := blk_cell P6.out.1.2.1 0; have q60 := blk_cell P6.out.2.2.1 0; have q61 := blk_cell P6.out.2.2.1 1; have q62 := blk_cell P6.out.2.2.1 2; clear hb) | ((fail_if_success (have h_ := M7)); go_at_call 26; (refine (code_must.bad _).mono ?_); rintro er w_ ⟨rfl, rfl⟩; have M7 := True.intro))
            refine leaves_cons (f := 24) (args := #[.pointer (some ⟨w.heap.size, 0, none⟩), .pointer (some ⟨w.heap.size + 1, 0, none⟩), .pointer (some ⟨w.heap.size + 1 + 1, 0, none⟩)]) (by simp) (by simp [go_sem]) ?_
            refine (code_Read.caught w.heap.size 40 _ _ _ [] _ P6.out.1.2.1 P6.out.1.2.2.1 P6.out.1.2.2.2.1).mono ?_
            rintro er u' w'' ⟨rfl, rfl, y0, y1, y2, yb⟩
            have t0_ := blk_cell y0 0
            have t1_ := blk_cell y1 0
            have t2_ := blk_cell y2 0
            simp [Leaves, settle, results, Tryd.results9, go_sem, t0_, t1_, t2_]
            first | exact ⟨Kd.R_nil _ _ _ _ _, P6.out.1.2.2.2.2.1.trans yb⟩ | exact ⟨_, ⟨rfl, Kd.R_nil _ _ _ _ _⟩, P6.out.1.2.2.2.2.1.trans yb⟩
          | true =>
            rw [if_pos rfl] at hl
            by_cases hla : acc.length < 1000
            case neg => rw [if_neg hla] at hl; cases hl
            rw [if_pos hla] at hl
            have HN := Aside0.mk hl
            clear hl
            go_wp2_with (first | ((fail_if_success (have h_ := M1)); go_at_call 25; (refine (CSt.num k 1 x1 x2 HS.out HR.out HC.out HX.out).mono ?_); rintro er w1 ⟨rfl, hS, hk⟩; have P1 := Aside0.mk (CSp.new hS (x1 % 256)); have M1 := True.intro; clear hS hk) | (go_at_call 27; (refine (op_Known.calls (x1 % 256) true _ HKN.out).mono ?_); rintro er w2 ⟨rfl, ⟨nd, rfl⟩⟩; have P2 := Aside0.mk (P1.out.below (pw_below_drewN (Below.refl _ _) nd)); have q20 := blk_cell P2.out.2.2.1 0) | ((fail_if_success (have h_ := M2)); go_at_call 26; (refine (code_must.ok _).mono ?_); rintro er w_ ⟨rfl, rfl⟩; have M2 := True.intro) | (go_at_call 28; (refine (code_wide.calls k (x1 % 256) false _ (Gl.below HG.out P2.out.1.2.2.2.2.1) HW.out).mono ?_); rintro er w4 ⟨rfl, hb⟩; have P4 := Aside0.mk (P2.out.below hb); have q40 := blk_cell P4.out.2.2.1 0; have q41 := blk_cell P4.out.2.2.1 1; have q42 := blk_cell P4.out.2.2.1 2; clear hb) | (go_at_call 29; (refine (op_May.calls k (x1 % 256) 0 0 true _ (Gl.below HG.out P4.out.1.2.2.2.2.1) HMY.out).mono ?_); rintro er w6 ⟨rfl, hb⟩; have P6 := Aside0.mk (P4.out.below hb); have n60 := blk_cell P6.out.1.2.1 0; have q60 := blk_cell P6.out.2.2.1 0; have q61 := blk_cell P6.out.2.2.1 1; have q62 := blk_cell P6.out.2.2.1 2; clear hb) | ((fail_if_success (have h_ := M7)); go_at_call 26; (refine (code_must.ok _).mono ?_); rintro er w_ ⟨rfl, rfl⟩; have M7 := True.intro) | ((with_reducible refine gate_builtin (b := .append) (xs := #[.tmp 44, .tmp 46]) rfl ?_); at_builtin; refine Kd.R_append k42 (w0 := w) w.heap.size rfl (.tmp 44) (.tmp 46) 23 42 (.agg #[(.int .u8 0), (.int .i64 0), (.int .i64 0)]) 24 rfl Tryd.underlying23 info42 rfl (by decide) (by omega) (.slice Av acc.length cv) acc (⟨x1 % 256, 0, 0⟩ : S42) [.int .u8 (x1 % 256), .int .i64 0, .int .i64 0] (fun k => k ≠ w.heap.size ∧ k ≠ w.heap.size + 1 ∧ k ≠ w.heap.size + 1 + 1 ∧ k ≠ w.heap.size + 1 + 1 + 1) (fun _ => False) rfl (by first | (go_simp; done) | (go_simp; rfl)) ?aP (fun _ hk => hk.elim) ?aF P6.out.1.2.2.2.2.2 P6.out.1.2.2.2.2.1 P6.out.1.2.2.2.2.1.size ?aL ?_; (case aP => exact k42_mkM _ _ _ (⟨x1 % 256, 0, 0⟩ : S42)); (case aF => exact fun k_ hk => by have h1_ := P6.out.2.2.2; have h2_ := blk_lt P6.out.2.2.1; refine ⟨by omega, by omega, by omega, by omega⟩); (case aL => omega); intro v9 w9 ho hb9 hg hat; obtain ⟨A9, c9, rfl⟩ := Kd.R_slice ho; rw [List.length_append, List.length_singleton] at ho; have hN := blk_grown P6.out.1.2.1 hg (fun e => (P6.out.1.2.2.2.2.2.1 _ e.symm).1 rfl); have n90 := blk_cell hN 0; have z90 := blk_frozen hN 0; have S9 := Aside0.mk (CSt.app P6.out.1 hg hb9 ho); clear hN ho hb9 hg hat))
            go_roundw
            case rel => exact ⟨i + 1, x2, acc ++ [⟨x1 % 256, 0, 0⟩], .slice A9 (acc.length + 1) c9, by first | rfl | (rw [← hw]; done) | simp [hw], by omega, HN, S9⟩
            case measure => simp [intOf]; omega
    · have hl := HL.out
      rw [show g1.toNat - i = 0 by omega, code_Read.l0] at hl
      simp only [Option.some.injEq, Prod.mk.injEq] at hl
      obtain ⟨rfl, rfl, rfl⟩ := hl
      have c0_ := blk_cell HS.out.2.1 0
      have c1_ := blk_cell HS.out.2.2.1 0
      have c2_ := blk_cell HS.out.2.2.2.1 0
      have c3_ := blk_cell HS.out.1 1
      have f0_ := blk_frozen HS.out.2.1 0
      have f1_ := blk_frozen HS.out.2.2.1 0
      have f2_ := blk_frozen HS.out.2.2.2.1 0
      go_wp2
      refine Code.wp_mono (Q := fun e a w => match e with | .panic _ => False | e => Exit.then _ _ e a w) (fun e a w h => by cases e <;> first | exact h | exact h.elim) ?_
      go_region_with (fail)
      all_goals
        go_wp2
        refine leaves_cons (f := 24) (args := #[.pointer (some ⟨w.heap.size, 0, none⟩), .pointer (some ⟨w.heap.size + 1, 0, none⟩), .pointer (some ⟨w.heap.size + 1 + 1, 0, none⟩)]) (by simp) (by simp [go_sem]) ?_
        refine (code_Read.idle _ _ _ _).mono ?_
        rintro er u' w'' ⟨rfl, rfl, rfl⟩
        have z0 := blk_far (blk_far (blk_put HS.out.2.1 0 (.slice Av acc.length cv) rfl) (p := ⟨w.heap.size + 1, 0, none⟩) (by show w.heap.size ≠ w.heap.size + 1; omega) (.int .i64 a)) (p := ⟨w.heap.size + 1 + 1, 0, none⟩) (by show w.heap.size ≠ w.heap.size + 1 + 1; omega) (.int .i64 0)
        have z1 := blk_far (blk_put (blk_far HS.out.2.2.1 (p := ⟨w.heap.size, 0, none⟩) (by show w.heap.size + 1 ≠ w.heap.size; omega) (.slice Av acc.length cv)) 0 (.int .i64 a) rfl) (p := ⟨w.heap.size + 1 + 1, 0, none⟩) (by show w.heap.size + 1 ≠ w.heap.size + 1 + 1; omega) (.int .i64 0)
        have z2 := blk_put (blk_far (blk_far HS.out.2.2.2.1 (p := ⟨w.heap.size, 0, none⟩) (by show w.heap.size + 1 + 1 ≠ w.heap.size; omega) (.slice Av acc.length cv)) (p := ⟨w.heap.size + 1, 0, none⟩) (by show w.heap.size + 1 + 1 ≠ w.heap.size + 1; omega) (.int .i64 a)) 0 (.int .i64 0) rfl
        have t0_ := blk_cell z0 0
        have t1_ := blk_cell z1 0
        have t2_ := blk_cell z2 0
        have FR := Aside0.mk (Kd.R_mono (Kd.R_far (p := ⟨w.heap.size + 1 + 1, 0, none⟩) (Kd.R_far (p := ⟨w.heap.size + 1, 0, none⟩) (Kd.R_far (p := ⟨w.heap.size, 0, none⟩) HS.out.2.2.2.2.2 (fun _ h => h.1) (.slice Av acc.length cv)) (fun _ h => h.2.1) (.int .i64 a)) (fun _ h => h.2.2.1) (.int .i64 0)) (fun _ _ => trivial) (ok' := fun _ => True))
        have FB := Aside0.mk (((HS.out.2.2.2.2.1.setCell (p := ⟨w.heap.size, 0, none⟩) (Nat.le_refl _) (.slice Av acc.length cv)).setCell (p := ⟨w.heap.size + 1, 0, none⟩) (by show w.heap.size ≤ w.heap.size + 1; omega) (.int .i64 a)).setCell (p := ⟨w.heap.size + 1 + 1, 0, none⟩) (by show w.heap.size ≤ w.heap.size + 1 + 1; omega) (.int .i64 0))
        simp [Leaves, settle, results, Tryd.results9, go_sem, t0_, t1_, t2_]
        first | exact ⟨_, rfl, Kd.R_drew FR.out, below_drew FB.out⟩ | exact ⟨_, ⟨rfl, Kd.R_drew FR.out⟩, below_drew FB.out⟩ | exact ⟨Kd.R_drew FR.out, below_drew FB.out⟩

/-! ### capstanlaw05_told: function 21 -/
def capstanlaw05_told.f (k : Nat) (a0 : Int) (l1 : List Int) : Option (Bool) := (code_Read.f k l1 0).bind fun bt146 => (if (bt146.1.length : Int) = 0 then (if bt146.2.1 = 0 then (some (bt146.2.2 == a0)) else (none)) else (none))
theorem capstanlaw05_told.mono : ∀ a0 a1 k, LeO (capstanlaw05_told.f k a0 a1) (capstanlaw05_told.f (k + 1) a0 a1) := by
 intro a0 a1 k
 unfold capstanlaw05_told.f
 repeat' first
   | (with_reducible exact code_Read.mono _ _ _)
   | (with_reducible exact LeO.refl _)
   | (with_reducible exact LeO.none _)
   | (with_reducible refine LeO.ite ?_ ?_)
   | (with_reducible refine LeO.bind ?_ (fun _ => ?_))
   | exact code_Read.mono _ _ _
   | exact LeO.none _
   | refine LeO.ite ?_ ?_
   | refine LeO.bind ?_ (fun _ => ?_)
set_option maxHeartbeats 8000000 in
set_option maxRecDepth 100000 in
theorem capstanlaw05_told.calls (k : Nat) (a0 : Int) (A1 : Option Addr) (c1 : Nat) (l1 : List Int) (r : Bool) (w : World) (hG : Gl w) (hr1 : Kd.C (Kd.int .u8) w A1 l1.length l1) (hc1 : l1.length ≤ c1) (h : capstanlaw05_told.f k a0 l1 = some r) :
  Calls Tryd.prog 21 #[.int .i64 a0, .slice A1 l1.length c1] w fun e w' => e = .returned (.bool r) ∧ Below w.heap.size w w' := by
 have HG := Aside0.mk hG
 clear hG
 have HR1 := Aside0.mk hr1
 have HC1 := Aside0.mk hc1
 clear hr1 hc1
 have HB := Aside0.mk (Below.refl w.heap.size w)
 have H : ((code_Read.f k l1 0).bind fun bt146 => (if (bt146.1.length : Int) = 0 then (if bt146.2.1 = 0 then (some (bt146.2.2 == a0)) else (none)) else (none))) = some r := h
 clear h
 replace H := Option.bind_eq_some_iff.mp H
 obtain ⟨⟨t146, t147, t148⟩, A30, H⟩ := H
 replace H : (if (t146.length : Int) = 0 then (if t147 = 0 then (some (t148 == a0)) else (none)) else (none)) = some r := H
 have A3 := Aside0.mk A30
 clear A30
 by_cases c4 : (t146.length : Int) = 0
 ·
  rw [if_pos c4] at H
  have c4b0 : ((t146.length : Int) == 0) = true := beq_iff_eq.mpr c4
  have c4b1 : ((t146.length : Int) != 0) = false := bne_eq_false_iff_eq.mpr c4
  clear c4
  by_cases c5 : t147 = 0
  ·
   rw [if_pos c5] at H
   have c5b0 : (t147 == 0) = true := beq_iff_eq.mpr c5
   have c5b1 : (t147 != 0) = false := bne_eq_false_iff_eq.mpr c5
   clear c5
   obtain rfl := Option.some.inj H
   go_enter Tryd.func21, Tryd.ntmps21
   go_wp2_with (first | ((with_reducible refine gate_callee (f := 9) rfl ?_); refine goesL_ (some 10) rfl rfl Tryd.func9 (by kernel_rfl) rfl #[.slice A1 l1.length c1, .int .i64 0] rfl (by (try simp only [List.map_toArray, List.map_cons, List.map_nil]); first | done | rfl | (simp only [List.length_drop, List.length_take]; rfl)) ?_; (with_reducible refine (code_Read.calls k _ _ l1 0 t146 t147 t148 _ ?side1 ?side2 ?side3 A3.out).mono ?_); (case side1 => first | exact HG.out | ((repeat (first | exact HG.out | exact Gl.below HG.out HB.out | (with_reducible refine Gl.alloc ?_ _) | (with_reducible refine Gl.drewN ?_ _) | (with_reducible refine Gl.drew ?_))); done) | exact Gl.below HG.out (by repeat (first | (with_reducible first | exact HB.out | apply below_alloc | apply pw_below_drewN | apply below_drew1) | exact HB.out | exact ⟨HB.out.os, HB.out.tape, HB.out.output, HB.out.size, HB.out.block⟩))); (case side2 => repeat (first | exact HR1.out | (with_reducible refine Kd.C_alloc ?_ _) | (with_reducible refine Kd.C_drewN ?_ _) | (with_reducible refine Kd.C_drew ?_))); (case side3 => exact HC1.out); rintro e w6 ⟨v149, rfl, ho0, hb⟩; refine ⟨_, rfl, ?_⟩; have n0_ := Aside0.mk (Kd.R_lower ho0 (below_size (by repeat (first | (with_reducible first | exact HB.out | apply below_alloc | apply pw_below_drewN | apply below_drew1) | exact HB.out | exact ⟨HB.out.os, HB.out.tape, HB.out.output, HB.out.size, HB.out.block⟩)))); have n1_ := Aside0.mk (below_step (by repeat (first | (with_reducible first | exact HB.out | apply below_alloc | apply pw_below_drewN | apply below_drew1) | exact HB.out | exact ⟨HB.out.os, HB.out.tape, HB.out.output, HB.out.size, HB.out.block⟩)) hb); clear HB; have HO150 := n0_; have HB := n1_; clear n0_ n1_; (try clear hb); (try clear hb2); (try clear hk); (try clear hi); (try clear ho0); obtain ⟨Ao7, co7, eo7⟩ := Kd.R_slice HO150.out; subst eo7))
   go_ret
   exact ⟨by first | rfl | (simp [errW_none, errW_some] <;> rfl) | (simp [*, errW_none, errW_some] <;> rfl), by repeat (first | (with_reducible first | exact HB.out | apply below_alloc | apply pw_below_drewN | apply below_drew1) | exact HB.out | exact ⟨HB.out.os, HB.out.tape, HB.out.output, HB.out.size, HB.out.block⟩)⟩
  ·
   rw [if_neg c5] at H
   exact absurd H (by simp)
 ·
  rw [if_neg c4] at H
  exact absurd H (by simp)

/-! ### capstanlaw05_awake: function 20 -/
def capstanlaw05_awake.f (k : Nat)  : Option (Bool) := (some (([(⟨1, 3, 0⟩ : S42), (⟨31, 0, 0⟩ : S42)] : List (S42)) : List (S42))).bind fun y151 => ((code_Bytes.f k y151).bind fun bt154 => ((code_Text.f k y151).bind fun bt158 => (if (strOfNums bt154.1).toList = ([2, 1, 3, 0, 31] : List UInt8) then (if bt154.2 = 0 then (if bt158.1.toList = ([99, 111, 110, 115, 116, 32, 51, 10, 114, 101, 116, 10] : List UInt8) then (if bt158.2 = 0 then ((capstanlaw05_told.f k 40 (([0] : List Int))).bind fun t163 => (if t163 = true then ((capstanlaw05_told.f k 10 (([2, 1] : List Int))).bind fun t167 => (if t167 = true then ((capstanlaw05_told.f k 40 (([1, 1, 32, 0] : List Int))).bind fun t171 => (if t171 = true then ((capstanlaw05_told.f k 40 (([1, 33] : List Int))).bind fun t175 => (some t175)) else (none))) else (none))) else (none))) else (none)) else (none)) else (none)) else (none))))
theorem capstanlaw05_awake.mono : ∀ k, LeO (capstanlaw05_awake.f k ) (capstanlaw05_awake.f (k + 1) ) := by
 intro  k
 unfold capstanlaw05_awake.f
 repeat' first
   | (with_reducible exact capstanlaw05_told.mono _ _ _)
   | (with_reducible exact code_Bytes.mono _ _)
   | (with_reducible exact code_Text.mono _ _)
   | (with_reducible exact LeO.refl _)
   | (with_reducible exact LeO.none _)
   | (with_reducible refine LeO.ite ?_ ?_)
   | (with_reducible refine LeO.bind ?_ (fun _ => ?_))
   | exact capstanlaw05_told.mono _ _ _
   | exact code_Bytes.mono _ _
   | exact code_Text.mono _ _
   | exact LeO.none _
   | refine LeO.ite ?_ ?_
   | refine LeO.bind ?_ (fun _ => ?_)
set_option maxHeartbeats 8000000 in
set_option maxRecDepth 100000 in
theorem capstanlaw05_awake.calls (k : Nat)  (r : Bool) (w : World) (hG : Gl w) (h : capstanlaw05_awake.f k  = some r) :
  Calls Tryd.prog 20 #[] w fun e w' => e = .returned (.bool r) ∧ Below w.heap.size w w' := by
 have hu42 := Tryd.underlying42
 have HG := Aside0.mk hG
 clear hG
 have HB := Aside0.mk (Below.refl w.heap.size w)
 have H : ((some (([(⟨1, 3, 0⟩ : S42), (⟨31, 0, 0⟩ : S42)] : List (S42)) : List (S42))).bind fun y151 => ((code_Bytes.f k y151).bind fun bt154 => ((code_Text.f k y151).bind fun bt158 => (if (strOfNums bt154.1).toList = ([2, 1, 3, 0, 31] : List UInt8) then (if bt154.2 = 0 then (if bt158.1.toList = ([99, 111, 110, 115, 116, 32, 51, 10, 114, 101, 116, 10] : List UInt8) then (if bt158.2 = 0 then ((capstanlaw05_told.f k 40 (([0] : List Int))).bind fun t163 => (if t163 = true then ((capstanlaw05_told.f k 10 (([2, 1] : List Int))).bind fun t167 => (if t167 = true then ((capstanlaw05_told.f k 40 (([1, 1, 32, 0] : List Int))).bind fun t171 => (if t171 = true then ((capstanlaw05_told.f k 40 (([1, 33] : List Int))).bind fun t175 => (some t175)) else (none))) else (none))) else (none))) else (none)) else (none)) else (none)) else (none))))) = some r := h
 clear h
 obtain ⟨y151, hy151⟩ : ∃ y_ : List (S42), y_ = (([(⟨1, 3, 0⟩ : S42), (⟨31, 0, 0⟩ : S42)] : List (S42))) := ⟨_, rfl⟩
 replace H : ((code_Bytes.f k y151).bind fun bt154 => ((code_Text.f k y151).bind fun bt158 => (if (strOfNums bt154.1).toList = ([2, 1, 3, 0, 31] : List UInt8) then (if bt154.2 = 0 then (if bt158.1.toList = ([99, 111, 110, 115, 116, 32, 51, 10, 114, 101, 116, 10] : List UInt8) then (if bt158.2 = 0 then ((capstanlaw05_told.f k 40 (([0] : List Int))).bind fun t163 => (if t163 = true then ((capstanlaw05_told.f k 10 (([2, 1] : List Int))).bind fun t167 => (if t167 = true then ((capstanlaw05_told.f k 40 (([1, 1, 32, 0] : List Int))).bind fun t171 => (if t171 = true then ((capstanlaw05_told.f k 40 (([1, 33] : List Int))).bind fun t175 => (some t175)) else (none))) else (none))) else (none))) else (none)) else (none)) else (none)) else (none)))) = some r := by first | (rw [hy151]; with_reducible exact H) | (have H2_ := (Option.bind_some _ _).symm.trans H; rw [hy151]; with_reducible exact H2_) | (have H2_ := (Option.bind_some _ _).symm.trans H; with_reducible exact H2_) | with_reducible exact H | (rw [hy151]; exact H) | exact H
 have Ny151 := Aside0.mk hy151
 clear hy151
 replace H := Option.bind_eq_some_iff.mp H
 obtain ⟨⟨t154, t155⟩, A10, H⟩ := H
 replace H : ((code_Text.f k y151).bind fun bt158 => (if (strOfNums t154).toList = ([2, 1, 3, 0, 31] : List UInt8) then (if t155 = 0 then (if bt158.1.toList = ([99, 111, 110, 115, 116, 32, 51, 10, 114, 101, 116, 10] : List UInt8) then (if bt158.2 = 0 then ((capstanlaw05_told.f k 40 (([0] : List Int))).bind fun t163 => (if t163 = true then ((capstanlaw05_told.f k 10 (([2, 1] : List Int))).bind fun t167 => (if t167 = true then ((capstanlaw05_told.f k 40 (([1, 1, 32, 0] : List Int))).bind fun t171 => (if t171 = true then ((capstanlaw05_told.f k 40 (([1, 33] : List Int))).bind fun t175 => (some t175)) else (none))) else (none))) else (none))) else (none)) else (none)) else (none)) else (none))) = some r := H
 have A1 := Aside0.mk A10
 clear A10
 replace H := Option.bind_eq_some_iff.mp H
 obtain ⟨⟨t158, t159⟩, A20, H⟩ := H
 replace H : (if (strOfNums t154).toList = ([2, 1, 3, 0, 31] : List UInt8) then (if t155 = 0 then (if t158.toList = ([99, 111, 110, 115, 116, 32, 51, 10, 114, 101, 116, 10] : List UInt8) then (if t159 = 0 then ((capstanlaw05_told.f k 40 (([0] : List Int))).bind fun t163 => (if t163 = true then ((capstanlaw05_told.f k 10 (([2, 1] : List Int))).bind fun t167 => (if t167 = true then ((capstanlaw05_told.f k 40 (([1, 1, 32, 0] : List Int))).bind fun t171 => (if t171 = true then ((capstanlaw05_told.f k 40 (([1, 33] : List Int))).bind fun t175 => (some t175)) else (none))) else (none))) else (none))) else (none)) else (none)) else (none)) else (none)) = some r := H
 have A2 := Aside0.mk A20
 clear A20
 by_cases c3 : (strOfNums t154).toList = ([2, 1, 3, 0, 31] : List UInt8)
 ·
  rw [if_pos c3] at H
  have c3b0 : ((strOfNums t154).toList == ([2, 1, 3, 0, 31] : List UInt8)) = true := beq_iff_eq.mpr c3
  have c3b1 : ((strOfNums t154).toList != ([2, 1, 3, 0, 31] : List UInt8)) = false := bne_eq_false_iff_eq.mpr c3
  clear c3
  by_cases c4 : t155 = 0
  ·
   rw [if_pos c4] at H
   have c4b0 : (t155 == 0) = true := beq_iff_eq.mpr c4
   have c4b1 : (t155 != 0) = false := bne_eq_false_iff_eq.mpr c4
   clear c4
   by_cases c5 : t158.toList = ([99, 111, 110, 115, 116, 32, 51, 10, 114, 101, 116, 10] : List UInt8)
   ·
    rw [if_pos c5] at H
    have c5b0 : (t158.toList == ([99, 111, 110, 115, 116, 32, 51, 10, 114, 101, 116, 10] : List UInt8)) = true := beq_iff_eq.mpr c5
    have c5b1 : (t158.toList != ([99, 111, 110, 115, 116, 32, 51, 10, 114, 101, 116, 10] : List UInt8)) = false := bne_eq_false_iff_eq.mpr c5
    clear c5
    by_cases c6 : t159 = 0
    ·
     rw [if_pos c6] at H
     have c6b0 : (t159 == 0) = true := beq_iff_eq.mpr c6
     have c6b1 : (t159 != 0) = false := bne_eq_false_iff_eq.mpr c6
     clear c6
     obtain ⟨y160, hy160⟩ : ∃ y_ : List Int, y_ = (([0] : List Int)) := ⟨_, rfl⟩
     replace H : ((capstanlaw05_told.f k 40 y160).bind fun t163 => (if t163 = true then ((capstanlaw05_told.f k 10 (([2, 1] : List Int))).bind fun t167 => (if t167 = true then ((capstanlaw05_told.f k 40 (([1, 1, 32, 0] : List Int))).bind fun t171 => (if t171 = true then ((capstanlaw05_told.f k 40 (([1, 33] : List Int))).bind fun t175 => (some t175)) else (none))) else (none))) else (none))) = some r := by first | (rw [hy160]; with_reducible exact H) | (have H2_ := (Option.bind_some _ _).symm.trans H; rw [hy160]; with_reducible exact H2_) | (have H2_ := (Option.bind_some _ _).symm.trans H; with_reducible exact H2_) | with_reducible exact H | (rw [hy160]; exact H) | exact H
     have Ny160 := Aside0.mk hy160
     clear hy160
     replace H := Option.bind_eq_some_iff.mp H
     obtain ⟨t163, A70, H⟩ := H
     replace H : (if t163 = true then ((capstanlaw05_told.f k 10 (([2, 1] : List Int))).bind fun t167 => (if t167 = true then ((capstanlaw05_told.f k 40 (([1, 1, 32, 0] : List Int))).bind fun t171 => (if t171 = true then ((capstanlaw05_told.f k 40 (([1, 33] : List Int))).bind fun t175 => (some t175)) else (none))) else (none))) else (none)) = some r := H
     have A7 := Aside0.mk A70
     clear A70
     by_cases c8 : t163 = true
     ·
      subst c8
      have H1 : ((capstanlaw05_told.f k 10 (([2, 1] : List Int))).bind fun t167 => (if t167 = true then ((capstanlaw05_told.f k 40 (([1, 1, 32, 0] : List Int))).bind fun t171 => (if t171 = true then ((capstanlaw05_told.f k 40 (([1, 33] : List Int))).bind fun t175 => (some t175)) else (none))) else (none))) = some r := by rw [if_pos rfl] at H; exact H
      clear H
      have H := H1
      clear H1
      obtain ⟨y164, hy164⟩ : ∃ y_ : List Int, y_ = (([2, 1] : List Int)) := ⟨_, rfl⟩
      replace H : ((capstanlaw05_told.f k 10 y164).bind fun t167 => (if t167 = true then ((capstanlaw05_told.f k 40 (([1, 1, 32, 0] : List Int))).bind fun t171 => (if t171 = true then ((capstanlaw05_told.f k 40 (([1, 33] : List Int))).bind fun t175 => (some t175)) else (none))) else (none))) = some r := by first | (rw [hy164]; with_reducible exact H) | (have H2_ := (Option.bind_some _ _).symm.trans H; rw [hy164]; with_reducible exact H2_) | (have H2_ := (Option.bind_some _ _).symm.trans H; with_reducible exact H2_) | with_reducible exact H | (rw [hy164]; exact H) | exact H
      have Ny164 := Aside0.mk hy164
      clear hy164
      replace H := Option.bind_eq_some_iff.mp H
      obtain ⟨t167, A90, H⟩ := H
      replace H : (if t167 = true then ((capstanlaw05_told.f k 40 (([1, 1, 32, 0] : List Int))).bind fun t171 => (if t171 = true then ((capstanlaw05_told.f k 40 (([1, 33] : List Int))).bind fun t175 => (some t175)) else (none))) else (none)) = some r := H
      have A9 := Aside0.mk A90
      clear A90
      by_cases c10 : t167 = true
      ·
       subst c10
       have H1 : ((capstanlaw05_told.f k 40 (([1, 1, 32, 0] : List Int))).bind fun t171 => (if t171 = true then ((capstanlaw05_told.f k 40 (([1, 33] : List Int))).bind fun t175 => (some t175)) else (none))) = some r := by rw [if_pos rfl] at H; exact H
       clear H
       have H := H1
       clear H1
       obtain ⟨y168, hy168⟩ : ∃ y_ : List Int, y_ = (([1, 1, 32, 0] : List Int)) := ⟨_, rfl⟩
       replace H : ((capstanlaw05_told.f k 40 y168).bind fun t171 => (if t171 = true then ((capstanlaw05_told.f k 40 (([1, 33] : List Int))).bind fun t175 => (some t175)) else (none))) = some r := by first | (rw [hy168]; with_reducible exact H) | (have H2_ := (Option.bind_some _ _).symm.trans H; rw [hy168]; with_reducible exact H2_) | (have H2_ := (Option.bind_some _ _).symm.trans H; with_reducible exact H2_) | with_reducible exact H | (rw [hy168]; exact H) | exact H
       have Ny168 := Aside0.mk hy168
       clear hy168
       replace H := Option.bind_eq_some_iff.mp H
       obtain ⟨t171, A110, H⟩ := H
       replace H : (if t171 = true then ((capstanlaw05_told.f k 40 (([1, 33] : List Int))).bind fun t175 => (some t175)) else (none)) = some r := H
       have A11 := Aside0.mk A110
       clear A110
       by_cases c12 : t171 = true
       ·
        subst c12
        have H1 : ((capstanlaw05_told.f k 40 (([1, 33] : List Int))).bind fun t175 => (some t175)) = some r := by rw [if_pos rfl] at H; exact H
        clear H
        have H := H1
        clear H1
        obtain ⟨y172, hy172⟩ : ∃ y_ : List Int, y_ = (([1, 33] : List Int)) := ⟨_, rfl⟩
        replace H : ((capstanlaw05_told.f k 40 y172).bind fun t175 => (some t175)) = some r := by first | (rw [hy172]; with_reducible exact H) | (have H2_ := (Option.bind_some _ _).symm.trans H; rw [hy172]; with_reducible exact H2_) | (have H2_ := (Option.bind_some _ _).symm.trans H; with_reducible exact H2_) | with_reducible exact H | (rw [hy172]; exact H) | exact H
        have Ny172 := Aside0.mk hy172
        clear hy172
        replace H := Option.bind_eq_some_iff.mp H
        obtain ⟨t175, A130, H⟩ := H
        replace H : (some t175) = some r := H
        have A13 := Aside0.mk A130
        clear A130
        obtain rfl := Option.some.inj H
        go_enter Tryd.func20, Tryd.ntmps20
        go_wp2_with (first | ((with_reducible refine gate_dst (N := 8) rfl ?_); (try (refine gate_guard (by rfl) ?_; dsimp only)); refine Kd.R_lit k42 _ 42 ?hg (N := 8) ?hd (xs := ([(⟨1, 3, 0⟩ : S42), (⟨31, 0, 0⟩ : S42)] : List (S42))) (inner := [.int .u8 1, .int .i64 3, .int .i64 0, .int .u8 31, .int .i64 0, .int .i64 0]) (ok := fun _ => True) (okp := fun _ => True) ?hr ?hp (fun _ hk => hk) trivial (Below.refl _ _) (Nat.le_refl _) (by simp) ?_; (case hd => rfl); (case hg => rfl); (case hr => first | (go_simp; done) | (go_simp; rfl)); (case hp => exact (Reps.c3 (show Kd.M k42 _ _ _ (⟨1, 3, 0⟩ : S42) [.int .u8 1, .int .i64 3, .int .i64 0] from (k42_mkM _ _ _ (⟨1, 3, 0⟩ : S42) )) (Reps.c3 (show Kd.M k42 _ _ _ (⟨31, 0, 0⟩ : S42) [.int .u8 31, .int .i64 0, .int .i64 0] from (k42_mkM _ _ _ (⟨31, 0, 0⟩ : S42) )) (Reps.none _ _)))); intro v152 w14 ho15 hb hg_ hnew_; clear hg_ hnew_; (first | rw [← Ny151.out] at ho15 | (simp only [Int.reduceToNat] at ho15; rw [← Ny151.out] at ho15)); have n0_ := Aside0.mk (Kd.R_lower ho15 (below_size (by repeat (first | (with_reducible first | exact HB.out | apply below_alloc | apply pw_below_drewN | apply below_drew1) | exact HB.out | exact ⟨HB.out.os, HB.out.tape, HB.out.output, HB.out.size, HB.out.block⟩)))); have n1_ := Aside0.mk (below_step (by repeat (first | (with_reducible first | exact HB.out | apply below_alloc | apply pw_below_drewN | apply below_drew1) | exact HB.out | exact ⟨HB.out.os, HB.out.tape, HB.out.output, HB.out.size, HB.out.block⟩)) hb); clear HB; have HO153 := n0_; have HB := n1_; clear n0_ n1_; clear hb ho15; obtain ⟨Ao16, co16, eo16⟩ := Kd.R_slice HO153.out; subst eo16) | ((with_reducible refine gate_callee (f := 19) rfl ?_); refine goesL_ (some 11) rfl rfl Tryd.func19 (by kernel_rfl) rfl #[.slice Ao16 y151.length co16] rfl (by (try simp only [List.map_toArray, List.map_cons, List.map_nil]); first | done | rfl | (simp only [List.length_drop, List.length_take]; rfl)) ?_; (with_reducible refine (code_Bytes.calls k _ _ y151 t154 t155 _ ?side1 ?side2 ?side3 A1.out).mono ?_); (case side1 => first | exact HG.out | ((repeat (first | exact HG.out | exact Gl.below HG.out HB.out | (with_reducible refine Gl.alloc ?_ _) | (with_reducible refine Gl.drewN ?_ _) | (with_reducible refine Gl.drew ?_))); done) | exact Gl.below HG.out (by repeat (first | (with_reducible first | exact HB.out | apply below_alloc | apply pw_below_drewN | apply below_drew1) | exact HB.out | exact ⟨HB.out.os, HB.out.tape, HB.out.output, HB.out.size, HB.out.block⟩))); (case side2 => repeat (first | exact (Kd.R_reads' HO153.out).2.2 | (with_reducible refine Kd.C_alloc ?_ _) | (with_reducible refine Kd.C_drewN ?_ _) | (with_reducible refine Kd.C_drew ?_))); (case side3 => exact (Kd.R_reads' HO153.out).2.1); rintro e w17 ⟨v156, rfl, ho0, hb⟩; refine ⟨_, rfl, ?_⟩; have n0_ := Aside0.mk (Kd.R_below (by (with_reducible repeat (first | apply Kd.R_alloc | apply Kd.R_drewN | apply Kd.R_drew)); first | exact HO153.out | exact Kd.R_mono (HO153.out) (fun _ h_ => h_.2)) hb); have n1_ := Aside0.mk (Kd.R_lower ho0 (below_size (by repeat (first | (with_reducible first | exact HB.out | apply below_alloc | apply pw_below_drewN | apply below_drew1) | exact HB.out | exact ⟨HB.out.os, HB.out.tape, HB.out.output, HB.out.size, HB.out.block⟩)))); have n2_ := Aside0.mk (below_step (by repeat (first | (with_reducible first | exact HB.out | apply below_alloc | apply pw_below_drewN | apply below_drew1) | exact HB.out | exact ⟨HB.out.os, HB.out.tape, HB.out.output, HB.out.size, HB.out.block⟩)) hb); clear HO153; clear HB; have HO153 := n0_; have HO157 := n1_; have HB := n2_; clear n0_ n1_ n2_; (try clear hb); (try clear hb2); (try clear hk); (try clear hi); (try clear ho0)) | ((with_reducible refine gate_callee (f := 14) rfl ?_); refine goesL_ (some 16) rfl rfl Tryd.func14 (by kernel_rfl) rfl #[.slice Ao16 y151.length co16] rfl (by (try simp only [List.map_toArray, List.map_cons, List.map_nil]); first | done | rfl | (simp only [List.length_drop, List.length_take]; rfl)) ?_; (with_reducible refine (code_Text.calls k _ _ y151 t158 t159 _ ?side1 ?side2 ?side3 A2.out).mono ?_); (case side1 => first | exact HG.out | ((repeat (first | exact HG.out | exact Gl.below HG.out HB.out | (with_reducible refine Gl.alloc ?_ _) | (with_reducible refine Gl.drewN ?_ _) | (with_reducible refine Gl.drew ?_))); done) | exact Gl.below HG.out (by repeat (first | (with_reducible first | exact HB.out | apply below_alloc | apply pw_below_drewN | apply below_drew1) | exact HB.out | exact ⟨HB.out.os, HB.out.tape, HB.out.output, HB.out.size, HB.out.block⟩))); (case side2 => repeat (first | exact (Kd.R_reads' HO153.out).2.2 | (with_reducible refine Kd.C_alloc ?_ _) | (with_reducible refine Kd.C_drewN ?_ _) | (with_reducible refine Kd.C_drew ?_))); (case side3 => exact (Kd.R_reads' HO153.out).2.1); rintro e w18 ⟨rfl, hb⟩; refine ⟨_, rfl, ?_⟩; have n0_ := Aside0.mk (Kd.R_below (by (with_reducible repeat (first | apply Kd.R_alloc | apply Kd.R_drewN | apply Kd.R_drew)); first | exact HO153.out | exact Kd.R_mono (HO153.out) (fun _ h_ => h_.2)) hb); have n1_ := Aside0.mk (Kd.R_below (by (with_reducible repeat (first | apply Kd.R_alloc | apply Kd.R_drewN | apply Kd.R_drew)); first | exact HO157.out | exact Kd.R_mono (HO157.out) (fun _ h_ => h_.2)) hb); have n2_ := Aside0.mk (below_step (by repeat (first | (with_reducible first | exact HB.out | apply below_alloc | apply pw_below_drewN | apply below_drew1) | exact HB.out | exact ⟨HB.out.os, HB.out.tape, HB.out.output, HB.out.size, HB.out.block⟩)) hb); clear HO153; clear HO157; clear HB; have HO153 := n0_; have HO157 := n1_; have HB := n2_; clear n0_ n1_ n2_; (try clear hb); (try clear hb2); (try clear hk); (try clear hi); have hcv19 := own_string (P := Tryd.prog) Tryd.underlying22 Tryd.underlying5 Tryd.underlying9 (Kd.own_of_R HO157.out); (try have hcv20 := fun n_ : Nat => own_string (P := Tryd.prog) Tryd.underlying22 Tryd.underlying5 Tryd.underlying9 (Kd.own_of_R (Kd.R_drewN HO157.out n_)))) | ((with_reducible refine gate_dst (N := 35) rfl ?_); (try (refine gate_guard (by rfl) ?_; dsimp only)); refine Kd.R_lit (Kd.int .u8) _ 5 ?hg (N := 35) ?hd (xs := ([0] : List Int)) (inner := [.int .u8 0]) (ok := fun _ => True) (okp := fun _ => True) ?hr ?hp (fun _ hk => hk) trivial (Below.refl _ _) (Nat.le_refl _) (by simp) ?_; (case hd => rfl); (case hg => rfl); (case hr => first | (go_simp; done) | (go_simp; rfl)); (case hp => exact (Reps.one (show Kd.M (Kd.int .u8) _ _ _ 0 [.int .u8 0] from rfl) (Reps.none _ _))); intro v161 w21 ho22 hb hg_ hnew_; clear hg_ hnew_; (first | rw [← Ny160.out] at ho22 | (simp only [Int.reduceToNat] at ho22; rw [← Ny160.out] at ho22)); have n0_ := Aside0.mk (Kd.R_below (by (with_reducible repeat (first | apply Kd.R_alloc | apply Kd.R_drewN | apply Kd.R_drew)); first | exact HO153.out | exact Kd.R_mono (HO153.out) (fun _ h_ => h_.2)) hb); have n1_ := Aside0.mk (Kd.R_elder' (by (with_reducible repeat (first | apply Kd.R_alloc | apply Kd.R_drewN | apply Kd.R_drew)); first | exact HO157.out | exact Kd.R_mono (HO157.out) (fun _ h_ => h_.2)) (Kd.R_base ho22) hb); have n2_ := Aside0.mk (Kd.R_lower (Kd.R_new' ho22 (Kd.R_lt (by (with_reducible repeat (first | apply Kd.R_alloc | apply Kd.R_drewN | apply Kd.R_drew)); first | exact HO157.out | exact Kd.R_mono (HO157.out) (fun _ h_ => h_.2)))) (below_size (by repeat (first | (with_reducible first | exact HB.out | apply below_alloc | apply pw_below_drewN | apply below_drew1) | exact HB.out | exact ⟨HB.out.os, HB.out.tape, HB.out.output, HB.out.size, HB.out.block⟩)))); have n3_ := Aside0.mk (below_step (by repeat (first | (with_reducible first | exact HB.out | apply below_alloc | apply pw_below_drewN | apply below_drew1) | exact HB.out | exact ⟨HB.out.os, HB.out.tape, HB.out.output, HB.out.size, HB.out.block⟩)) hb); clear HO153; clear HO157; clear HB; have HO153 := n0_; have HO157 := n1_; have HO162 := n2_; have HB := n3_; clear n0_ n1_ n2_ n3_; clear hb ho22; obtain ⟨Ao23, co23, eo23⟩ := Kd.R_slice HO162.out; subst eo23) | ((fail_if_success (have h_ := w24)); go_at_call 21; (with_reducible refine (capstanlaw05_told.calls k 40 _ _ y160 true _ ?side1 ?side2 ?side3 A7.out).mono ?_); (case side1 => first | exact HG.out | ((repeat (first | exact HG.out | exact Gl.below HG.out HB.out | (with_reducible refine Gl.alloc ?_ _) | (with_reducible refine Gl.drewN ?_ _) | (with_reducible refine Gl.drew ?_))); done) | exact Gl.below HG.out (by repeat (first | (with_reducible first | exact HB.out | apply below_alloc | apply pw_below_drewN | apply below_drew1) | exact HB.out | exact ⟨HB.out.os, HB.out.tape, HB.out.output, HB.out.size, HB.out.block⟩))); (case side2 => repeat (first | exact (Kd.R_reads' HO162.out).2.2 | (with_reducible refine Kd.C_alloc ?_ _) | (with_reducible refine Kd.C_drewN ?_ _) | (with_reducible refine Kd.C_drew ?_))); (case side3 => exact (Kd.R_reads' HO162.out).2.1); rintro e w24 ⟨rfl, hb⟩; have n0_ := Aside0.mk (Kd.R_below (by (with_reducible repeat (first | apply Kd.R_alloc | apply Kd.R_drewN | apply Kd.R_drew)); first | exact HO153.out | exact Kd.R_mono (HO153.out) (fun _ h_ => h_.2)) hb); have n1_ := Aside0.mk (Kd.R_below (by (with_reducible repeat (first | apply Kd.R_alloc | apply Kd.R_drewN | apply Kd.R_drew)); first | exact HO157.out | exact Kd.R_mono (HO157.out) (fun _ h_ => h_.2)) hb); have n2_ := Aside0.mk (Kd.R_below (by (with_reducible repeat (first | apply Kd.R_alloc | apply Kd.R_drewN | apply Kd.R_drew)); first | exact HO162.out | exact Kd.R_mono (HO162.out) (fun _ h_ => h_.2)) hb); have n3_ := Aside0.mk (below_step (by repeat (first | (with_reducible first | exact HB.out | apply below_alloc | apply pw_below_drewN | apply below_drew1) | exact HB.out | exact ⟨HB.out.os, HB.out.tape, HB.out.output, HB.out.size, HB.out.block⟩)) hb); clear HO153; clear HO157; clear HO162; clear HB; have HO153 := n0_; have HO157 := n1_; have HO162 := n2_; have HB := n3_; clear n0_ n1_ n2_ n3_; (try clear hb); (try clear hb2); (try clear hk); (try clear hi)) | ((with_reducible refine gate_dst (N := 39) rfl ?_); (try (refine gate_guard (by rfl) ?_; dsimp only)); refine Kd.R_lit (Kd.int .u8) _ 5 ?hg (N := 39) ?hd (xs := ([2, 1] : List Int)) (inner := [.int .u8 2, .int .u8 1]) (ok := fun _ => True) (okp := fun _ => True) ?hr ?hp (fun _ hk => hk) trivial (Below.refl _ _) (Nat.le_refl _) (by simp) ?_; (case hd => rfl); (case hg => rfl); (case hr => first | (go_simp; done) | (go_simp; rfl)); (case hp => exact (Reps.one (show Kd.M (Kd.int .u8) _ _ _ 2 [.int .u8 2] from rfl) (Reps.one (show Kd.M (Kd.int .u8) _ _ _ 1 [.int .u8 1] from rfl) (Reps.none _ _)))); intro v165 w25 ho26 hb hg_ hnew_; clear hg_ hnew_; (first | rw [← Ny164.out] at ho26 | (simp only [Int.reduceToNat] at ho26; rw [← Ny164.out] at ho26)); have n0_ := Aside0.mk (Kd.R_below (by (with_reducible repeat (first | apply Kd.R_alloc | apply Kd.R_drewN | apply Kd.R_drew)); first | exact HO153.out | exact Kd.R_mono (HO153.out) (fun _ h_ => h_.2)) hb); have n1_ := Aside0.mk (Kd.R_elder' (by (with_reducible repeat (first | apply Kd.R_alloc | apply Kd.R_drewN | apply Kd.R_drew)); first | exact HO157.out | exact Kd.R_mono (HO157.out) (fun _ h_ => h_.2)) (Kd.R_base ho26) hb); have n2_ := Aside0.mk (Kd.R_elder' (by (with_reducible repeat (first | apply Kd.R_alloc | apply Kd.R_drewN | apply Kd.R_drew)); first | exact HO162.out | exact Kd.R_mono (HO162.out) (fun _ h_ => h_.2)) (Kd.R_base ho26) hb); have n3_ := Aside0.mk (Kd.R_lower (Kd.R_new' (Kd.R_new' ho26 (Kd.R_lt (by (with_reducible repeat (first | apply Kd.R_alloc | apply Kd.R_drewN | apply Kd.R_drew)); first | exact HO157.out | exact Kd.R_mono (HO157.out) (fun _ h_ => h_.2)))) (Kd.R_lt (by (with_reducible repeat (first | apply Kd.R_alloc | apply Kd.R_drewN | apply Kd.R_drew)); first | exact HO162.out | exact Kd.R_mono (HO162.out) (fun _ h_ => h_.2)))) (below_size (by repeat (first | (with_reducible first | exact HB.out | apply below_alloc | apply pw_below_drewN | apply below_drew1) | exact HB.out | exact ⟨HB.out.os, HB.out.tape, HB.out.output, HB.out.size, HB.out.block⟩)))); have n4_ := Aside0.mk (below_step (by repeat (first | (with_reducible first | exact HB.out | apply below_alloc | apply pw_below_drewN | apply below_drew1) | exact HB.out | exact ⟨HB.out.os, HB.out.tape, HB.out.output, HB.out.size, HB.out.block⟩)) hb); clear HO153; clear HO157; clear HO162; clear HB; have HO153 := n0_; have HO157 := n1_; have HO162 := n2_; have HO166 := n3_; have HB := n4_; clear n0_ n1_ n2_ n3_ n4_; clear hb ho26; obtain ⟨Ao27, co27, eo27⟩ := Kd.R_slice HO166.out; subst eo27) | ((fail_if_success (have h_ := w28)); go_at_call 21; (with_reducible refine (capstanlaw05_told.calls k 10 _ _ y164 true _ ?side1 ?side2 ?side3 A9.out).mono ?_); (case side1 => first | exact HG.out | ((repeat (first | exact HG.out | exact Gl.below HG.out HB.out | (with_reducible refine Gl.alloc ?_ _) | (with_reducible refine Gl.drewN ?_ _) | (with_reducible refine Gl.drew ?_))); done) | exact Gl.below HG.out (by repeat (first | (with_reducible first | exact HB.out | apply below_alloc | apply pw_below_drewN | apply below_drew1) | exact HB.out | exact ⟨HB.out.os, HB.out.tape, HB.out.output, HB.out.size, HB.out.block⟩))); (case side2 => repeat (first | exact (Kd.R_reads' HO166.out).2.2 | (with_reducible refine Kd.C_alloc ?_ _) | (with_reducible refine Kd.C_drewN ?_ _) | (with_reducible refine Kd.C_drew ?_))); (case side3 => exact (Kd.R_reads' HO166.out).2.1); rintro e w28 ⟨rfl, hb⟩; have n0_ := Aside0.mk (Kd.R_below (by (with_reducible repeat (first | apply Kd.R_alloc | apply Kd.R_drewN | apply Kd.R_drew)); first | exact HO153.out | exact Kd.R_mono (HO153.out) (fun _ h_ => h_.2)) hb); have n1_ := Aside0.mk (Kd.R_below (by (with_reducible repeat (first | apply Kd.R_alloc | apply Kd.R_drewN | apply Kd.R_drew)); first | exact HO157.out | exact Kd.R_mono (HO157.out) (fun _ h_ => h_.2)) hb); have n2_ := Aside0.mk (Kd.R_below (by (with_reducible repeat (first | apply Kd.R_alloc | apply Kd.R_drewN | apply Kd.R_drew)); first | exact HO162.out | exact Kd.R_mono (HO162.out) (fun _ h_ => h_.2)) hb); have n3_ := Aside0.mk (Kd.R_below (by (with_reducible repeat (first | apply Kd.R_alloc | apply Kd.R_drewN | apply Kd.R_drew)); first | exact HO166.out | exact Kd.R_mono (HO166.out) (fun _ h_ => h_.2)) hb); have n4_ := Aside0.mk (below_step (by repeat (first | (with_reducible first | exact HB.out | apply below_alloc | apply pw_below_drewN | apply below_drew1) | exact HB.out | exact ⟨HB.out.os, HB.out.tape, HB.out.output, HB.out.size, HB.out.block⟩)) hb); clear HO153; clear HO157; clear HO162; clear HO166; clear HB; have HO153 := n0_; have HO157 := n1_; have HO162 := n2_; have HO166 := n3_; have HB := n4_; clear n0_ n1_ n2_ n3_ n4_; (try clear hb); (try clear hb2); (try clear hk); (try clear hi)) | ((with_reducible refine gate_dst (N := 43) rfl ?_); (try (refine gate_guard (by rfl) ?_; dsimp only)); refine Kd.R_lit (Kd.int .u8) _ 5 ?hg (N := 43) ?hd (xs := ([1, 1, 32, 0] : List Int)) (inner := [.int .u8 1, .int .u8 1, .int .u8 32, .int .u8 0]) (ok := fun _ => True) (okp := fun _ => True) ?hr ?hp (fun _ hk => hk) trivial (Below.refl _ _) (Nat.le_refl _) (by simp) ?_; (case hd => rfl); (case hg => rfl); (case hr => first | (go_simp; done) | (go_simp; rfl)); (case hp => exact (Reps.one (show Kd.M (Kd.int .u8) _ _ _ 1 [.int .u8 1] from rfl) (Reps.one (show Kd.M (Kd.int .u8) _ _ _ 1 [.int .u8 1] from rfl) (Reps.one (show Kd.M (Kd.int .u8) _ _ _ 32 [.int .u8 32] from rfl) (Reps.one (show Kd.M (Kd.int .u8) _ _ _ 0 [.int .u8 0] from rfl) (Reps.none _ _)))))); intro v169 w29 ho30 hb hg_ hnew_; clear hg_ hnew_; (first | rw [← Ny168.out] at ho30 | (simp only [Int.reduceToNat] at ho30; rw [← Ny168.out] at ho30)); have n0_ := Aside0.mk (Kd.R_below (by (with_reducible repeat (first | apply Kd.R_alloc | apply Kd.R_drewN | apply Kd.R_drew)); first | exact HO153.out | exact Kd.R_mono (HO153.out) (fun _ h_ => h_.2)) hb); have n1_ := Aside0.mk (Kd.R_elder' (by (with_reducible repeat (first | apply Kd.R_alloc | apply Kd.R_drewN | apply Kd.R_drew)); first | exact HO157.out | exact Kd.R_mono (HO157.out) (fun _ h_ => h_.2)) (Kd.R_base ho30) hb); have n2_ := Aside0.mk (Kd.R_elder' (by (with_reducible repeat (first | apply Kd.R_alloc | apply Kd.R_drewN | apply Kd.R_drew)); first | exact HO162.out | exact Kd.R_mono (HO162.out) (fun _ h_ => h_.2)) (Kd.R_base ho30) hb); have n3_ := Aside0.mk (Kd.R_elder' (by (with_reducible repeat (first | apply Kd.R_alloc | apply Kd.R_drewN | apply Kd.R_drew)); first | exact HO166.out | exact Kd.R_mono (HO166.out) (fun _ h_ => h_.2)) (Kd.R_base ho30) hb); have n4_ := Aside0.mk (Kd.R_lower (Kd.R_new' (Kd.R_new' (Kd.R_new' ho30 (Kd.R_lt (by (with_reducible repeat (first | apply Kd.R_alloc | apply Kd.R_drewN | apply Kd.R_drew)); first | exact HO157.out | exact Kd.R_mono (HO157.out) (fun _ h_ => h_.2)))) (Kd.R_lt (by (with_reducible repeat (first | apply Kd.R_alloc | apply Kd.R_drewN | apply Kd.R_drew)); first | exact HO162.out | exact Kd.R_mono (HO162.out) (fun _ h_ => h_.2)))) (Kd.R_lt (by (with_reducible repeat (first | apply Kd.R_alloc | apply Kd.R_drewN | apply Kd.R_drew)); first | exact HO166.out | exact Kd.R_mono (HO166.out) (fun _ h_ => h_.2)))) (below_size (by repeat (first | (with_reducible first | exact HB.out | apply below_alloc | apply pw_below_drewN | apply below_drew1) | exact HB.out | exact ⟨HB.out.os, HB.out.tape, HB.out.output, HB.out.size, HB.out.block⟩)))); have n5_ := Aside0.mk (below_step (by repeat (first | (with_reducible first | exact HB.out | apply below_alloc | apply pw_below_drewN | apply below_drew1) | exact HB.out | exact ⟨HB.out.os, HB.out.tape, HB.out.output, HB.out.size, HB.out.block⟩)) hb); clear HO153; clear HO157; clear HO162; clear HO166; clear HB; have HO153 := n0_; have HO157 := n1_; have HO162 := n2_; have HO166 := n3_; have HO170 := n4_; have HB := n5_; clear n0_ n1_ n2_ n3_ n4_ n5_; clear hb ho30; obtain ⟨Ao31, co31, eo31⟩ := Kd.R_slice HO170.out; subst eo31) | ((fail_if_success (have h_ := w32)); go_at_call 21; (with_reducible refine (capstanlaw05_told.calls k 40 _ _ y168 true _ ?side1 ?side2 ?side3 A11.out).mono ?_); (case side1 => first | exact HG.out | ((repeat (first | exact HG.out | exact Gl.below HG.out HB.out | (with_reducible refine Gl.alloc ?_ _) | (with_reducible refine Gl.drewN ?_ _) | (with_reducible refine Gl.drew ?_))); done) | exact Gl.below HG.out (by repeat (first | (with_reducible first | exact HB.out | apply below_alloc | apply pw_below_drewN | apply below_drew1) | exact HB.out | exact ⟨HB.out.os, HB.out.tape, HB.out.output, HB.out.size, HB.out.block⟩))); (case side2 => repeat (first | exact (Kd.R_reads' HO170.out).2.2 | (with_reducible refine Kd.C_alloc ?_ _) | (with_reducible refine Kd.C_drewN ?_ _) | (with_reducible refine Kd.C_drew ?_))); (case side3 => exact (Kd.R_reads' HO170.out).2.1); rintro e w32 ⟨rfl, hb⟩; have n0_ := Aside0.mk (Kd.R_below (by (with_reducible repeat (first | apply Kd.R_alloc | apply Kd.R_drewN | apply Kd.R_drew)); first | exact HO153.out | exact Kd.R_mono (HO153.out) (fun _ h_ => h_.2)) hb); have n1_ := Aside0.mk (Kd.R_below (by (with_reducible repeat (first | apply Kd.R_alloc | apply Kd.R_drewN | apply Kd.R_drew)); first | exact HO157.out | exact Kd.R_mono (HO157.out) (fun _ h_ => h_.2)) hb); have n2_ := Aside0.mk (Kd.R_below (by (with_reducible repeat (first | apply Kd.R_alloc | apply Kd.R_drewN | apply Kd.R_drew)); first | exact HO162.out | exact Kd.R_mono (HO162.out) (fun _ h_ => h_.2)) hb); have n3_ := Aside0.mk (Kd.R_below (by (with_reducible repeat (first | apply Kd.R_alloc | apply Kd.R_drewN | apply Kd.R_drew)); first | exact HO166.out | exact Kd.R_mono (HO166.out) (fun _ h_ => h_.2)) hb); have n4_ := Aside0.mk (Kd.R_below (by (with_reducible repeat (first | apply Kd.R_alloc | apply Kd.R_drewN | apply Kd.R_drew)); first | exact HO170.out | exact Kd.R_mono (HO170.out) (fun _ h_ => h_.2)) hb); have n5_ := Aside0.mk (below_step (by repeat (first | (with_reducible first | exact HB.out | apply below_alloc | apply pw_below_drewN | apply below_drew1) | exact HB.out | exact ⟨HB.out.os, HB.out.tape, HB.out.output, HB.out.size, HB.out.block⟩)) hb); clear HO153; clear HO157; clear HO162; clear HO166; clear HO170; clear HB; have HO153 := n0_; have HO157 := n1_; have HO162 := n2_; have HO166 := n3_; have HO170 := n4_; have HB := n5_; clear n0_ n1_ n2_ n3_ n4_ n5_; (try clear hb); (try clear hb2); (try clear hk); (try clear hi)) | ((with_reducible refine gate_dst (N := 47) rfl ?_); (try (refine gate_guard (by rfl) ?_; dsimp only)); refine Kd.R_lit (Kd.int .u8) _ 5 ?hg (N := 47) ?hd (xs := ([1, 33] : List Int)) (inner := [.int .u8 1, .int .u8 33]) (ok := fun _ => True) (okp := fun _ => True) ?hr ?hp (fun _ hk => hk) trivial (Below.refl _ _) (Nat.le_refl _) (by simp) ?_; (case hd => rfl); (case hg => rfl); (case hr => first | (go_simp; done) | (go_simp; rfl)); (case hp => exact (Reps.one (show Kd.M (Kd.int .u8) _ _ _ 1 [.int .u8 1] from rfl) (Reps.one (show Kd.M (Kd.int .u8) _ _ _ 33 [.int .u8 33] from rfl) (Reps.none _ _)))); intro v173 w33 ho34 hb hg_ hnew_; clear hg_ hnew_; (first | rw [← Ny172.out] at ho34 | (simp only [Int.reduceToNat] at ho34; rw [← Ny172.out] at ho34)); have n0_ := Aside0.mk (Kd.R_below (by (with_reducible repeat (first | apply Kd.R_alloc | apply Kd.R_drewN | apply Kd.R_drew)); first | exact HO153.out | exact Kd.R_mono (HO153.out) (fun _ h_ => h_.2)) hb); have n1_ := Aside0.mk (Kd.R_elder' (by (with_reducible repeat (first | apply Kd.R_alloc | apply Kd.R_drewN | apply Kd.R_drew)); first | exact HO157.out | exact Kd.R_mono (HO157.out) (fun _ h_ => h_.2)) (Kd.R_base ho34) hb); have n2_ := Aside0.mk (Kd.R_elder' (by (with_reducible repeat (first | apply Kd.R_alloc | apply Kd.R_drewN | apply Kd.R_drew)); first | exact HO162.out | exact Kd.R_mono (HO162.out) (fun _ h_ => h_.2)) (Kd.R_base ho34) hb); have n3_ := Aside0.mk (Kd.R_elder' (by (with_reducible repeat (first | apply Kd.R_alloc | apply Kd.R_drewN | apply Kd.R_drew)); first | exact HO166.out | exact Kd.R_mono (HO166.out) (fun _ h_ => h_.2)) (Kd.R_base ho34) hb); have n4_ := Aside0.mk (Kd.R_elder' (by (with_reducible repeat (first | apply Kd.R_alloc | apply Kd.R_drewN | apply Kd.R_drew)); first | exact HO170.out | exact Kd.R_mono (HO170.out) (fun _ h_ => h_.2)) (Kd.R_base ho34) hb); have n5_ := Aside0.mk (Kd.R_lower (Kd.R_new' (Kd.R_new' (Kd.R_new' (Kd.R_new' ho34 (Kd.R_lt (by (with_reducible repeat (first | apply Kd.R_alloc | apply Kd.R_drewN | apply Kd.R_drew)); first | exact HO157.out | exact Kd.R_mono (HO157.out) (fun _ h_ => h_.2)))) (Kd.R_lt (by (with_reducible repeat (first | apply Kd.R_alloc | apply Kd.R_drewN | apply Kd.R_drew)); first | exact HO162.out | exact Kd.R_mono (HO162.out) (fun _ h_ => h_.2)))) (Kd.R_lt (by (with_reducible repeat (first | apply Kd.R_alloc | apply Kd.R_drewN | apply Kd.R_drew)); first | exact HO166.out | exact Kd.R_mono (HO166.out) (fun _ h_ => h_.2)))) (Kd.R_lt (by (with_reducible repeat (first | apply Kd.R_alloc | apply Kd.R_drewN | apply Kd.R_drew)); first | exact HO170.out | exact Kd.R_mono (HO170.out) (fun _ h_ => h_.2)))) (below_size (by repeat (first | (with_reducible first | exact HB.out | apply below_alloc | apply pw_below_drewN | apply below_drew1) | exact HB.out | exact ⟨HB.out.os, HB.out.tape, HB.out.output, HB.out.size, HB.out.block⟩)))); have n6_ := Aside0.mk (below_step (by repeat (first | (with_reducible first | exact HB.out | apply below_alloc | apply pw_below_drewN | apply below_drew1) | exact HB.out | exact ⟨HB.out.os, HB.out.tape, HB.out.output, HB.out.size, HB.out.block⟩)) hb); clear HO153; clear HO157; clear HO162; clear HO166; clear HO170; clear HB; have HO153 := n0_; have HO157 := n1_; have HO162 := n2_; have HO166 := n3_; have HO170 := n4_; have HO174 := n5_; have HB := n6_; clear n0_ n1_ n2_ n3_ n4_ n5_ n6_; clear hb ho34; obtain ⟨Ao35, co35, eo35⟩ := Kd.R_slice HO174.out; subst eo35) | ((fail_if_success (have h_ := w36)); go_at_call 21; (with_reducible refine (capstanlaw05_told.calls k 40 _ _ y172 t175 _ ?side1 ?side2 ?side3 A13.out).mono ?_); (case side1 => first | exact HG.out | ((repeat (first | exact HG.out | exact Gl.below HG.out HB.out | (with_reducible refine Gl.alloc ?_ _) | (with_reducible refine Gl.drewN ?_ _) | (with_reducible refine Gl.drew ?_))); done) | exact Gl.below HG.out (by repeat (first | (with_reducible first | exact HB.out | apply below_alloc | apply pw_below_drewN | apply below_drew1) | exact HB.out | exact ⟨HB.out.os, HB.out.tape, HB.out.output, HB.out.size, HB.out.block⟩))); (case side2 => repeat (first | exact (Kd.R_reads' HO174.out).2.2 | (with_reducible refine Kd.C_alloc ?_ _) | (with_reducible refine Kd.C_drewN ?_ _) | (with_reducible refine Kd.C_drew ?_))); (case side3 => exact (Kd.R_reads' HO174.out).2.1); rintro e w36 ⟨rfl, hb⟩; have n0_ := Aside0.mk (Kd.R_below (by (with_reducible repeat (first | apply Kd.R_alloc | apply Kd.R_drewN | apply Kd.R_drew)); first | exact HO153.out | exact Kd.R_mono (HO153.out) (fun _ h_ => h_.2)) hb); have n1_ := Aside0.mk (Kd.R_below (by (with_reducible repeat (first | apply Kd.R_alloc | apply Kd.R_drewN | apply Kd.R_drew)); first | exact HO157.out | exact Kd.R_mono (HO157.out) (fun _ h_ => h_.2)) hb); have n2_ := Aside0.mk (Kd.R_below (by (with_reducible repeat (first | apply Kd.R_alloc | apply Kd.R_drewN | apply Kd.R_drew)); first | exact HO162.out | exact Kd.R_mono (HO162.out) (fun _ h_ => h_.2)) hb); have n3_ := Aside0.mk (Kd.R_below (by (with_reducible repeat (first | apply Kd.R_alloc | apply Kd.R_drewN | apply Kd.R_drew)); first | exact HO166.out | exact Kd.R_mono (HO166.out) (fun _ h_ => h_.2)) hb); have n4_ := Aside0.mk (Kd.R_below (by (with_reducible repeat (first | apply Kd.R_alloc | apply Kd.R_drewN | apply Kd.R_drew)); first | exact HO170.out | exact Kd.R_mono (HO170.out) (fun _ h_ => h_.2)) hb); have n5_ := Aside0.mk (Kd.R_below (by (with_reducible repeat (first | apply Kd.R_alloc | apply Kd.R_drewN | apply Kd.R_drew)); first | exact HO174.out | exact Kd.R_mono (HO174.out) (fun _ h_ => h_.2)) hb); have n6_ := Aside0.mk (below_step (by repeat (first | (with_reducible first | exact HB.out | apply below_alloc | apply pw_below_drewN | apply below_drew1) | exact HB.out | exact ⟨HB.out.os, HB.out.tape, HB.out.output, HB.out.size, HB.out.block⟩)) hb); clear HO153; clear HO157; clear HO162; clear HO166; clear HO170; clear HO174; clear HB; have HO153 := n0_; have HO157 := n1_; have HO162 := n2_; have HO166 := n3_; have HO170 := n4_; have HO174 := n5_; have HB := n6_; clear n0_ n1_ n2_ n3_ n4_ n5_ n6_; (try clear hb); (try clear hb2); (try clear hk); (try clear hi)))
        go_ret
        exact ⟨by first | rfl | (simp [errW_none, errW_some] <;> rfl) | (simp [*, errW_none, errW_some] <;> rfl), by repeat (first | (with_reducible first | exact HB.out | apply below_alloc | apply pw_below_drewN | apply below_drew1) | exact HB.out | exact ⟨HB.out.os, HB.out.tape, HB.out.output, HB.out.size, HB.out.block⟩)⟩
       ·
        replace c12 := Bool.eq_false_iff.mpr c12
        subst c12
        have H1 : (none) = some r := by rw [if_neg (show ¬ (false = true) by decide)] at H; exact H
        clear H
        have H := H1
        clear H1
        exact absurd H (by simp)
      ·
       replace c10 := Bool.eq_false_iff.mpr c10
       subst c10
       have H1 : (none) = some r := by rw [if_neg (show ¬ (false = true) by decide)] at H; exact H
       clear H
       have H := H1
       clear H1
       exact absurd H (by simp)
     ·
      replace c8 := Bool.eq_false_iff.mpr c8
      subst c8
      have H1 : (none) = some r := by rw [if_neg (show ¬ (false = true) by decide)] at H; exact H
      clear H
      have H := H1
      clear H1
      exact absurd H (by simp)
    ·
     rw [if_neg c6] at H
     exact absurd H (by simp)
   ·
    rw [if_neg c5] at H
    exact absurd H (by simp)
  ·
   rw [if_neg c4] at H
   exact absurd H (by simp)
 ·
  rw [if_neg c3] at H
  exact absurd H (by simp)

-- NOT PRINTED: function 44 (strings_Lines)

-- NOT PRINTED: function 85 (bytealg_IndexByteString)

-- NOT PRINTED: function 73 (stringslite_IndexByte)

-- NOT PRINTED: function 86 (bytealg_IndexString)

-- NOT PRINTED: function 87 (bytealg_Cutover)

-- NOT PRINTED: function 97 (bytealg_hashStr_string)

-- NOT PRINTED: function 88 (bytealg_IndexRabinKarp_string)

-- NOT PRINTED: function 74 (stringslite_Index)

-- NOT PRINTED: function 60 (stringslite_Cut)

-- NOT PRINTED: function 45 (strings_Cut)

-- NOT PRINTED: function 75 (stringslite_HasSuffix)

-- NOT PRINTED: function 61 (stringslite_TrimSuffix)

-- NOT PRINTED: function 46 (strings_TrimSuffix)

/-! ### slices_Index_string_string: function 62 -/
def slices_Index_string_string.l0 : Nat → List ByteArray → ByteArray → Int → Int → Option (Int)
 | 0, _, _, _, _ => none
 | k + 1, x0, x1, x7, x8 => if x8 < x7 then (if 0 ≤ x8 then (if x8 < (x0.length : Int) then (if x1.toList = (rdOf ByteArray.empty x0 x8).toList then (some x8) else (slices_Index_string_string.l0 k x0 x1 x7 (wrap64 (x8 + 1)))) else (none)) else (none)) else (some (-1))
def slices_Index_string_string.f (k : Nat) (l0 : List ByteArray) (a1 : ByteArray) : Option (Int) := slices_Index_string_string.l0 k l0 a1 (l0.length : Int) 0
theorem slices_Index_string_string.mono_l : ∀ k, (∀ y0 y1 y2 y3, LeO (slices_Index_string_string.l0 k y0 y1 y2 y3) (slices_Index_string_string.l0 (k + 1) y0 y1 y2 y3))
 | 0 => fun _ _ _ _ r h => by simp [slices_Index_string_string.l0] at h
 | k + 1 => by
  have ih0 := slices_Index_string_string.mono_l k
  ·
   intro y0 y1 y2 y3
   unfold slices_Index_string_string.l0
   repeat' first
   | (with_reducible exact ih0 _ _ _ _)
   | (with_reducible exact LeO.refl _)
   | (with_reducible exact LeO.none _)
   | (with_reducible refine LeO.ite ?_ ?_)
   | (with_reducible refine LeO.bind ?_ (fun _ => ?_))
   | exact ih0 _ _ _ _
   | exact LeO.none _
   | refine LeO.ite ?_ ?_
   | refine LeO.bind ?_ (fun _ => ?_)
theorem slices_Index_string_string.mono : ∀ a0 a1 k, LeO (slices_Index_string_string.f k a0 a1) (slices_Index_string_string.f (k + 1) a0 a1) := by
 intro a0 a1 k
 have ih0 := slices_Index_string_string.mono_l k
 unfold slices_Index_string_string.f
 repeat' first
   | (with_reducible exact ih0 _ _ _ _)
   | (with_reducible exact LeO.refl _)
   | (with_reducible exact LeO.none _)
   | (with_reducible refine LeO.ite ?_ ?_)
   | (with_reducible refine LeO.bind ?_ (fun _ => ?_))
   | exact ih0 _ _ _ _
   | exact LeO.none _
   | refine LeO.ite ?_ ?_
   | refine LeO.bind ?_ (fun _ => ?_)
set_option maxHeartbeats 8000000 in
set_option maxRecDepth 100000 in
theorem slices_Index_string_string.calls (k : Nat) (A0 : Option Addr) (c0 : Nat) (l0 : List ByteArray) (a1 : ByteArray) (r : Int) (w : World) (hr0 : Kd.C Kd.string w A0 l0.length l0) (hc0 : l0.length ≤ c0) (h : slices_Index_string_string.f k l0 a1 = some r) :
  Calls Tryd.prog 62 #[.slice A0 l0.length c0, .string a1] w fun e w' => e = .returned (.int .i64 r) ∧ Drawn0 w w' := by
 have HR0 := Aside0.mk hr0
 have HC0 := Aside0.mk hc0
 clear hr0 hc0
 have H : (slices_Index_string_string.l0 k l0 a1 (l0.length : Int) 0) = some r := h
 clear h
 have H' := Aside0.mk H
 clear H
 go_enter Tryd.func62, Tryd.ntmps62
 go_wp2
 go_loopg [8] k (fun kq v8 w' => ∃ (x8_1 : Int), v8 = .int .i64 x8_1 ∧ Aside0 (slices_Index_string_string.l0 kq l0 a1 (l0.length : Int) x8_1 = some r) ∧ Aside0 (kq ≤ k) ∧ Drawn0 w w')
 case atStart => exact ⟨(0), (by first | rfl | (simp; done) | (simp [*]; done)), H', ⟨Nat.le_refl _⟩, by repeat (first | exact Drawn0.refl _ | apply Drawn0.step)⟩
 case round =>
  clear H'
  try clear p2
  obtain ⟨x8_1, rfl, HA, HK1, ⟨m1, rfl⟩⟩ := hrel
  cases gk with
  | zero => exact absurd HA.out (by simp [slices_Index_string_string.l0])
  | succ k1 =>
   have H := HA.out
   clear HA
   simp only [slices_Index_string_string.l0] at H
   by_cases c3 : x8_1 < (l0.length : Int)
   ·
    rw [if_pos c3] at H
    have c3b0 : decide (x8_1 < (l0.length : Int)) = true := decide_eq_true c3
    clear c3
    by_cases c4 : 0 ≤ x8_1
    ·
     rw [if_pos c4] at H
     have c4b0 : decide (0 ≤ x8_1) = true := decide_eq_true c4
     clear c4
     by_cases c5 : x8_1 < (l0.length : Int)
     ·
      rw [if_pos c5] at H
      have c5b0 : decide (x8_1 < (l0.length : Int)) = true := decide_eq_true c5
      clear c5
      by_cases c6 : a1.toList = (rdOf ByteArray.empty l0 x8_1).toList
      ·
       rw [if_pos c6] at H
       have c6b0 : (a1.toList == (rdOf ByteArray.empty l0 x8_1).toList) = true := beq_iff_eq.mpr c6
       have c6b1 : (a1.toList != (rdOf ByteArray.empty l0 x8_1).toList) = false := bne_eq_false_iff_eq.mpr c6
       clear c6
       obtain rfl := Option.some.inj H
       have p176 : 0 ≤ (x8_1 : Int) := of_decide_eq_true (by first | (with_reducible assumption) | assumption)
       have q176 : x8_1 < (l0.length : Int) := of_decide_eq_true (by first | (with_reducible assumption) | assumption)
       obtain ⟨ad176, e176, hx176_0⟩ := Kd.at_string HR0.out x8_1 p176 q176
       cases e176
       replace p176 := eq_true p176
       replace q176 := eq_true q176
       go_wp2
       go_ret
       exact ⟨by first | rfl | (simp; done) | (simp [*]; done), by repeat (first | exact Drawn0.refl _ | apply Drawn0.step)⟩
      ·
       rw [if_neg c6] at H
       have c6b0 : (a1.toList == (rdOf ByteArray.empty l0 x8_1).toList) = false := beq_eq_false_iff_ne.mpr c6
       have c6b1 : (a1.toList != (rdOf ByteArray.empty l0 x8_1).toList) = true := bne_iff_ne.mpr c6
       have H' := Aside0.mk H
       clear H
       have p176 : 0 ≤ (x8_1 : Int) := of_decide_eq_true (by first | (with_reducible assumption) | assumption)
       have q176 : x8_1 < (l0.length : Int) := of_decide_eq_true (by first | (with_reducible assumption) | assumption)
       obtain ⟨ad176, e176, hx176_0⟩ := Kd.at_string HR0.out x8_1 p176 q176
       cases e176
       replace p176 := eq_true p176
       replace q176 := eq_true q176
       go_wp2
       go_roundg k1
       case measure => have := HK1.out; omega
       case rel => exact ⟨(wrap64 (x8_1 + 1)), (by first | rfl | (simp; done) | (simp [*]; done)), H', ⟨by have := HK1.out; omega⟩, by repeat (first | exact Drawn0.refl _ | apply Drawn0.step)⟩
     ·
      rw [if_neg c5] at H
      exact absurd H (by simp)
    ·
     rw [if_neg c4] at H
     exact absurd H (by simp)
   ·
    rw [if_neg c3] at H
    have c3b0 : decide (x8_1 < (l0.length : Int)) = false := decide_eq_false c3
    clear c3
    obtain rfl := Option.some.inj H
    go_wp2
    go_ret
    exact ⟨by first | rfl | (simp; done) | (simp [*]; done), by repeat (first | exact Drawn0.refl _ | apply Drawn0.step)⟩

/-! ### op_Parse: function 47 -/
def op_Parse.f (k : Nat) (a0 : ByteArray) : Option (Int × Bool) := (slices_Index_string_string.f k gl0 a0).bind fun i => if i < 0 then some (0, false) else if i < 33 then some (i, true) else none
theorem op_Parse.mono : ∀ a0 k, LeO (op_Parse.f k a0) (op_Parse.f (k + 1) a0) := by
  intro a0 k
  unfold op_Parse.f
  exact LeO.bind (slices_Index_string_string.mono _ _ _) fun i => LeO.refl _
set_option maxHeartbeats 8000000 in
set_option maxRecDepth 100000 in
theorem op_Parse.calls (k : Nat) (a0 : ByteArray) (r1 : Int) (r2 : Bool) (w : World) (hG : Gl w) (h : op_Parse.f k a0 = some (r1, r2)) :
    Calls Tryd.prog 47 #[.string a0] w fun e w' => e = .returned (.tuple #[.int .u8 r1, .bool r2]) ∧ Drawn0 w w' := by
  have HR := Aside0.mk hG.g0
  clear hG
  simp only [op_Parse.f] at h
  obtain ⟨i, hi, h⟩ := Option.bind_eq_some_iff.mp h
  have HI := Aside0.mk hi
  clear hi
  by_cases c : i < 0
  · rw [if_pos c, Option.some.injEq, Prod.mk.injEq] at h
    obtain ⟨rfl, rfl⟩ := h
    have hd : decide (0 ≤ i) = false := by simp; omega
    go_enter Tryd.func47, Tryd.ntmps47
    go_wp2_with (first | (go_at_call 62; (refine (slices_Index_string_string.calls k (some ⟨0, 0, none⟩) 33 gl0 a0 i _ HR.out (by decide) HI.out).mono ?_); rintro e w' ⟨rfl, ⟨nd, rfl⟩⟩))
    go_ret2
    exact ⟨rfl, ⟨nd, rfl⟩⟩
  · rw [if_neg c] at h
    have h33 : i < 33 := by
      by_cases c2 : i < 33
      · exact c2
      · rw [if_neg c2] at h; cases h
    rw [if_pos h33, Option.some.injEq, Prod.mk.injEq] at h
    obtain ⟨rfl, rfl⟩ := h
    have hd : decide (0 ≤ i) = true := by simp; omega
    have hm : i % 256 = i := by omega
    go_enter Tryd.func47, Tryd.ntmps47
    go_wp2_with (first | (go_at_call 62; (refine (slices_Index_string_string.calls k (some ⟨0, 0, none⟩) 33 gl0 a0 i _ HR.out (by decide) HI.out).mono ?_); rintro e w' ⟨rfl, ⟨nd, rfl⟩⟩))
    go_ret2
    exact ⟨by simp [hd, hm], ⟨nd, rfl⟩⟩

-- NOT PRINTED: function 98 (strconv_lower)

-- NOT PRINTED: function 99 (strconv_underscoreOK)

-- NOT PRINTED: function 89 (strconv_ParseUint)

-- NOT PRINTED: function 76 (strconv_ParseInt)

-- NOT PRINTED: function 63 (strconv_Atoi_63)

-- NOT PRINTED: function 90 (stringslite_Clone)

-- NOT PRINTED: function 77 (strconv_syntaxError)

-- NOT PRINTED: function 78 (strconv_rangeError)

-- NOT PRINTED: function 91 (errors_New)

-- NOT PRINTED: function 79 (strconv_baseError)

-- NOT PRINTED: function 80 (strconv_bitSizeError)

-- NOT PRINTED: function 64 (strconv_toError)

-- NOT PRINTED: function 48 (strconv_Atoi_48)

end Go.Proofs.YtdfjjooejfgglaaDoor.Y
