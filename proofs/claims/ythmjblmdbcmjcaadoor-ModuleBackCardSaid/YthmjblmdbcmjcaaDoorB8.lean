/- Contracts of functions of this seat. -/
import Derived.Test.YthmjblmdbcmjcaaDoorB0
import Derived.Test.YthmjblmdbcmjcaaDoorB4
import Derived.Test.YthmjblmdbcmjcaaDoorB6
import Derived.Test.YthmjblmdbcmjcaaDoorB7
namespace Go.Proofs.YthmjblmdbcmjcaaDoor.B
open Go.RowKit Go.Proofs.YthmjblmdbcmjcaaDoorW.PrintWords Go.Proofs.YthmjblmdbcmjcaaDoorW.PrintLast Go.Proofs.YthmjblmdbcmjcaaDoorW.PrintMore
attribute [local go_sem] max2_int min2_int max_two min_two max_three min_three max_four min_four
set_option linter.unusedVariables false
set_option linter.unusedSimpArgs false

/-! ### code_Read: function 77 -/
/-- A reader's two cells. -/
def CRd (W : World) (g : Nat) (A : Option Addr) (n c : Nat) (a : Int) : Prop := W.heap[g]? = some (.cells #[.slice A n c, .int .i64 a] 145 (0, 0))
set_option maxHeartbeats 8000000 in
set_option maxRecDepth 100000 in
theorem code_reader_number.ok (k g base : Nat) (A : Option Addr) (c : Nat) (l : List Int) (a wd r1 r2 : Int) (w : World) (hg : base ≤ g) (hM : CRd w g A l.length c a) (hr : Kd.C (Kd.int .u8) w A l.length l) (hc : l.length ≤ c) (h : octet_Get.f k l a wd = some (r1, r2, 0)) :
    Calls Tryd.prog 108 #[.pointer (some ⟨g, 0, none⟩), .int .i64 wd] w fun er w' => er = .returned (.int .i64 r1) ∧ CRd w' g A l.length c r2 ∧ KeepBut w w' g none ∧ Below base w w' := by
  have HM := Aside0.mk hM; have HR := Aside0.mk hr; have HC := Aside0.mk hc; have HQ := Aside0.mk h; have hlt := blk_lt hM; have d0 := blk_cell hM 0; have d1 := blk_cell hM 1; clear hM hr hc h
  go_enter Tryd.func108, Tryd.ntmps108
  go_wp2
  go_region_with (go_at_call 30; (refine (octet_Get.calls k A c l a wd r1 r2 0 _ (Kd.C_drew HR.out) HC.out HQ.out).mono ?_); rintro e w1 ⟨rfl, hb⟩; have HB := Aside0.mk ((Below.drew (Below.refl w.heap.size w)).trans hb); have hk := (HB.out.block g hlt).trans HM.out; have e0 := blk_cell hk 0; have e1 := blk_cell hk 1; have f1 := blk_frozen hk 1; have HK := Aside0.mk hk; clear hk hb)
  all_goals
    go_wp2; go_ret; exact ⟨rfl, blk_put HK.out 1 _ rfl, (KeepBut.of_below HB.out g none).set_ 1 _, (HB.out.mono (by omega)).setCell (p := ⟨g, 1, none⟩) hg _⟩
set_option maxHeartbeats 8000000 in
set_option maxRecDepth 100000 in
theorem code_reader_number.bad (k g base : Nat) (A : Option Addr) (c : Nat) (l : List Int) (a wd r1 r2 r3 : Int) (w : World) (hg : base ≤ g) (hM : CRd w g A l.length c a) (hr : Kd.C (Kd.int .u8) w A l.length l) (hc : l.length ≤ c) (h3 : r3 ≠ 0) (h : octet_Get.f k l a wd = some (r1, r2, r3)) :
    Calls Tryd.prog 108 #[.pointer (some ⟨g, 0, none⟩), .int .i64 wd] w fun er w' => er = .panicked [CWr r3] ∧ Below w.heap.size w w' := by
  have HM := Aside0.mk hM; have HR := Aside0.mk hr; have HC := Aside0.mk hc; have HQ := Aside0.mk h; have hlt := blk_lt hM; have d0 := blk_cell hM 0; have d1 := blk_cell hM 1
  have hn : (r3 != 0) = true := by rw [bne_iff_ne]; exact h3
  clear hM hr hc h
  go_enter Tryd.func108, Tryd.ntmps108
  go_wp2
  go_region_with (go_at_call 30; (refine (octet_Get.calls k A c l a wd r1 r2 r3 _ (Kd.C_drew HR.out) HC.out HQ.out).mono ?_); rintro e w1 ⟨rfl, hb⟩; have HB := Aside0.mk ((Below.drew (Below.refl w.heap.size w)).trans hb); have hk := (HB.out.block g hlt).trans HM.out; have e0 := blk_cell hk 0; have e1 := blk_cell hk 1; have f1 := blk_frozen hk 1; have HK := Aside0.mk hk; clear hk hb)
  all_goals
    go_wp2; exact ⟨rfl, rfl, HB.out⟩
theorem code_Read.asserts (v : Value) (w : World) : (Instr.typeAssert (.iface 141 v) 20 141 true).run Tryd.prog w = .ok (.tuple #[v, .bool true]) w := by
  simp [Instr.typeAssert, run_underlying Tryd.underlying141, go_sem, Result.andThen]
set_option maxHeartbeats 8000000 in
set_option maxRecDepth 100000 in
theorem code_Read.caught (n : Nat) (e : Int) (v0 v1 v2 : Value) (older : List PanicEntry) (w : World) (h0 : w.heap[n]? = some (.cells #[v0] 45 (0, 0))) (h1 : w.heap[n + 1]? = some (.cells #[v1] 3 (0, 0))) (h2 : w.heap[n + 1 + 1]? = some (.cells #[v2] 29 (0, 0))) :
    CallsD Tryd.prog 107 #[.pointer (some ⟨n, 0, none⟩), .pointer (some ⟨n + 1, 0, none⟩), .pointer (some ⟨n + 1 + 1, 0, none⟩)] (.panicking (CWr e :: older)) w fun er u' w' => er = .returned (.tuple #[]) ∧ u' = .panicking ({ v := .iface 141 (.agg #[.int .i64 e]), recovered := true } :: older) ∧ w'.heap[n]? = some (.cells #[.slice none 0 0] 45 (0, 0)) ∧ w'.heap[n + 1]? = some (.cells #[.int .i64 0] 3 (0, 0)) ∧ w'.heap[n + 1 + 1]? = some (.cells #[.int .i64 e] 29 (0, 0)) ∧ Below n w w' := by
  have H0 := Aside0.mk h0; have H1 := Aside0.mk h1; have H2 := Aside0.mk h2; clear h0 h1 h2
  refine callsD_of_wpS Tryd.func107 rfl fun c₀ cs hu => ?_
  simp only [Tryd.ntmps107, List.size_toArray, List.length_cons, List.length_nil, Nat.reduceAdd, Nat.reduceSub, Array.replicate_succ, Array.replicate_zero, List.push_toArray, List.append_toArray, List.nil_append, List.cons_append]
  apply wpS_seq
  apply wpS_region
  simp [wpOpsS, go_sem, recoverD, hu, Tryd.ntmps107, Exit.thenS]
  refine wpS_of_wp ?_; have hta := code_Read.asserts; go_wp2; have L0 := blk_lt H0.out; have L1 := blk_lt H1.out; have L2 := blk_lt H2.out; have b0 := blk_alloc H0.out (.cells #[.int .i64 e] 141); have b1 := blk_alloc H1.out (.cells #[.int .i64 e] 141); have b2 := blk_alloc H2.out (.cells #[.int .i64 e] 141); have b3 := blk_new w (.cells #[.int .i64 e] 141)
  generalize hW : w.alloc (.cells #[.int .i64 e] 141) = W at *
  have B := Aside0.mk (show Below n w W by rw [← hW]; exact (Below.refl n w).alloc (Nat.le_of_lt L0) _); have c0 := blk_cell b0 0; have c1 := blk_cell b1 0; have c2 := blk_cell b2 0; have c3 := blk_cell b3 0; have f0 := blk_frozen b0 0; have f1 := blk_frozen b1 0; have f2 := blk_frozen b2 0; have B0 := Aside0.mk b0; have B1 := Aside0.mk b1; have B2 := Aside0.mk b2; have n3 : ¬ (n = w.heap.size) := Nat.ne_of_lt L0; have n4 : ¬ (n + 1 = w.heap.size) := Nat.ne_of_lt L1
  have n5 : ¬ (w.heap.size = n) := fun h => n3 h.symm
  have n6 : ¬ (w.heap.size = n + 1) := fun h => n4 h.symm
  clear b0 b1 b2 b3 hW
  go_region_with (fail)
  all_goals
    go_wp2; refine ⟨rfl, _, rfl, .tuple #[], by simp [results, Tryd.results107, go_sem], rfl, rfl, ?_, ?_, ?_, ?_⟩
    · exact blk_drew (blk_far (blk_far (blk_put B0.out 0 _ rfl) (p := ⟨n + 1, 0, none⟩) (by show n ≠ n + 1; omega) _) (p := ⟨n + 1 + 1, 0, none⟩) (by show n ≠ n + 1 + 1; omega) _)
    · exact blk_drew (blk_far (blk_put (blk_far B1.out (p := ⟨n, 0, none⟩) (by show n + 1 ≠ n; omega) _) 0 _ rfl) (p := ⟨n + 1 + 1, 0, none⟩) (by show n + 1 ≠ n + 1 + 1; omega) _)
    · exact blk_drew (blk_put (blk_far (blk_far B2.out (p := ⟨n, 0, none⟩) (by show n + 1 + 1 ≠ n; omega) _) (p := ⟨n + 1, 0, none⟩) (by show n + 1 + 1 ≠ n + 1; omega) _) 0 _ rfl)
    · exact (((B.out.setCell (p := ⟨n, 0, none⟩) (Nat.le_refl n) _).setCell (p := ⟨n + 1, 0, none⟩) (by show n ≤ n + 1; omega) _).setCell (p := ⟨n + 1 + 1, 0, none⟩) (by show n ≤ n + 1 + 1; omega) _).drew
set_option maxHeartbeats 8000000 in
set_option maxRecDepth 100000 in
theorem code_Read.idle (a b c : Value) (w : World) : CallsD Tryd.prog 107 #[a, b, c] .returning w fun er u' w' => er = .returned (.tuple #[]) ∧ u' = .returning ∧ w' = w := by
  refine callsD_of_wpS Tryd.func107 rfl fun c₀ cs hu => ?_
  simp only [Tryd.ntmps107, List.size_toArray, List.length_cons, List.length_nil, Nat.reduceAdd, Nat.reduceSub, Array.replicate_succ, Array.replicate_zero, List.push_toArray, List.append_toArray, List.nil_append, List.cons_append]
  apply wpS_seq
  apply wpS_region
  simp [wpOpsS, go_sem, recoverD, hu, Tryd.ntmps107, Exit.thenS]
  refine wpS_of_wp ?_; go_wp2; refine ⟨rfl, _, by cases c₀; simp_all, .tuple #[], by simp [results, Tryd.results107, go_sem], rfl, rfl, rfl⟩
def code_Read.l0 (k : Nat) (l : List Int) : Nat → Int → List S75 → Option (List S75 × Int × Int)
  | 0, a, acc => some (acc, a, 0)
  | d + 1, a, acc => (octet_Get.f k l a 1).bind fun g => if g.2.2 = 0 then (op_Known.f (g.1 % 256)).bind fun kn => if kn = true then (code_wide.f k (g.1 % 256)).bind fun wd => if wd = true then (octet_Get.f k l g.2.1 2).bind fun h => if h.2.2 = 0 then (op_May.f k (g.1 % 256) h.1 0).bind fun my => if my = true then (if acc.length < 1000 then code_Read.l0 k l d h.2.1 (acc ++ [⟨g.1 % 256, h.1, 0⟩]) else none) else some ([], 0, 40) else some ([], 0, h.2.2)
      else (op_May.f k (g.1 % 256) 0 0).bind fun my => if my = true then (if acc.length < 1000 then code_Read.l0 k l d g.2.1 (acc ++ [⟨g.1 % 256, 0, 0⟩]) else none) else some ([], 0, 40) else some ([], 0, 40) else some ([], 0, g.2.2)
def code_Read.f (k : Nat) (l : List Int) (a : Int) : Option (List S75 × Int × Int) :=
  (octet_Get.f k l a 1).bind fun g => if g.2.2 = 0 then (if 0 < g.1 ∧ g.1 ≤ 200 then code_Read.l0 k l g.1.toNat g.2.1 [] else some ([], 0, 40)) else some ([], 0, g.2.2)
theorem code_Read.mono_l0 (l : List Int) : ∀ (d k : Nat) (a : Int) (acc : List S75), LeO (code_Read.l0 k l d a acc) (code_Read.l0 (k + 1) l d a acc) := by
  intro d
  induction d with
  | zero => intro k a acc; exact LeO.refl _
  | succ d ih =>
    intro k a acc; simp only [code_Read.l0]
    exact LeO.bind (octet_Get.mono _ _ _ _) fun g => LeO.ite (LeO.bind (LeO.refl _) fun kn => LeO.ite (LeO.bind (code_wide.mono _ _) fun wd => LeO.ite (LeO.bind (octet_Get.mono _ _ _ _) fun h => LeO.ite (LeO.bind (op_May.mono _ _ _ _) fun my => LeO.ite (LeO.ite (ih _ _ _) (LeO.refl _)) (LeO.refl _)) (LeO.refl _)) (LeO.bind (op_May.mono _ _ _ _) fun my => LeO.ite (LeO.ite (ih _ _ _) (LeO.refl _)) (LeO.refl _))) (LeO.refl _)) (LeO.refl _)
theorem code_Read.mono : ∀ a0 a1 k, LeO (code_Read.f k a0 a1) (code_Read.f (k + 1) a0 a1) := by
  intro l a k
  unfold code_Read.f
  exact LeO.bind (octet_Get.mono _ _ _ _) fun g => LeO.ite (LeO.ite (code_Read.mono_l0 _ _ _ _ _) (LeO.refl _)) (LeO.refl _)
/-- The blocks of the three results, and of the reader. -/
def CSt (w W : World) (A : Option Addr) (m c : Nat) (a : Int) (v : Value) (xs : List S75) : Prop :=
  CRd W (w.heap.size + 1 + 1 + 1) A m c a ∧ W.heap[w.heap.size]? = some (.cells #[v] 45 (0, 0)) ∧ W.heap[w.heap.size + 1]? = some (.cells #[.int .i64 0] 3 (0, 0)) ∧ W.heap[w.heap.size + 1 + 1]? = some (.cells #[.int .i64 0] 29 (0, 0)) ∧ Below w.heap.size w W ∧ Kd.R k75 75 W w.heap.size (fun k => k ≠ w.heap.size ∧ k ≠ w.heap.size + 1 ∧ k ≠ w.heap.size + 1 + 1 ∧ k ≠ w.heap.size + 1 + 1 + 1) v xs
theorem CSt.zero (w : World) (A : Option Addr) (m c : Nat) (a : Int) : CSt w ((((w.alloc (.cells #[.slice none 0 0] 45)).alloc (.cells #[.int .i64 0] 3)).alloc (.cells #[.int .i64 0] 29)).alloc (.cells #[.slice A m c, .int .i64 a] 145)) A m c a (.slice none 0 0) [] := by
  have h1 := blk_new (w.alloc (.cells #[.slice none 0 0] 45)) (.cells #[.int .i64 0] 3); have h2 := blk_new ((w.alloc (.cells #[.slice none 0 0] 45)).alloc (.cells #[.int .i64 0] 3)) (.cells #[.int .i64 0] 29); have h3 := blk_new (((w.alloc (.cells #[.slice none 0 0] 45)).alloc (.cells #[.int .i64 0] 3)).alloc (.cells #[.int .i64 0] 29)) (.cells #[.slice A m c, .int .i64 a] 145); rw [World.size_alloc] at h1; rw [World.size_alloc, World.size_alloc] at h2; rw [World.size_alloc, World.size_alloc, World.size_alloc] at h3; exact ⟨h3, blk_alloc (blk_alloc (blk_alloc (blk_new w _) _) _) _, blk_alloc (blk_alloc h1 _) _, blk_alloc h2 _, below_alloc (below_alloc (below_alloc (below_alloc (Below.refl w.heap.size w) _) _) _) _, Kd.R_nil _ _ _ _ _⟩
theorem CSt.num {w W : World} {A : Option Addr} {c : Nat} {a : Int} {v : Value} {xs : List S75} {l : List Int} (k : Nat) (wd r1 r2 : Int) (hS : CSt w W A l.length c a v xs) (hr : Kd.C (Kd.int .u8) w A l.length l) (hc : l.length ≤ c) (h : octet_Get.f k l a wd = some (r1, r2, 0)) :
    Calls Tryd.prog 108 #[.pointer (some ⟨w.heap.size + 1 + 1 + 1, 0, none⟩), .int .i64 wd] W fun er w' => er = .returned (.int .i64 r1) ∧ CSt w w' A l.length c r2 v xs ∧ KeepBut W w' (w.heap.size + 1 + 1 + 1) none := by
  obtain ⟨h1, h2, h3, h4, h5, h6⟩ := hS; refine (code_reader_number.ok k (w.heap.size + 1 + 1 + 1) w.heap.size A c l a wd r1 r2 W (by omega) h1 (Kd.C_below hr h5) hc h).mono ?_; rintro er w' ⟨rfl, hm, hk, hb⟩; exact ⟨rfl, ⟨hm, hk.blk h2 (by omega) (by simp), hk.blk h3 (by omega) (by simp), hk.blk h4 (by omega) (by simp), h5.trans hb, Kd.R_keep h6 hk (fun _ h => h.2.2.2)⟩, hk⟩
theorem CSt.bad {w W : World} {A : Option Addr} {c : Nat} {a : Int} {v : Value} {xs : List S75} {l : List Int} (k : Nat) (wd r1 r2 r3 : Int) (hS : CSt w W A l.length c a v xs) (hr : Kd.C (Kd.int .u8) w A l.length l) (hc : l.length ≤ c) (h3 : r3 ≠ 0) (h : octet_Get.f k l a wd = some (r1, r2, r3)) :
    Calls Tryd.prog 108 #[.pointer (some ⟨w.heap.size + 1 + 1 + 1, 0, none⟩), .int .i64 wd] W fun er w' => er = .panicked [CWr r3] ∧ CSt w w' A l.length c a v xs := by
  obtain ⟨h1, h2, h3_, h4, h5, h6⟩ := hS; refine (code_reader_number.bad k (w.heap.size + 1 + 1 + 1) w.heap.size A c l a wd r1 r2 r3 W (by omega) h1 (Kd.C_below hr h5) hc h3 h).mono ?_; rintro er w' ⟨rfl, hb⟩; exact ⟨rfl, blk_below h1 hb, blk_below h2 hb, blk_below h3_ hb, blk_below h4 hb, h5.trans (hb.mono h5.size), Kd.R_below h6 hb⟩
theorem CSt.below {w W W2 : World} {A : Option Addr} {m c : Nat} {a : Int} {v : Value} {xs : List S75} (hS : CSt w W A m c a v xs) (hb : Below W.heap.size W W2) : CSt w W2 A m c a v xs := by
  obtain ⟨h1, h2, h3, h4, h5, h6⟩ := hS; exact ⟨blk_below h1 hb, blk_below h2 hb, blk_below h3 hb, blk_below h4 hb, h5.trans (hb.mono h5.size), Kd.R_below h6 hb⟩
/-- And the block of the instruction that is being read. -/
def CSp (w W : World) (A : Option Addr) (m c : Nat) (a : Int) (v : Value) (xs : List S75) (p : Nat) (x y : Int) : Prop :=
  CSt w W A m c a v xs ∧ Kd.R k75 75 W w.heap.size (fun k => (k ≠ w.heap.size ∧ k ≠ w.heap.size + 1 ∧ k ≠ w.heap.size + 1 + 1 ∧ k ≠ w.heap.size + 1 + 1 + 1) ∧ k ≠ p) v xs ∧ W.heap[p]? = some (.cells #[.int .u8 x, .int .i64 y, .int .i64 0] 75 (0, 0)) ∧ w.heap.size + 1 + 1 + 1 < p
theorem CSp.new {w W : World} {A : Option Addr} {m c : Nat} {a : Int} {v : Value} {xs : List S75} (hS : CSt w W A m c a v xs) (x : Int) : CSp w (W.alloc (.cells #[.int .u8 x, .int .i64 0, .int .i64 0] 75)) A m c a v xs W.heap.size x 0 :=
  ⟨hS.below (Below.alloc (Below.refl W.heap.size W) (Nat.le_refl _) _), Kd.R_mono (Kd.R_alloc (Kd.R_bound hS.2.2.2.2.2) _) (fun k h => ⟨h.1, Nat.ne_of_lt h.2.2.1⟩), blk_new W _, blk_lt hS.1⟩
theorem CSp.below {w W W2 : World} {A : Option Addr} {m c : Nat} {a : Int} {v : Value} {xs : List S75} {p : Nat} {x y : Int} (hS : CSp w W A m c a v xs p x y) (hb : Below W.heap.size W W2) : CSp w W2 A m c a v xs p x y :=
  ⟨hS.1.below hb, Kd.R_below hS.2.1 hb, blk_below hS.2.2.1 hb, hS.2.2.2⟩
theorem CSp.num {w W : World} {A : Option Addr} {c : Nat} {a : Int} {v : Value} {xs : List S75} {l : List Int} {p : Nat} {x y : Int} (k : Nat) (wd r1 r2 : Int) (hS : CSp w W A l.length c a v xs p x y) (hr : Kd.C (Kd.int .u8) w A l.length l) (hc : l.length ≤ c) (h : octet_Get.f k l a wd = some (r1, r2, 0)) :
    Calls Tryd.prog 108 #[.pointer (some ⟨w.heap.size + 1 + 1 + 1, 0, none⟩), .int .i64 wd] W fun er w' => er = .returned (.int .i64 r1) ∧ CSp w w' A l.length c r2 v xs p x y := by
  refine (CSt.num k wd r1 r2 hS.1 hr hc h).mono ?_; rintro er w' ⟨rfl, h1, hk⟩; have hp := hS.2.2.2; exact ⟨rfl, h1, Kd.R_keep hS.2.1 hk (fun _ h => h.1.2.2.2), hk.blk hS.2.2.1 (by omega) (by simp), hp⟩
theorem CSp.put {w W : World} {A : Option Addr} {m c : Nat} {a : Int} {v : Value} {xs : List S75} {p : Nat} {x y : Int} (hS : CSp w W A m c a v xs p x y) (z : Int) : CSp w (W.setCell ⟨p, 1, none⟩ (.int .i64 z)) A m c a v xs p x z := by
  obtain ⟨⟨h1, h2, h3, h4, h5, h6⟩, h7, h8, h9⟩ := hS; exact ⟨⟨blk_far h1 (p := ⟨p, 1, none⟩) (by show _ ≠ p; omega) _, blk_far h2 (p := ⟨p, 1, none⟩) (by show _ ≠ p; omega) _, blk_far h3 (p := ⟨p, 1, none⟩) (by show _ ≠ p; omega) _, blk_far h4 (p := ⟨p, 1, none⟩) (by show _ ≠ p; omega) _, h5.setCell (p := ⟨p, 1, none⟩) (by show _ ≤ p; omega) _, Kd.R_mono (Kd.R_far (p := ⟨p, 1, none⟩) h7 (fun _ h => h.2) _) (fun _ h => h.1)⟩, Kd.R_far (p := ⟨p, 1, none⟩) h7 (fun _ h => h.2) _, blk_put h8 1 _ rfl, h9⟩
theorem CSt.app {w W w9 : World} {A : Option Addr} {m c : Nat} {a : Int} {v v9 : Value} {xs ys : List S75} (hS : CSt w W A m c a v xs) (hg : W.grownBy w9 v.ownBlock) (hb : Below w.heap.size w w9) (hR : Kd.R k75 75 w9 w.heap.size (fun k => k ≠ w.heap.size ∧ k ≠ w.heap.size + 1 ∧ k ≠ w.heap.size + 1 + 1 ∧ k ≠ w.heap.size + 1 + 1 + 1) v9 ys) : CSt w (w9.setCell ⟨w.heap.size, 0, none⟩ v9) A m c a v9 ys := by
  obtain ⟨h1, h2, h3, h4, h5, h6⟩ := hS; exact ⟨blk_far (blk_grown h1 hg (fun e => (h6.1 _ e.symm).2.2.2 rfl)) (p := ⟨w.heap.size, 0, none⟩) (by show _ ≠ w.heap.size; omega) _, blk_put (blk_grown h2 hg (fun e => (h6.1 _ e.symm).1 rfl)) 0 _ rfl, blk_far (blk_grown h3 hg (fun e => (h6.1 _ e.symm).2.1 rfl)) (p := ⟨w.heap.size, 0, none⟩) (by show _ ≠ w.heap.size; omega) _, blk_far (blk_grown h4 hg (fun e => (h6.1 _ e.symm).2.2.1 rfl)) (p := ⟨w.heap.size, 0, none⟩) (by show _ ≠ w.heap.size; omega) _, hb.setCell (p := ⟨w.heap.size, 0, none⟩) (Nat.le_refl _) _, Kd.R_far (p := ⟨w.heap.size, 0, none⟩) hR (fun _ h => h.1) _⟩
set_option maxHeartbeats 8000000 in
set_option maxRecDepth 100000 in
theorem code_Read.calls (k : Nat) (A0 : Option Addr) (c0 : Nat) (l0 : List Int) (a1 : Int) (r1 : List (S75)) (r2 : Int) (r3 : Int) (w : World) (hG : Gl w) (hr0 : Kd.C (Kd.int .u8) w A0 l0.length l0) (hc0 : l0.length ≤ c0) (h : code_Read.f k l0 a1 = some (r1, r2, r3)) :
    Calls Tryd.prog 77 #[.slice A0 l0.length c0, .int .i64 a1] w fun e w' => ∃ v0_ : Value, e = .returned (.tuple #[v0_, .int .i64 r2, .int .i64 r3]) ∧ Kd.R k75 75 w' w.heap.size (fun _ => True) v0_ r1 ∧ Below w.heap.size w w' := by
  unfold code_Read.f at h
  obtain ⟨⟨g1, g2, g3⟩, hg, h⟩ := Option.bind_eq_some_iff.mp h
  dsimp only at h
  have HG := Aside0.mk hG; have HR := Aside0.mk hr0; have HC := Aside0.mk hc0; have HQ := Aside0.mk hg; clear hG hr0 hc0 hg; have Z0 := Aside0.mk (CSt.zero w A0 l0.length c0 a1)
  have hmf : ∀ (fn : Fn) (first cap : Array Value) (w : World), (Instr.makeFunc fn first cap).run Tryd.prog w = .ok (.func fn first cap) w := fun _ _ _ _ => rfl
  by_cases h3 : g3 = 0
  case neg =>
    rw [if_neg h3] at h
    simp only [Option.some.injEq, Prod.mk.injEq] at h
    obtain ⟨rfl, rfl, rfl⟩ := h
    go_enter_defers Tryd.func77, Tryd.ntmps77
    go_wp2_with (first | (go_at_call 108; (refine (CSt.bad k 1 g1 g2 g3 Z0.out HR.out HC.out h3 HQ.out).mono ?_); rintro er w1 ⟨rfl, hS⟩; have S1 := Aside0.mk hS; clear hS))
    refine leaves_cons (f := 107) (args := #[.pointer (some ⟨w.heap.size, 0, none⟩), .pointer (some ⟨w.heap.size + 1, 0, none⟩), .pointer (some ⟨w.heap.size + 1 + 1, 0, none⟩)]) (by simp) (by simp [go_sem]) ?_; refine (code_Read.caught w.heap.size g3 _ _ _ [] _ S1.out.2.1 S1.out.2.2.1 S1.out.2.2.2.1).mono ?_; rintro er u' w'' ⟨rfl, rfl, y0, y1, y2, yb⟩; have t0_ := blk_cell y0 0; have t1_ := blk_cell y1 0; have t2_ := blk_cell y2 0
    simp [Leaves, settle, results, Tryd.results77, go_sem, t0_, t1_, t2_]
    first | exact ⟨Kd.R_nil _ _ _ _ _, S1.out.2.2.2.2.1.trans yb⟩ | exact ⟨_, ⟨rfl, Kd.R_nil _ _ _ _ _⟩, S1.out.2.2.2.2.1.trans yb⟩
  subst h3
  rw [if_pos rfl] at h
  by_cases hm : 0 < g1 ∧ g1 ≤ 200
  case neg =>
    rw [if_neg hm] at h
    simp only [Option.some.injEq, Prod.mk.injEq] at h
    obtain ⟨rfl, rfl, rfl⟩ := h
    by_cases h4 : 0 < g1
    · have h5 : decide (g1 ≤ 200) = false := decide_eq_false fun h => hm ⟨h4, h⟩
      go_enter_defers Tryd.func77, Tryd.ntmps77
      go_wp2_with (first | (go_at_call 108; (refine (CSt.num k 1 g1 g2 Z0.out HR.out HC.out HQ.out).mono ?_); rintro er w1 ⟨rfl, hS, hk⟩; have S1 := Aside0.mk hS; clear hS hk) | (go_at_call 109; (refine (code_must.bad _).mono ?_); rintro er w2 ⟨rfl, rfl⟩))
      refine leaves_cons (f := 107) (args := #[.pointer (some ⟨w.heap.size, 0, none⟩), .pointer (some ⟨w.heap.size + 1, 0, none⟩), .pointer (some ⟨w.heap.size + 1 + 1, 0, none⟩)]) (by simp) (by simp [go_sem]) ?_; refine (code_Read.caught w.heap.size 40 _ _ _ [] _ S1.out.2.1 S1.out.2.2.1 S1.out.2.2.2.1).mono ?_; rintro er u' w'' ⟨rfl, rfl, y0, y1, y2, yb⟩; have t0_ := blk_cell y0 0; have t1_ := blk_cell y1 0; have t2_ := blk_cell y2 0
      simp [Leaves, settle, results, Tryd.results77, go_sem, t0_, t1_, t2_]
      first | exact ⟨Kd.R_nil _ _ _ _ _, S1.out.2.2.2.2.1.trans yb⟩ | exact ⟨_, ⟨rfl, Kd.R_nil _ _ _ _ _⟩, S1.out.2.2.2.2.1.trans yb⟩
    · go_enter_defers Tryd.func77, Tryd.ntmps77
      go_wp2_with (first | (go_at_call 108; (refine (CSt.num k 1 g1 g2 Z0.out HR.out HC.out HQ.out).mono ?_); rintro er w1 ⟨rfl, hS, hk⟩; have S1 := Aside0.mk hS; clear hS hk) | (go_at_call 109; (refine (code_must.bad _).mono ?_); rintro er w2 ⟨rfl, rfl⟩))
      refine leaves_cons (f := 107) (args := #[.pointer (some ⟨w.heap.size, 0, none⟩), .pointer (some ⟨w.heap.size + 1, 0, none⟩), .pointer (some ⟨w.heap.size + 1 + 1, 0, none⟩)]) (by simp) (by simp [go_sem]) ?_; refine (code_Read.caught w.heap.size 40 _ _ _ [] _ S1.out.2.1 S1.out.2.2.1 S1.out.2.2.2.1).mono ?_; rintro er u' w'' ⟨rfl, rfl, y0, y1, y2, yb⟩; have t0_ := blk_cell y0 0; have t1_ := blk_cell y1 0; have t2_ := blk_cell y2 0
      simp [Leaves, settle, results, Tryd.results77, go_sem, t0_, t1_, t2_]
      first | exact ⟨Kd.R_nil _ _ _ _ _, S1.out.2.2.2.2.1.trans yb⟩ | exact ⟨_, ⟨rfl, Kd.R_nil _ _ _ _ _⟩, S1.out.2.2.2.2.1.trans yb⟩
  rw [if_pos hm] at h
  obtain ⟨hm1, hm2⟩ := hm; have HH := Aside0.mk h; clear h
  go_enter_defers Tryd.func77, Tryd.ntmps77
  go_wp2_with (first | ((fail_if_success (have h_ := S1)); go_at_call 108; (refine (CSt.num k 1 g1 g2 Z0.out HR.out HC.out HQ.out).mono ?_); rintro er w1 ⟨rfl, hS, hk⟩; have S1 := Aside0.mk hS; clear hS hk) | (go_at_call 109; (refine (code_must.ok _).mono ?_); rintro er w2 ⟨rfl, rfl⟩))
  go_loopw [25] (fun u wr => ∃ (i : Nat) (a : Int) (acc : List S75) (v : Value), u = .int .i64 (i : Int) ∧ i ≤ g1.toNat ∧ Aside0 (code_Read.l0 k l0 (g1.toNat - i) a acc = some (r1, r2, r3)) ∧ Aside0 (CSt w wr A0 l0.length c0 a v acc))
    (fun u _ => g1.toNat - (intOf u).toNat)
  case atStart => exact ⟨0, g2, [], _, rfl, Nat.zero_le _, HH, S1⟩
  case round =>
    obtain ⟨i, a, acc, v, rfl, hi, HL, HS⟩ := hrel; obtain ⟨Av, cv, rfl⟩ := Kd.R_slice HS.out.2.2.2.2.2
    by_cases hlt : (i : Int) < g1
    · have hl := HL.out
      rw [show g1.toNat - i = (g1.toNat - (i + 1)) + 1 by omega, code_Read.l0] at hl; obtain ⟨⟨x1, x2, x3⟩, hx, hl⟩ := Option.bind_eq_some_iff.mp hl; dsimp only at hl; have HX := Aside0.mk hx; clear hx HL
      by_cases e3 : x3 = 0
      case neg =>
        rw [if_neg e3] at hl; simp only [Option.some.injEq, Prod.mk.injEq] at hl; obtain ⟨rfl, rfl, rfl⟩ := hl
        go_wp2_with (first | ((fail_if_success (have h_ := M1)); go_at_call 108; (refine (CSt.bad k 1 x1 x2 x3 HS.out HR.out HC.out e3 HX.out).mono ?_); rintro er w1 ⟨rfl, hS⟩; have S1 := Aside0.mk hS; clear hS))
        refine leaves_cons (f := 107) (args := #[.pointer (some ⟨w.heap.size, 0, none⟩), .pointer (some ⟨w.heap.size + 1, 0, none⟩), .pointer (some ⟨w.heap.size + 1 + 1, 0, none⟩)]) (by simp) (by simp [go_sem]) ?_; refine (code_Read.caught w.heap.size x3 _ _ _ [] _ S1.out.2.1 S1.out.2.2.1 S1.out.2.2.2.1).mono ?_; rintro er u' w'' ⟨rfl, rfl, y0, y1, y2, yb⟩; have t0_ := blk_cell y0 0; have t1_ := blk_cell y1 0; have t2_ := blk_cell y2 0
        simp [Leaves, settle, results, Tryd.results77, go_sem, t0_, t1_, t2_]
        first | exact ⟨Kd.R_nil _ _ _ _ _, S1.out.2.2.2.2.1.trans yb⟩ | exact ⟨_, ⟨rfl, Kd.R_nil _ _ _ _ _⟩, S1.out.2.2.2.2.1.trans yb⟩
      subst e3; rw [if_pos rfl] at hl; obtain ⟨kn, hkn, hl⟩ := Option.bind_eq_some_iff.mp hl; have HKN := Aside0.mk hkn; clear hkn
      cases kn with
      | false =>
        rw [if_neg (by decide)] at hl; simp only [Option.some.injEq, Prod.mk.injEq] at hl; obtain ⟨rfl, rfl, rfl⟩ := hl
        go_wp2_with (first | ((fail_if_success (have h_ := M1)); go_at_call 108; (refine (CSt.num k 1 x1 x2 HS.out HR.out HC.out HX.out).mono ?_); rintro er w1 ⟨rfl, hS, hk⟩; have P1 := Aside0.mk (CSp.new hS (x1 % 256)); have M1 := True.intro; clear hS hk) | (go_at_call 110; (refine (op_Known.calls (x1 % 256) false _ HKN.out).mono ?_); rintro er w2 ⟨rfl, ⟨nd, rfl⟩⟩; have P2 := Aside0.mk (P1.out.below (pw_below_drewN (Below.refl _ _) nd)); have q20 := blk_cell P2.out.2.2.1 0) | ((fail_if_success (have h_ := M2)); go_at_call 109; (refine (code_must.bad _).mono ?_); rintro er w_ ⟨rfl, rfl⟩; have M2 := True.intro))
        refine leaves_cons (f := 107) (args := #[.pointer (some ⟨w.heap.size, 0, none⟩), .pointer (some ⟨w.heap.size + 1, 0, none⟩), .pointer (some ⟨w.heap.size + 1 + 1, 0, none⟩)]) (by simp) (by simp [go_sem]) ?_; refine (code_Read.caught w.heap.size 40 _ _ _ [] _ P2.out.1.2.1 P2.out.1.2.2.1 P2.out.1.2.2.2.1).mono ?_; rintro er u' w'' ⟨rfl, rfl, y0, y1, y2, yb⟩; have t0_ := blk_cell y0 0; have t1_ := blk_cell y1 0; have t2_ := blk_cell y2 0
        simp [Leaves, settle, results, Tryd.results77, go_sem, t0_, t1_, t2_]
        first | exact ⟨Kd.R_nil _ _ _ _ _, P2.out.1.2.2.2.2.1.trans yb⟩ | exact ⟨_, ⟨rfl, Kd.R_nil _ _ _ _ _⟩, P2.out.1.2.2.2.2.1.trans yb⟩
      | true =>
        rw [if_pos rfl] at hl; obtain ⟨wd, hwd, hl⟩ := Option.bind_eq_some_iff.mp hl; have HW := Aside0.mk hwd; clear hwd
        cases wd with
        | true =>
          rw [if_pos rfl] at hl; obtain ⟨⟨y1, y2, y3⟩, hy, hl⟩ := Option.bind_eq_some_iff.mp hl; dsimp only at hl; have HY := Aside0.mk hy; clear hy
          by_cases e5 : y3 = 0
          case neg =>
            rw [if_neg e5] at hl; simp only [Option.some.injEq, Prod.mk.injEq] at hl; obtain ⟨rfl, rfl, rfl⟩ := hl
            go_wp2_with (first | ((fail_if_success (have h_ := M1)); go_at_call 108; (refine (CSt.num k 1 x1 x2 HS.out HR.out HC.out HX.out).mono ?_); rintro er w1 ⟨rfl, hS, hk⟩; have P1 := Aside0.mk (CSp.new hS (x1 % 256)); have M1 := True.intro; clear hS hk) | (go_at_call 110; (refine (op_Known.calls (x1 % 256) true _ HKN.out).mono ?_); rintro er w2 ⟨rfl, ⟨nd, rfl⟩⟩; have P2 := Aside0.mk (P1.out.below (pw_below_drewN (Below.refl _ _) nd)); have q20 := blk_cell P2.out.2.2.1 0) | ((fail_if_success (have h_ := M2)); go_at_call 109; (refine (code_must.ok _).mono ?_); rintro er w_ ⟨rfl, rfl⟩; have M2 := True.intro) | (go_at_call 62; (refine (code_wide.calls k (x1 % 256) true _ (Gl.below HG.out P2.out.1.2.2.2.2.1) HW.out).mono ?_); rintro er w4 ⟨rfl, hb⟩; have P4 := Aside0.mk (P2.out.below hb); have q40 := blk_cell P4.out.2.2.1 0; have q41 := blk_cell P4.out.2.2.1 1; have q42 := blk_cell P4.out.2.2.1 2; clear hb) | ((fail_if_success (have h_ := M5)); go_at_call 108; (refine (CSt.bad k 2 y1 y2 y3 P4.out.1 HR.out HC.out e5 HY.out).mono ?_); rintro er w5 ⟨rfl, hS⟩; have S5 := Aside0.mk hS; clear hS))
            refine leaves_cons (f := 107) (args := #[.pointer (some ⟨w.heap.size, 0, none⟩), .pointer (some ⟨w.heap.size + 1, 0, none⟩), .pointer (some ⟨w.heap.size + 1 + 1, 0, none⟩)]) (by simp) (by simp [go_sem]) ?_; refine (code_Read.caught w.heap.size y3 _ _ _ [] _ S5.out.2.1 S5.out.2.2.1 S5.out.2.2.2.1).mono ?_; rintro er u' w'' ⟨rfl, rfl, y0, y1, y2, yb⟩; have t0_ := blk_cell y0 0; have t1_ := blk_cell y1 0; have t2_ := blk_cell y2 0
            simp [Leaves, settle, results, Tryd.results77, go_sem, t0_, t1_, t2_]
            first | exact ⟨Kd.R_nil _ _ _ _ _, S5.out.2.2.2.2.1.trans yb⟩ | exact ⟨_, ⟨rfl, Kd.R_nil _ _ _ _ _⟩, S5.out.2.2.2.2.1.trans yb⟩
          subst e5; rw [if_pos rfl] at hl; obtain ⟨my, hmy, hl⟩ := Option.bind_eq_some_iff.mp hl; have HMY := Aside0.mk hmy; clear hmy
          cases my with
          | false =>
            rw [if_neg (by decide)] at hl; simp only [Option.some.injEq, Prod.mk.injEq] at hl; obtain ⟨rfl, rfl, rfl⟩ := hl
            go_wp2_with (first | ((fail_if_success (have h_ := M1)); go_at_call 108; (refine (CSt.num k 1 x1 x2 HS.out HR.out HC.out HX.out).mono ?_); rintro er w1 ⟨rfl, hS, hk⟩; have P1 := Aside0.mk (CSp.new hS (x1 % 256)); have M1 := True.intro; clear hS hk) | (go_at_call 110; (refine (op_Known.calls (x1 % 256) true _ HKN.out).mono ?_); rintro er w2 ⟨rfl, ⟨nd, rfl⟩⟩; have P2 := Aside0.mk (P1.out.below (pw_below_drewN (Below.refl _ _) nd)); have q20 := blk_cell P2.out.2.2.1 0) | ((fail_if_success (have h_ := M2)); go_at_call 109; (refine (code_must.ok _).mono ?_); rintro er w_ ⟨rfl, rfl⟩; have M2 := True.intro) | (go_at_call 62; (refine (code_wide.calls k (x1 % 256) true _ (Gl.below HG.out P2.out.1.2.2.2.2.1) HW.out).mono ?_); rintro er w4 ⟨rfl, hb⟩; have P4 := Aside0.mk (P2.out.below hb); have q40 := blk_cell P4.out.2.2.1 0; have q41 := blk_cell P4.out.2.2.1 1; have q42 := blk_cell P4.out.2.2.1 2; clear hb) | ((fail_if_success (have h_ := M5)); go_at_call 108; (refine (CSp.num k 2 y1 y2 P4.out HR.out HC.out HY.out).mono ?_); rintro er w5 ⟨rfl, hS⟩; have s51 := blk_cell hS.2.2.1 1; have z51 := blk_frozen hS.2.2.1 1; have P5 := Aside0.mk (hS.put y1); have q50 := blk_cell P5.out.2.2.1 0; have q51 := blk_cell P5.out.2.2.1 1; have q52 := blk_cell P5.out.2.2.1 2; have M5 := True.intro; clear hS) | (go_at_call 98; (refine (op_May.calls k (x1 % 256) y1 0 false _ (Gl.below HG.out P5.out.1.2.2.2.2.1) HMY.out).mono ?_); rintro er w6 ⟨rfl, hb⟩; have P6 := Aside0.mk (P5.out.below hb); have n60 := blk_cell P6.out.1.2.1 0; have q60 := blk_cell P6.out.2.2.1 0; have q61 := blk_cell P6.out.2.2.1 1; have q62 := blk_cell P6.out.2.2.1 2; clear hb) | ((fail_if_success (have h_ := M7)); go_at_call 109; (refine (code_must.bad _).mono ?_); rintro er w_ ⟨rfl, rfl⟩; have M7 := True.intro))
            refine leaves_cons (f := 107) (args := #[.pointer (some ⟨w.heap.size, 0, none⟩), .pointer (some ⟨w.heap.size + 1, 0, none⟩), .pointer (some ⟨w.heap.size + 1 + 1, 0, none⟩)]) (by simp) (by simp [go_sem]) ?_; refine (code_Read.caught w.heap.size 40 _ _ _ [] _ P6.out.1.2.1 P6.out.1.2.2.1 P6.out.1.2.2.2.1).mono ?_; rintro er u' w'' ⟨rfl, rfl, y0, y1, y2, yb⟩; have t0_ := blk_cell y0 0; have t1_ := blk_cell y1 0; have t2_ := blk_cell y2 0
            simp [Leaves, settle, results, Tryd.results77, go_sem, t0_, t1_, t2_]
            first | exact ⟨Kd.R_nil _ _ _ _ _, P6.out.1.2.2.2.2.1.trans yb⟩ | exact ⟨_, ⟨rfl, Kd.R_nil _ _ _ _ _⟩, P6.out.1.2.2.2.2.1.trans yb⟩
          | true =>
            rw [if_pos rfl] at hl
            by_cases hla : acc.length < 1000
            case neg => rw [if_neg hla] at hl; cases hl
            rw [if_pos hla] at hl; have HN := Aside0.mk hl; clear hl
            go_wp2_with (first | ((fail_if_success (have h_ := M1)); go_at_call 108; (refine (CSt.num k 1 x1 x2 HS.out HR.out HC.out HX.out).mono ?_); rintro er w1 ⟨rfl, hS, hk⟩; have P1 := Aside0.mk (CSp.new hS (x1 % 256)); have M1 := True.intro; clear hS hk) | (go_at_call 110; (refine (op_Known.calls (x1 % 256) true _ HKN.out).mono ?_); rintro er w2 ⟨rfl, ⟨nd, rfl⟩⟩; have P2 := Aside0.mk (P1.out.below (pw_below_drewN (Below.refl _ _) nd)); have q20 := blk_cell P2.out.2.2.1 0) | ((fail_if_success (have h_ := M2)); go_at_call 109; (refine (code_must.ok _).mono ?_); rintro er w_ ⟨rfl, rfl⟩; have M2 := True.intro) | (go_at_call 62; (refine (code_wide.calls k (x1 % 256) true _ (Gl.below HG.out P2.out.1.2.2.2.2.1) HW.out).mono ?_); rintro er w4 ⟨rfl, hb⟩; have P4 := Aside0.mk (P2.out.below hb); have q40 := blk_cell P4.out.2.2.1 0; have q41 := blk_cell P4.out.2.2.1 1; have q42 := blk_cell P4.out.2.2.1 2; clear hb) | ((fail_if_success (have h_ := M5)); go_at_call 108; (refine (CSp.num k 2 y1 y2 P4.out HR.out HC.out HY.out).mono ?_); rintro er w5 ⟨rfl, hS⟩; have s51 := blk_cell hS.2.2.1 1; have z51 := blk_frozen hS.2.2.1 1; have P5 := Aside0.mk (hS.put y1); have q50 := blk_cell P5.out.2.2.1 0; have q51 := blk_cell P5.out.2.2.1 1; have q52 := blk_cell P5.out.2.2.1 2; have M5 := True.intro; clear hS) | (go_at_call 98; (refine (op_May.calls k (x1 % 256) y1 0 true _ (Gl.below HG.out P5.out.1.2.2.2.2.1) HMY.out).mono ?_); rintro er w6 ⟨rfl, hb⟩; have P6 := Aside0.mk (P5.out.below hb); have n60 := blk_cell P6.out.1.2.1 0; have q60 := blk_cell P6.out.2.2.1 0; have q61 := blk_cell P6.out.2.2.1 1; have q62 := blk_cell P6.out.2.2.1 2; clear hb) | ((fail_if_success (have h_ := M7)); go_at_call 109; (refine (code_must.ok _).mono ?_); rintro er w_ ⟨rfl, rfl⟩; have M7 := True.intro) | ((with_reducible refine gate_builtin (b := .append) (xs := #[.tmp 44, .tmp 46]) rfl ?_); at_builtin; refine Kd.R_append k75 (w0 := w) w.heap.size rfl (.tmp 44) (.tmp 46) 45 75 (.agg #[(.int .u8 0), (.int .i64 0), (.int .i64 0)]) 24 rfl Tryd.underlying45 info75 rfl (by decide) (by omega) (.slice Av acc.length cv) acc (⟨x1 % 256, y1, 0⟩ : S75) [.int .u8 (x1 % 256), .int .i64 y1, .int .i64 0] (fun k => k ≠ w.heap.size ∧ k ≠ w.heap.size + 1 ∧ k ≠ w.heap.size + 1 + 1 ∧ k ≠ w.heap.size + 1 + 1 + 1) (fun _ => False) rfl (by first | (go_simp; done) | (go_simp; rfl)) ?aP (fun _ hk => hk.elim) ?aF P6.out.1.2.2.2.2.2 P6.out.1.2.2.2.2.1 P6.out.1.2.2.2.2.1.size ?aL ?_; (case aP => exact k75_mkM _ _ _ (⟨x1 % 256, y1, 0⟩ : S75)); (case aF => exact fun k_ hk => by have h1_ := P6.out.2.2.2; have h2_ := blk_lt P6.out.2.2.1; refine ⟨by omega, by omega, by omega, by omega⟩); (case aL => omega); intro v9 w9 ho hb9 hg hat; obtain ⟨A9, c9, rfl⟩ := Kd.R_slice ho; rw [List.length_append, List.length_singleton] at ho; have hN := blk_grown P6.out.1.2.1 hg (fun e => (P6.out.1.2.2.2.2.2.1 _ e.symm).1 rfl); have n90 := blk_cell hN 0; have z90 := blk_frozen hN 0; have S9 := Aside0.mk (CSt.app P6.out.1 hg hb9 ho); clear hN ho hb9 hg hat))
            go_roundw
            case rel => exact ⟨i + 1, y2, acc ++ [⟨x1 % 256, y1, 0⟩], .slice A9 (acc.length + 1) c9, by first | rfl | (rw [← hw]; done) | simp [hw], by omega, HN, S9⟩
            case measure => simp [intOf]; omega
        | false =>
          rw [if_neg (by decide)] at hl; obtain ⟨my, hmy, hl⟩ := Option.bind_eq_some_iff.mp hl; have HMY := Aside0.mk hmy; clear hmy
          cases my with
          | false =>
            rw [if_neg (by decide)] at hl; simp only [Option.some.injEq, Prod.mk.injEq] at hl; obtain ⟨rfl, rfl, rfl⟩ := hl
            go_wp2_with (first | ((fail_if_success (have h_ := M1)); go_at_call 108; (refine (CSt.num k 1 x1 x2 HS.out HR.out HC.out HX.out).mono ?_); rintro er w1 ⟨rfl, hS, hk⟩; have P1 := Aside0.mk (CSp.new hS (x1 % 256)); have M1 := True.intro; clear hS hk) | (go_at_call 110; (refine (op_Known.calls (x1 % 256) true _ HKN.out).mono ?_); rintro er w2 ⟨rfl, ⟨nd, rfl⟩⟩; have P2 := Aside0.mk (P1.out.below (pw_below_drewN (Below.refl _ _) nd)); have q20 := blk_cell P2.out.2.2.1 0) | ((fail_if_success (have h_ := M2)); go_at_call 109; (refine (code_must.ok _).mono ?_); rintro er w_ ⟨rfl, rfl⟩; have M2 := True.intro) | (go_at_call 62; (refine (code_wide.calls k (x1 % 256) false _ (Gl.below HG.out P2.out.1.2.2.2.2.1) HW.out).mono ?_); rintro er w4 ⟨rfl, hb⟩; have P4 := Aside0.mk (P2.out.below hb); have q40 := blk_cell P4.out.2.2.1 0; have q41 := blk_cell P4.out.2.2.1 1; have q42 := blk_cell P4.out.2.2.1 2; clear hb) | (go_at_call 98; (refine (op_May.calls k (x1 % 256) 0 0 false _ (Gl.below HG.out P4.out.1.2.2.2.2.1) HMY.out).mono ?_); rintro er w6 ⟨rfl, hb⟩; have P6 := Aside0.mk (P4.out.below hb); have n60 := blk_cell P6.out.1.2.1 0; have q60 := blk_cell P6.out.2.2.1 0; have q61 := blk_cell P6.out.2.2.1 1; have q62 := blk_cell P6.out.2.2.1 2; clear hb) | ((fail_if_success (have h_ := M7)); go_at_call 109; (refine (code_must.bad _).mono ?_); rintro er w_ ⟨rfl, rfl⟩; have M7 := True.intro))
            refine leaves_cons (f := 107) (args := #[.pointer (some ⟨w.heap.size, 0, none⟩), .pointer (some ⟨w.heap.size + 1, 0, none⟩), .pointer (some ⟨w.heap.size + 1 + 1, 0, none⟩)]) (by simp) (by simp [go_sem]) ?_; refine (code_Read.caught w.heap.size 40 _ _ _ [] _ P6.out.1.2.1 P6.out.1.2.2.1 P6.out.1.2.2.2.1).mono ?_; rintro er u' w'' ⟨rfl, rfl, y0, y1, y2, yb⟩; have t0_ := blk_cell y0 0; have t1_ := blk_cell y1 0; have t2_ := blk_cell y2 0
            simp [Leaves, settle, results, Tryd.results77, go_sem, t0_, t1_, t2_]
            first | exact ⟨Kd.R_nil _ _ _ _ _, P6.out.1.2.2.2.2.1.trans yb⟩ | exact ⟨_, ⟨rfl, Kd.R_nil _ _ _ _ _⟩, P6.out.1.2.2.2.2.1.trans yb⟩
          | true =>
            rw [if_pos rfl] at hl
            by_cases hla : acc.length < 1000
            case neg => rw [if_neg hla] at hl; cases hl
            rw [if_pos hla] at hl; have HN := Aside0.mk hl; clear hl
            go_wp2_with (first | ((fail_if_success (have h_ := M1)); go_at_call 108; (refine (CSt.num k 1 x1 x2 HS.out HR.out HC.out HX.out).mono ?_); rintro er w1 ⟨rfl, hS, hk⟩; have P1 := Aside0.mk (CSp.new hS (x1 % 256)); have M1 := True.intro; clear hS hk) | (go_at_call 110; (refine (op_Known.calls (x1 % 256) true _ HKN.out).mono ?_); rintro er w2 ⟨rfl, ⟨nd, rfl⟩⟩; have P2 := Aside0.mk (P1.out.below (pw_below_drewN (Below.refl _ _) nd)); have q20 := blk_cell P2.out.2.2.1 0) | ((fail_if_success (have h_ := M2)); go_at_call 109; (refine (code_must.ok _).mono ?_); rintro er w_ ⟨rfl, rfl⟩; have M2 := True.intro) | (go_at_call 62; (refine (code_wide.calls k (x1 % 256) false _ (Gl.below HG.out P2.out.1.2.2.2.2.1) HW.out).mono ?_); rintro er w4 ⟨rfl, hb⟩; have P4 := Aside0.mk (P2.out.below hb); have q40 := blk_cell P4.out.2.2.1 0; have q41 := blk_cell P4.out.2.2.1 1; have q42 := blk_cell P4.out.2.2.1 2; clear hb) | (go_at_call 98; (refine (op_May.calls k (x1 % 256) 0 0 true _ (Gl.below HG.out P4.out.1.2.2.2.2.1) HMY.out).mono ?_); rintro er w6 ⟨rfl, hb⟩; have P6 := Aside0.mk (P4.out.below hb); have n60 := blk_cell P6.out.1.2.1 0; have q60 := blk_cell P6.out.2.2.1 0; have q61 := blk_cell P6.out.2.2.1 1; have q62 := blk_cell P6.out.2.2.1 2; clear hb) | ((fail_if_success (have h_ := M7)); go_at_call 109; (refine (code_must.ok _).mono ?_); rintro er w_ ⟨rfl, rfl⟩; have M7 := True.intro) | ((with_reducible refine gate_builtin (b := .append) (xs := #[.tmp 44, .tmp 46]) rfl ?_); at_builtin; refine Kd.R_append k75 (w0 := w) w.heap.size rfl (.tmp 44) (.tmp 46) 45 75 (.agg #[(.int .u8 0), (.int .i64 0), (.int .i64 0)]) 24 rfl Tryd.underlying45 info75 rfl (by decide) (by omega) (.slice Av acc.length cv) acc (⟨x1 % 256, 0, 0⟩ : S75) [.int .u8 (x1 % 256), .int .i64 0, .int .i64 0] (fun k => k ≠ w.heap.size ∧ k ≠ w.heap.size + 1 ∧ k ≠ w.heap.size + 1 + 1 ∧ k ≠ w.heap.size + 1 + 1 + 1) (fun _ => False) rfl (by first | (go_simp; done) | (go_simp; rfl)) ?aP (fun _ hk => hk.elim) ?aF P6.out.1.2.2.2.2.2 P6.out.1.2.2.2.2.1 P6.out.1.2.2.2.2.1.size ?aL ?_; (case aP => exact k75_mkM _ _ _ (⟨x1 % 256, 0, 0⟩ : S75)); (case aF => exact fun k_ hk => by have h1_ := P6.out.2.2.2; have h2_ := blk_lt P6.out.2.2.1; refine ⟨by omega, by omega, by omega, by omega⟩); (case aL => omega); intro v9 w9 ho hb9 hg hat; obtain ⟨A9, c9, rfl⟩ := Kd.R_slice ho; rw [List.length_append, List.length_singleton] at ho; have hN := blk_grown P6.out.1.2.1 hg (fun e => (P6.out.1.2.2.2.2.2.1 _ e.symm).1 rfl); have n90 := blk_cell hN 0; have z90 := blk_frozen hN 0; have S9 := Aside0.mk (CSt.app P6.out.1 hg hb9 ho); clear hN ho hb9 hg hat))
            go_roundw
            case rel => exact ⟨i + 1, x2, acc ++ [⟨x1 % 256, 0, 0⟩], .slice A9 (acc.length + 1) c9, by first | rfl | (rw [← hw]; done) | simp [hw], by omega, HN, S9⟩
            case measure => simp [intOf]; omega
    · have hl := HL.out
      rw [show g1.toNat - i = 0 by omega, code_Read.l0] at hl; simp only [Option.some.injEq, Prod.mk.injEq] at hl; obtain ⟨rfl, rfl, rfl⟩ := hl; have c0_ := blk_cell HS.out.2.1 0; have c1_ := blk_cell HS.out.2.2.1 0; have c2_ := blk_cell HS.out.2.2.2.1 0; have c3_ := blk_cell HS.out.1 1; have f0_ := blk_frozen HS.out.2.1 0; have f1_ := blk_frozen HS.out.2.2.1 0; have f2_ := blk_frozen HS.out.2.2.2.1 0; go_wp2; refine Code.wp_mono (Q := fun e a w => match e with | .panic _ => False | e => Exit.then _ _ e a w) (fun e a w h => by cases e <;> first | exact h | exact h.elim) ?_
      go_region_with (fail)
      all_goals
        go_wp2; refine leaves_cons (f := 107) (args := #[.pointer (some ⟨w.heap.size, 0, none⟩), .pointer (some ⟨w.heap.size + 1, 0, none⟩), .pointer (some ⟨w.heap.size + 1 + 1, 0, none⟩)]) (by simp) (by simp [go_sem]) ?_; refine (code_Read.idle _ _ _ _).mono ?_; rintro er u' w'' ⟨rfl, rfl, rfl⟩; have z0 := blk_far (blk_far (blk_put HS.out.2.1 0 (.slice Av acc.length cv) rfl) (p := ⟨w.heap.size + 1, 0, none⟩) (by show w.heap.size ≠ w.heap.size + 1; omega) (.int .i64 a)) (p := ⟨w.heap.size + 1 + 1, 0, none⟩) (by show w.heap.size ≠ w.heap.size + 1 + 1; omega) (.int .i64 0); have z1 := blk_far (blk_put (blk_far HS.out.2.2.1 (p := ⟨w.heap.size, 0, none⟩) (by show w.heap.size + 1 ≠ w.heap.size; omega) (.slice Av acc.length cv)) 0 (.int .i64 a) rfl) (p := ⟨w.heap.size + 1 + 1, 0, none⟩) (by show w.heap.size + 1 ≠ w.heap.size + 1 + 1; omega) (.int .i64 0); have z2 := blk_put (blk_far (blk_far HS.out.2.2.2.1 (p := ⟨w.heap.size, 0, none⟩) (by show w.heap.size + 1 + 1 ≠ w.heap.size; omega) (.slice Av acc.length cv)) (p := ⟨w.heap.size + 1, 0, none⟩) (by show w.heap.size + 1 + 1 ≠ w.heap.size + 1; omega) (.int .i64 a)) 0 (.int .i64 0) rfl; have t0_ := blk_cell z0 0; have t1_ := blk_cell z1 0; have t2_ := blk_cell z2 0; have FR := Aside0.mk (Kd.R_mono (Kd.R_far (p := ⟨w.heap.size + 1 + 1, 0, none⟩) (Kd.R_far (p := ⟨w.heap.size + 1, 0, none⟩) (Kd.R_far (p := ⟨w.heap.size, 0, none⟩) HS.out.2.2.2.2.2 (fun _ h => h.1) (.slice Av acc.length cv)) (fun _ h => h.2.1) (.int .i64 a)) (fun _ h => h.2.2.1) (.int .i64 0)) (fun _ _ => trivial) (ok' := fun _ => True))
        have FB := Aside0.mk (((HS.out.2.2.2.2.1.setCell (p := ⟨w.heap.size, 0, none⟩) (Nat.le_refl _) (.slice Av acc.length cv)).setCell (p := ⟨w.heap.size + 1, 0, none⟩) (by show w.heap.size ≤ w.heap.size + 1; omega) (.int .i64 a)).setCell (p := ⟨w.heap.size + 1 + 1, 0, none⟩) (by show w.heap.size ≤ w.heap.size + 1 + 1; omega) (.int .i64 0))
        simp [Leaves, settle, results, Tryd.results77, go_sem, t0_, t1_, t2_]
        first | exact ⟨_, rfl, Kd.R_drew FR.out, below_drew FB.out⟩ | exact ⟨_, ⟨rfl, Kd.R_drew FR.out⟩, below_drew FB.out⟩ | exact ⟨Kd.R_drew FR.out, below_drew FB.out⟩

/-! ### module_one: function 37 -/
def module_one.f (k : Nat) (l0 : List Int) (a1 : Int) : Option (List Int × List Int × Int × Bool × Int × Int × Int × List S75 × Int × Int) := (method_Read.f k l0 a1).bind fun m => (if m.2.2.2.2.2.2.2.2.2 = 0 then ((code_Read.f k l0 m.2.2.2.2.2.2.2.2.1).bind fun c => (some (m.1, m.2.1, m.2.2.1, m.2.2.2.1, m.2.2.2.2.1, m.2.2.2.2.2.1, m.2.2.2.2.2.2.1, c.1, c.2.1, c.2.2))) else (some ([], [], 0, false, 0, 0, 0, [], 0, m.2.2.2.2.2.2.2.2.2)))
theorem module_one.mono : ∀ a0 a1 k, LeO (module_one.f k a0 a1) (module_one.f (k + 1) a0 a1) := by
  intro a0 a1 k
  unfold module_one.f
  exact LeO.bind (method_Read.mono _ _ _) fun m => LeO.ite (LeO.bind (code_Read.mono _ _ _) fun c => LeO.refl _) (LeO.refl _)
section mone
set_option maxRecDepth 100000
theorem wp_gen {Pg : Program} {c : Code} {Q : Exit → Act → World → Prop} {a : Act} {W : World} (p : World → Prop) (hp : p W) (h : ∀ W, p W → c.wp Pg Q a W) : c.wp Pg Q a W := h W hp
/-- The two blocks of the reading of a method, and its kinds. -/
structure MO1 (w W : World) (g2 : Nat) (cs : Array Value) (v0 v1 : Value) (x0 x1 : List Int) : Prop where
  b1 : W.heap[w.heap.size]? = some (.cells #[.slice none 0 0, .slice none 0 0, .int .u8 0, .bool false, .int .i64 0, .int .i64 0, .int .i64 0, .slice none 0 0] 47 (0, 0))
  b2 : W.heap[g2]? = some (.cells cs 47 (0, 0))
  lt : w.heap.size < g2
  r0 : Kd.R (Kd.int .u8) 5 W w.heap.size (fun k => some k ≠ v1.ownBlock ∧ w.heap.size < k ∧ k < g2) v0 x0
  r1 : Kd.R (Kd.int .u8) 5 W w.heap.size (fun k => some k ≠ v0.ownBlock ∧ w.heap.size < k ∧ k < g2) v1 x1
  below : Below w.heap.size w W
variable {w W : World} {g2 : Nat} {cs : Array Value} {v0 v1 : Value} {x0 x1 : List Int}
theorem MO1.add (h : MO1 w W g2 cs v0 v1 x0 x1) {W2 : World} (hb : Below W.heap.size W W2) : MO1 w W2 g2 cs v0 v1 x0 x1 := ⟨blk_below h.b1 hb, blk_below h.b2 hb, h.lt, Kd.R_below h.r0 hb, Kd.R_below h.r1 hb, below_step h.below hb⟩
theorem MO1.put (h : MO1 w W g2 cs v0 v1 x0 x1) (j : Nat) (v : Value) : MO1 w (W.setCell ⟨g2, j, none⟩ v) g2 (cs.setIfInBounds j v) v0 v1 x0 x1 := by
  have hk : Kept W (W.setCell ⟨g2, j, none⟩ v) (fun k => k = g2) := (Kept.refl W (fun k => k = g2)).setCell (p := ⟨g2, j, none⟩) (.inl rfl) v; have hlt := h.lt; exact ⟨blk_far h.b1 (p := ⟨g2, j, none⟩) (by show w.heap.size ≠ g2; omega) _, blk_put h.b2 j v rfl, hlt, Kd.R_kept h.r0 hk (fun k ho e => by omega), Kd.R_kept h.r1 hk (fun k ho e => by omega), h.below.setCell (p := ⟨g2, j, none⟩) (by show w.heap.size ≤ g2; omega) v⟩
theorem MO1.new {W1 w2 w3 : World} (hb1 : W1.heap[w.heap.size]? = some (.cells #[.slice none 0 0, .slice none 0 0, .int .u8 0, .bool false, .int .i64 0, .int .i64 0, .int .i64 0, .slice none 0 0] 47 (0, 0))) (hB : Below w.heap.size w W1) (ho0 : Kd.R (Kd.int .u8) 5 w2 W1.heap.size (fun k => some k ≠ v1.ownBlock) v0 x0) (ho1 : Kd.R (Kd.int .u8) 5 w2 W1.heap.size (fun k => some k ≠ v0.ownBlock) v1 x1) (hb : Below W1.heap.size W1 w2) (hb3 : Below w2.heap.size w2 w3) (hbox : w3.heap[w2.heap.size]? = some (.cells cs 47 (0, 0))) : MO1 w w3 w2.heap.size cs v0 v1 x0 x1 := by
  have hl := blk_lt hb1; have hs := hb.size; exact ⟨blk_below (blk_below hb1 hb) hb3, hbox, by omega, Kd.R_below (Kd.R_lower (Kd.R_mono (Kd.R_bound ho0) (fun k hk => ⟨hk.1, by have := hk.2.1; omega, hk.2.2.1⟩)) hB.size) hb3, Kd.R_below (Kd.R_lower (Kd.R_mono (Kd.R_bound ho1) (fun k hk => ⟨hk.1, by have := hk.2.1; omega, hk.2.2.1⟩)) hB.size) hb3, below_step (below_step hB hb) hb3⟩
/-- The result's block filled: its cells, and the rows as they were. -/
theorem mone_fill {t : List S75} {v7 : Value} (h : MO1 w W g2 cs v0 v1 x0 x1) (ho : Kd.R k75 75 W w.heap.size (fun k => g2 < k) v7 t) (a0 a1 a2 a3 a4 a5 a6 a7 : Value) :
    ((((((((W.setCell ⟨w.heap.size, 0, none⟩ a0).setCell ⟨w.heap.size, 1, none⟩ a1).setCell ⟨w.heap.size, 2, none⟩ a2).setCell ⟨w.heap.size, 3, none⟩ a3).setCell ⟨w.heap.size, 4, none⟩ a4).setCell ⟨w.heap.size, 5, none⟩ a5).setCell ⟨w.heap.size, 6, none⟩ a6).setCell ⟨w.heap.size, 7, none⟩ a7).heap[w.heap.size]? = some (.cells #[a0, a1, a2, a3, a4, a5, a6, a7] 47 (0, 0)) ∧
    Kept W ((((((((W.setCell ⟨w.heap.size, 0, none⟩ a0).setCell ⟨w.heap.size, 1, none⟩ a1).setCell ⟨w.heap.size, 2, none⟩ a2).setCell ⟨w.heap.size, 3, none⟩ a3).setCell ⟨w.heap.size, 4, none⟩ a4).setCell ⟨w.heap.size, 5, none⟩ a5).setCell ⟨w.heap.size, 6, none⟩ a6).setCell ⟨w.heap.size, 7, none⟩ a7) (fun k => k = w.heap.size) ∧
    Below w.heap.size w ((((((((W.setCell ⟨w.heap.size, 0, none⟩ a0).setCell ⟨w.heap.size, 1, none⟩ a1).setCell ⟨w.heap.size, 2, none⟩ a2).setCell ⟨w.heap.size, 3, none⟩ a3).setCell ⟨w.heap.size, 4, none⟩ a4).setCell ⟨w.heap.size, 5, none⟩ a5).setCell ⟨w.heap.size, 6, none⟩ a6).setCell ⟨w.heap.size, 7, none⟩ a7) := by
  refine ⟨?_, ?_, ?_⟩
  · have b := blk_put (blk_put (blk_put (blk_put (blk_put (blk_put (blk_put (blk_put h.b1 0 a0 rfl) 1 a1 rfl) 2 a2 rfl) 3 a3 rfl) 4 a4 rfl) 5 a5 rfl) 6 a6 rfl) 7 a7 rfl
    simp only [List.setIfInBounds_toArray, List.set_cons_zero, List.set_cons_succ] at b; exact b
  · have k := Kept.refl W (fun k => k = w.heap.size)
    exact (((((((k.setCell (p := ⟨w.heap.size, 0, none⟩) (.inl rfl) a0).setCell (p := ⟨w.heap.size, 1, none⟩) (.inl rfl) a1).setCell (p := ⟨w.heap.size, 2, none⟩) (.inl rfl) a2).setCell (p := ⟨w.heap.size, 3, none⟩) (.inl rfl) a3).setCell (p := ⟨w.heap.size, 4, none⟩) (.inl rfl) a4).setCell (p := ⟨w.heap.size, 5, none⟩) (.inl rfl) a5).setCell (p := ⟨w.heap.size, 6, none⟩) (.inl rfl) a6).setCell (p := ⟨w.heap.size, 7, none⟩) (.inl rfl) a7
  · have l := Nat.le_refl w.heap.size
    exact (((((((h.below.setCell (p := ⟨w.heap.size, 0, none⟩) l a0).setCell (p := ⟨w.heap.size, 1, none⟩) l a1).setCell (p := ⟨w.heap.size, 2, none⟩) l a2).setCell (p := ⟨w.heap.size, 3, none⟩) l a3).setCell (p := ⟨w.heap.size, 4, none⟩) l a4).setCell (p := ⟨w.heap.size, 5, none⟩) l a5).setCell (p := ⟨w.heap.size, 6, none⟩) l a6).setCell (p := ⟨w.heap.size, 7, none⟩) l a7
set_option maxHeartbeats 8000000 in
theorem module_one.calls (k : Nat) (A0 : Option Addr) (c0 : Nat) (l0 : List Int) (a1 : Int) (r1 : List Int) (r2 : List Int) (r3 : Int) (r4 : Bool) (r5 : Int) (r6 : Int) (r7 : Int) (r8 : List S75) (r9 : Int) (r10 : Int) (w : World) (hG : Gl w) (hr0 : Kd.C (Kd.int .u8) w A0 l0.length l0) (hc0 : l0.length ≤ c0) (h : module_one.f k l0 a1 = some (r1, r2, r3, r4, r5, r6, r7, r8, r9, r10)) :
    Calls Tryd.prog 37 #[.slice A0 l0.length c0, .int .i64 a1] w fun e w' => ∃ v0_ v1_ v7_ : Value, e = .returned (.tuple #[.agg #[v0_, v1_, .int .u8 r3, .bool r4, .int .i64 r5, .int .i64 r6, .int .i64 r7, v7_], .int .i64 r9, .int .i64 r10]) ∧ Kd.R (Kd.int .u8) 5 w' w.heap.size (fun k_ => some k_ ≠ (v1_ : Value).ownBlock) v0_ r1 ∧ Kd.R (Kd.int .u8) 5 w' w.heap.size (fun k_ => some k_ ≠ (v0_ : Value).ownBlock) v1_ r2 ∧ Kd.R k75 75 w' w.heap.size (fun _ => True) v7_ r8 ∧ Below w.heap.size w w' := by
  have HG := Aside0.mk hG; have HR := Aside0.mk hr0; have HC := Aside0.mk hc0
  unfold module_one.f at h
  obtain ⟨⟨m1, m2, m3, m4, m5, m6, m7, m8, m9, m10⟩, hm, h⟩ := Option.bind_eq_some_iff.mp h
  dsimp only at h
  have HM := Aside0.mk hm; have H := Aside0.mk h; clear hG hr0 hc0 h hm
  go_enter Tryd.func37, Tryd.ntmps37
  go_upto_region 1 with (fail)
  refine wp_gen (fun W => W.heap[w.heap.size]? = some (.cells #[.slice none 0 0, .slice none 0 0, .int .u8 0, .bool false, .int .i64 0, .int .i64 0, .int .i64 0, .slice none 0 0] 47 (0, 0)) ∧ Below w.heap.size w W) ⟨blk_new w _, below_alloc (Below.refl _ _) _⟩ (fun W1 h1 => ?_); have H1 := Aside0.mk h1; clear h1
  go_upto_region 2 with (first | (go_at_call 76; (refine (method_Read.calls k A0 c0 l0 a1 m1 m2 m3 m4 m5 m6 m7 m8 m9 m10 _ (Kd.C_below HR.out H1.out.2) HC.out HM.out).mono ?_); rintro er w2 ⟨u0, u1, u7, rfl, ho0, ho1, ho7, hb⟩; obtain ⟨Aa, ca, rfl⟩ := Kd.R_slice ho0; obtain ⟨Ab, cb, rfl⟩ := Kd.R_slice ho1; obtain ⟨Ac, cc, rfl⟩ := Kd.R_slice ho7; have HO0 := Aside0.mk ho0; have HO1 := Aside0.mk ho1; have HB2 := Aside0.mk hb; clear ho0 ho1 ho7 hb) | ((with_reducible refine gate_dst (N := 7) rfl ?_); refine sq_box (N := 7) (cs := #[.slice none 0 0, .slice none 0 0, .int .u8 0, .bool false, .int .i64 0, .int .i64 0, .int .i64 0, .slice none 0 0]) (t := 47) ?_; rintro g2 rfl w3 hbox hb3; have H3 := Aside0.mk (MO1.new H1.out.1 H1.out.2 HO0.out HO1.out HB2.out hb3 hbox); clear hb3; have hz0 := blk_cell hbox 0; have hz1 := blk_cell hbox 1; have hz2 := blk_cell hbox 2; have hz3 := blk_cell hbox 3; have hz4 := blk_cell hbox 4; have hz5 := blk_cell hbox 5; have hz6 := blk_cell hbox 6; have hz7 := blk_cell hbox 7; have hf0 := blk_frozen hbox 0; have hf1 := blk_frozen hbox 1; have hf2 := blk_frozen hbox 2; have hf3 := blk_frozen hbox 3; have hf4 := blk_frozen hbox 4; have hf5 := blk_frozen hbox 5; have hf6 := blk_frozen hbox 6; have hf7 := blk_frozen hbox 7; clear hbox))
  refine wp_gen (fun W => MO1 w W w2.heap.size #[.slice Aa m1.length ca, .slice Ab m2.length cb, .int .u8 m3, .bool m4, .int .i64 m5, .int .i64 m6, .int .i64 m7, .slice Ac m8.length cc] (.slice Aa m1.length ca) (.slice Ab m2.length cb) m1 m2) (by
    have h := (((((((H3.out.put 0 (.slice Aa m1.length ca)).put 1 (.slice Ab m2.length cb)).put 2 (.int .u8 m3)).put 3 (.bool m4)).put 4 (.int .i64 m5)).put 5 (.int .i64 m6)).put 6 (.int .i64 m7)).put 7 (.slice Ac m8.length cc)
    simp only [List.setIfInBounds_toArray, List.set_cons_zero, List.set_cons_succ] at h
    exact h) (fun W4 h4 => ?_)
  have H4 := Aside0.mk h4; clear h4 H3 HO0 HO1 hz0 hz1 hz2 hz3 hz4 hz5 hz6 hz7 hf0 hf1 hf2 hf3 hf4 hf5 hf6 hf7
  by_cases e10 : m10 = 0
  · subst e10
    have hh := H.out; rw [if_pos rfl] at hh; obtain ⟨⟨t1, t2, t3⟩, hc, hh⟩ := Option.bind_eq_some_iff.mp hh; simp only [Option.some.injEq, Prod.mk.injEq] at hh; obtain ⟨rfl, rfl, rfl, rfl, rfl, rfl, rfl, rfl, rfl, rfl⟩ := hh; have HQ := Aside0.mk hc; clear hc H
    go_upto_region 5 with (go_at_call 77; (refine (code_Read.calls k A0 c0 l0 m9 _ _ _ _ (Gl.below HG.out H4.out.below) (Kd.C_below HR.out H4.out.below) HC.out HQ.out).mono ?_); rintro er w5 ⟨u, rfl, ho, hb⟩; obtain ⟨Ad, cd, rfl⟩ := Kd.R_slice ho; have H5 := Aside0.mk (H4.out.add hb); have HO := Aside0.mk (show Kd.R k75 75 w5 w.heap.size (fun k => w2.heap.size < k) (.slice Ad _ cd) _ from Kd.R_lower (Kd.R_mono (Kd.R_bound ho) (fun k hk => by have := hk.2.1; have := blk_lt H4.out.b2; omega)) H4.out.below.size); have d7 := blk_cell H5.out.b2 7; have f7 := blk_frozen H5.out.b2 7; clear ho hb)
    have hk5 := Aside0.mk (show Kept w5 (w5.setCell ⟨w2.heap.size, 7, none⟩ (.slice Ad t1.length cd)) (fun k => k = w2.heap.size) from (Kept.refl w5 (fun k => k = w2.heap.size)).setCell (p := ⟨w2.heap.size, 7, none⟩) (.inl rfl) _); have H6 := Aside0.mk (H5.out.put 7 (.slice Ad t1.length cd)); have HO6 := Aside0.mk (Kd.R_kept HO.out hk5.out (fun k ho e => by omega)); clear H4 H5 HO hk5 d7 f7
    generalize w5.setCell ⟨w2.heap.size, 7, none⟩ (.slice Ad t1.length cd) = W6 at H6 HO6 ⊢
    have h6 := H6.out; simp only [List.setIfInBounds_toArray, List.set_cons_zero, List.set_cons_succ] at h6; clear H6; have H6 := Aside0.mk h6; clear h6; have hz0 := blk_cell H6.out.b2 0; have hz1 := blk_cell H6.out.b2 1; have hz2 := blk_cell H6.out.b2 2; have hz3 := blk_cell H6.out.b2 3; have hz4 := blk_cell H6.out.b2 4; have hz5 := blk_cell H6.out.b2 5; have hz6 := blk_cell H6.out.b2 6; have hz7 := blk_cell H6.out.b2 7; have hc0 := blk_cell H6.out.b1 0; have hc1 := blk_cell H6.out.b1 1; have hc2 := blk_cell H6.out.b1 2; have hc3 := blk_cell H6.out.b1 3; have hc4 := blk_cell H6.out.b1 4; have hc5 := blk_cell H6.out.b1 5; have hc6 := blk_cell H6.out.b1 6; have hc7 := blk_cell H6.out.b1 7; have hf0 := blk_frozen H6.out.b1 0; have hf1 := blk_frozen H6.out.b1 1; have hf2 := blk_frozen H6.out.b1 2; have hf3 := blk_frozen H6.out.b1 3; have hf4 := blk_frozen H6.out.b1 4; have hf5 := blk_frozen H6.out.b1 5; have hf6 := blk_frozen H6.out.b1 6; have hf7 := blk_frozen H6.out.b1 7; go_wp2; obtain ⟨q1, q2, q3⟩ := mone_fill H6.out HO6.out (.slice Aa m1.length ca) (.slice Ab m2.length cb) (.int .u8 m3) (.bool m4) (.int .i64 m5) (.int .i64 m6) (.int .i64 m7) (.slice Ad t1.length cd); refine bodyPost_ret (results_ctt rfl _ _ w.heap.size 47 #[.slice Aa m1.length ca, .slice Ab m2.length cb, .int .u8 m3, .bool m4, .int .i64 m5, .int .i64 m6, .int .i64 m7, .slice Ad t1.length cd] (0, 0) _ rfl q1 Tryd.underlying47 rfl (by kernel_rfl)) rfl ?_; exact ⟨.slice Aa m1.length ca, .slice Ab m2.length cb, .slice Ad t1.length cd, rfl, Kd.R_mono (Kd.R_kept H6.out.r0 q2 (fun k ho e => by have := ho.2.1; omega)) (fun k hk => hk.1), Kd.R_mono (Kd.R_kept H6.out.r1 q2 (fun k ho e => by have := ho.2.1; omega)) (fun k hk => hk.1), Kd.R_mono (Kd.R_kept HO6.out q2 (fun k ho e => by have := H6.out.lt; omega)) (fun _ _ => trivial), q3⟩
  · have hh := H.out
    rw [if_neg e10] at hh; simp only [Option.some.injEq, Prod.mk.injEq] at hh; obtain ⟨rfl, rfl, rfl, rfl, rfl, rfl, rfl, rfl, rfl, rfl⟩ := hh; have hn : (m10 != 0) = true := bne_iff_ne.2 e10; clear e10 H; have hc0 := blk_cell H4.out.b1 0; have hf0 := blk_frozen H4.out.b1 0; have hc1 := blk_cell H4.out.b1 1; have hf1 := blk_frozen H4.out.b1 1; have hc2 := blk_cell H4.out.b1 2; have hf2 := blk_frozen H4.out.b1 2; have hc3 := blk_cell H4.out.b1 3; have hf3 := blk_frozen H4.out.b1 3; have hc4 := blk_cell H4.out.b1 4; have hf4 := blk_frozen H4.out.b1 4; have hc5 := blk_cell H4.out.b1 5; have hf5 := blk_frozen H4.out.b1 5; have hc6 := blk_cell H4.out.b1 6; have hf6 := blk_frozen H4.out.b1 6; have hc7 := blk_cell H4.out.b1 7; have hf7 := blk_frozen H4.out.b1 7; go_wp2; obtain ⟨q1, q2, q3⟩ := mone_fill H4.out (Kd.R_nil k75 75 _ _ _) (.slice none 0 0) (.slice none 0 0) (.int .u8 0) (.bool false) (.int .i64 0) (.int .i64 0) (.int .i64 0) (.slice none 0 0); refine bodyPost_ret (results_ctt rfl _ _ w.heap.size 47 #[.slice none 0 0, .slice none 0 0, .int .u8 0, .bool false, .int .i64 0, .int .i64 0, .int .i64 0, .slice none 0 0] (0, 0) _ rfl q1 Tryd.underlying47 rfl (by kernel_rfl)) rfl ?_; exact ⟨.slice none 0 0, .slice none 0 0, .slice none 0 0, rfl, Kd.R_nil _ _ _ _ _, Kd.R_nil _ _ _ _ _, Kd.R_nil _ _ _ _ _, q3⟩
end mone

-- NOT PRINTED: function 36 (module_Parse_6)

-- NOT PRINTED: function 38 (module_Parse_7)

end Go.Proofs.YthmjblmdbcmjcaaDoor.B
