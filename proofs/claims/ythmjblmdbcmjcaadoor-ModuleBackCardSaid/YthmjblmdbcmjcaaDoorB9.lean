/- Contracts of functions of this seat. -/
import Derived.Test.YthmjblmdbcmjcaaDoorB0
import Derived.Test.YthmjblmdbcmjcaaDoorB4
import Derived.Test.YthmjblmdbcmjcaaDoorB5
import Derived.Test.YthmjblmdbcmjcaaDoorB8
namespace Go.Proofs.YthmjblmdbcmjcaaDoor.B
open Go.RowKit Go.Proofs.YthmjblmdbcmjcaaDoorW.PrintWords Go.Proofs.YthmjblmdbcmjcaaDoorW.PrintLast Go.Proofs.YthmjblmdbcmjcaaDoorW.PrintMore
attribute [local go_sem] max2_int min2_int max_two min_two max_three min_three max_four min_four
set_option linter.unusedVariables false
set_option linter.unusedSimpArgs false

/-! ### module_Parse: function 9 -/
/-- d methods more. -/
def module_Parse.l0 (k : Nat) (b : List Int) : Nat → Int → List S47 → Option (List S47 × Int × Int)
  | 0, a, acc => some (acc, a, 0)
  | d + 1, a, acc => (module_one.f k b a).bind fun o => if o.2.2.2.2.2.2.2.2.2 = 0 then module_Parse.l0 k b d o.2.2.2.2.2.2.2.2.1 (acc ++ [⟨o.1, o.2.1, o.2.2.1, o.2.2.2.1, o.2.2.2.2.1, o.2.2.2.2.2.1, o.2.2.2.2.2.2.1, o.2.2.2.2.2.2.2.1⟩]) else some ([], 0, o.2.2.2.2.2.2.2.2.2)
def module_Parse.bad (e : Int) : List S73 × List S73 × List S47 × Int × Int := ([], [], [], 0, e)
def module_Parse.f (k : Nat) (b : List Int) : Option (List S73 × List S73 × List S47 × Int × Int) :=
  if (b.length : Int) > 2000 then some (module_Parse.bad 3) else
  (pool_Read.f k b 0).bind fun g => if g.2.2 = 0 then (if (g.1.length : Int) ≤ 4 then (pool_Read.f k b g.2.1).bind fun p => if p.2.2 = 0 then (octet_Get.f k b p.2.1 1).bind fun n => if n.2.2 = 0 then (if n.1 ≤ 16 then
    (module_Parse.l0 k b n.1.toNat n.2.1 []).bind fun m => if m.2.2 = 0 then (octet_Get.f k b m.2.1 1).bind fun q => if q.2.2 = 0 then (if (q.1 < n.1 ∨ q.1 = 255) ∧ q.2.1 = (b.length : Int) then some (g.1, p.1, m.1, if q.1 = 255 then -1 else q.1, 0) else some (module_Parse.bad 80)) else some (module_Parse.bad q.2.2)
      else some (module_Parse.bad m.2.2) else some (module_Parse.bad 80)) else some (module_Parse.bad n.2.2) else some (module_Parse.bad p.2.2) else some (module_Parse.bad 80)) else some (module_Parse.bad g.2.2)
theorem module_Parse.mono_l0 (b : List Int) : ∀ (d k : Nat) (a : Int) (acc : List S47), LeO (module_Parse.l0 k b d a acc) (module_Parse.l0 (k + 1) b d a acc) := by
  intro d
  induction d with
  | zero => intro k a acc; exact LeO.refl _
  | succ d ih =>
    intro k a acc; simp only [module_Parse.l0]
    exact LeO.bind (module_one.mono _ _ _) fun o => LeO.ite (ih _ _ _) (LeO.refl _)
theorem module_Parse.mono : ∀ a0 k, LeO (module_Parse.f k a0) (module_Parse.f (k + 1) a0) := by
  intro b k
  unfold module_Parse.f
  exact LeO.ite (LeO.refl _) (LeO.bind (pool_Read.mono _ _ _) fun g => LeO.ite (LeO.ite (LeO.bind (pool_Read.mono _ _ _) fun p => LeO.ite (LeO.bind (octet_Get.mono _ _ _ _) fun n => LeO.ite (LeO.ite (LeO.bind (module_Parse.mono_l0 _ _ _ _ _) fun m => LeO.ite (LeO.bind (octet_Get.mono _ _ _ _) fun q => LeO.ite (LeO.refl _) (LeO.refl _)) (LeO.refl _)) (LeO.refl _)) (LeO.refl _)) (LeO.refl _)) (LeO.refl _)) (LeO.refl _))
section mparse
set_option maxRecDepth 100000
/-- The eight blocks of the reading of a module, and its rows. -/
structure PSt (w W : World) (A : Option Addr) (m c : Nat) (N1 N2 : Nat) (v0 v1 v2 : Value) (G P : List S73) (M : List S47) (mig at_ many e : Int) : Prop where
  b0 : W.heap[w.heap.size]? = some (.cells #[.slice A m c] 22 (0, 0))
  b1 : W.heap[w.heap.size + 1]? = some (.cells #[.slice none 0 0, .slice none 0 0, .slice none 0 0, .int .i64 0] 26 (0, 0))
  b2 : W.heap[w.heap.size + 1 + 1]? = some (.cells #[v0, v1, v2, .int .i64 mig] 26 (0, 0))
  b3 : W.heap[w.heap.size + 1 + 1 + 1]? = some (.cells #[.int .i64 at_] 3 (0, 0))
  b4 : W.heap[w.heap.size + 1 + 1 + 1 + 1]? = some (.cells #[.int .i64 many] 3 (0, 0))
  b5 : W.heap[w.heap.size + 1 + 1 + 1 + 1 + 1]? = some (.cells #[.int .i64 e] 29 (0, 0))
  b6 : W.heap[w.heap.size + 1 + 1 + 1 + 1 + 1 + 1]? = some (.cells #[.func (.func 29) #[] #[.pointer (some ⟨w.heap.size, 0, none⟩), .pointer (some ⟨w.heap.size + 1 + 1 + 1, 0, none⟩), .pointer (some ⟨w.heap.size + 1 + 1 + 1 + 1 + 1, 0, none⟩)]] 62 (0, 0))
  b7 : W.heap[w.heap.size + 1 + 1 + 1 + 1 + 1 + 1 + 1]? = some (.cells #[.func (.func 31) #[] #[.pointer (some ⟨w.heap.size + 1 + 1 + 1 + 1 + 1, 0, none⟩)]] 63 (0, 0))
  hN : w.heap.size + 7 < N1 ∧ N1 ≤ N2 ∧ N2 ≤ W.heap.size
  r0 : Kd.R k73 73 W w.heap.size (fun k => w.heap.size + 7 < k ∧ k < N1) v0 G
  r1 : Kd.R k73 73 W w.heap.size (fun k => N1 ≤ k ∧ k < N2) v1 P
  r2 : Kd.S k47 47 W w.heap.size (fun k => N2 ≤ k) v2 M
  below : Below w.heap.size w W
variable {w W : World} {A : Option Addr} {m c N1 N2 : Nat} {v0 v1 v2 : Value} {G P : List S73} {M : List S47} {mig at_ many e : Int}
/-- What only adds. -/
theorem PSt.add (h : PSt w W A m c N1 N2 v0 v1 v2 G P M mig at_ many e) {W2 : World} (hb : Below W.heap.size W W2) : PSt w W2 A m c N1 N2 v0 v1 v2 G P M mig at_ many e :=
  ⟨blk_below h.b0 hb, blk_below h.b1 hb, blk_below h.b2 hb, blk_below h.b3 hb, blk_below h.b4 hb, blk_below h.b5 hb, blk_below h.b6 hb, blk_below h.b7 hb, ⟨h.hN.1, h.hN.2.1, Nat.le_trans h.hN.2.2 hb.size⟩, Kd.R_below h.r0 hb, Kd.R_below h.r1 hb, Kd.S_below h.r2 hb, below_step h.below hb⟩
/-- A store into one of the first blocks leaves the rows. -/
theorem PSt.rows (h : PSt w W A m c N1 N2 v0 v1 v2 G P M mig at_ many e) (g j : Nat) (v : Value) (h0 : w.heap.size ≤ g) (h1 : g ≤ w.heap.size + 7) :
    Kd.R k73 73 (W.setCell ⟨g, j, none⟩ v) w.heap.size (fun k => w.heap.size + 7 < k ∧ k < N1) v0 G ∧ Kd.R k73 73 (W.setCell ⟨g, j, none⟩ v) w.heap.size (fun k => N1 ≤ k ∧ k < N2) v1 P ∧ Kd.S k47 47 (W.setCell ⟨g, j, none⟩ v) w.heap.size (fun k => N2 ≤ k) v2 M ∧ Below w.heap.size w (W.setCell ⟨g, j, none⟩ v) ∧ N2 ≤ (W.setCell ⟨g, j, none⟩ v).heap.size := by
  have hk : Kept W (W.setCell ⟨g, j, none⟩ v) (fun k => k = g) := (Kept.refl W (fun k => k = g)).setCell (p := ⟨g, j, none⟩) (.inl rfl) v; have hN := h.hN; exact ⟨Kd.R_kept h.r0 hk (fun k ho e => by omega), Kd.R_kept h.r1 hk (fun k ho e => by omega), Kd.S_kept h.r2 hk (fun k ho e => by omega), h.below.setCell (p := ⟨g, j, none⟩) h0 v, Nat.le_trans hN.2.2 hk.1⟩
theorem PSt.setAt (h : PSt w W A m c N1 N2 v0 v1 v2 G P M mig at_ many e) (x : Int) : PSt w (W.setCell ⟨w.heap.size + 1 + 1 + 1, 0, none⟩ (.int .i64 x)) A m c N1 N2 v0 v1 v2 G P M mig x many e := by
  obtain ⟨q0, q1, q2, qb, qs⟩ := h.rows (w.heap.size + 1 + 1 + 1) 0 (.int .i64 x) (by omega) (by omega)
  have ne : ∀ {g : Nat} {cs : Array Value} {t : TypeId}, W.heap[g]? = some (.cells cs t (0, 0)) → g ≠ w.heap.size + 1 + 1 + 1 → (W.setCell ⟨w.heap.size + 1 + 1 + 1, 0, none⟩ (.int .i64 x)).heap[g]? = some (.cells cs t (0, 0)) := fun hb hne => blk_far hb (p := ⟨w.heap.size + 1 + 1 + 1, 0, none⟩) hne _
  exact ⟨ne h.b0 (by omega), ne h.b1 (by omega), ne h.b2 (by omega), blk_put h.b3 0 _ rfl, ne h.b4 (by omega), ne h.b5 (by omega), ne h.b6 (by omega), ne h.b7 (by omega), ⟨h.hN.1, h.hN.2.1, qs⟩, q0, q1, q2, qb⟩
theorem PSt.setMany (h : PSt w W A m c N1 N2 v0 v1 v2 G P M mig at_ many e) (x : Int) : PSt w (W.setCell ⟨w.heap.size + 1 + 1 + 1 + 1, 0, none⟩ (.int .i64 x)) A m c N1 N2 v0 v1 v2 G P M mig at_ x e := by
  obtain ⟨q0, q1, q2, qb, qs⟩ := h.rows (w.heap.size + 1 + 1 + 1 + 1) 0 (.int .i64 x) (by omega) (by omega)
  have ne : ∀ {g : Nat} {cs : Array Value} {t : TypeId}, W.heap[g]? = some (.cells cs t (0, 0)) → g ≠ w.heap.size + 1 + 1 + 1 + 1 → (W.setCell ⟨w.heap.size + 1 + 1 + 1 + 1, 0, none⟩ (.int .i64 x)).heap[g]? = some (.cells cs t (0, 0)) := fun hb hne => blk_far hb (p := ⟨w.heap.size + 1 + 1 + 1 + 1, 0, none⟩) hne _
  exact ⟨ne h.b0 (by omega), ne h.b1 (by omega), ne h.b2 (by omega), ne h.b3 (by omega), blk_put h.b4 0 _ rfl, ne h.b5 (by omega), ne h.b6 (by omega), ne h.b7 (by omega), ⟨h.hN.1, h.hN.2.1, qs⟩, q0, q1, q2, qb⟩
theorem PSt.setE (h : PSt w W A m c N1 N2 v0 v1 v2 G P M mig at_ many e) (x : Int) : PSt w (W.setCell ⟨w.heap.size + 1 + 1 + 1 + 1 + 1, 0, none⟩ (.int .i64 x)) A m c N1 N2 v0 v1 v2 G P M mig at_ many x := by
  obtain ⟨q0, q1, q2, qb, qs⟩ := h.rows (w.heap.size + 1 + 1 + 1 + 1 + 1) 0 (.int .i64 x) (by omega) (by omega)
  have ne : ∀ {g : Nat} {cs : Array Value} {t : TypeId}, W.heap[g]? = some (.cells cs t (0, 0)) → g ≠ w.heap.size + 1 + 1 + 1 + 1 + 1 → (W.setCell ⟨w.heap.size + 1 + 1 + 1 + 1 + 1, 0, none⟩ (.int .i64 x)).heap[g]? = some (.cells cs t (0, 0)) := fun hb hne => blk_far hb (p := ⟨w.heap.size + 1 + 1 + 1 + 1 + 1, 0, none⟩) hne _
  exact ⟨ne h.b0 (by omega), ne h.b1 (by omega), ne h.b2 (by omega), ne h.b3 (by omega), ne h.b4 (by omega), blk_put h.b5 0 _ rfl, ne h.b6 (by omega), ne h.b7 (by omega), ⟨h.hN.1, h.hN.2.1, qs⟩, q0, q1, q2, qb⟩
/-- A store into the module that is made: the other blocks. -/
theorem PSt.setM (h : PSt w W A m c N1 N2 v0 v1 v2 G P M mig at_ many e) (j : Nat) (v : Value) {u0 u1 u2 : Value} {G' P' : List S73} {M' : List S47} {mig' : Int} {N1' N2' : Nat} (hN : w.heap.size + 7 < N1' ∧ N1' ≤ N2' ∧ N2' ≤ W.heap.size) (hput : (#[v0, v1, v2, .int .i64 mig] : Array Value).setIfInBounds j v = #[u0, u1, u2, .int .i64 mig'])
    (r0 : Kd.R k73 73 W w.heap.size (fun k => w.heap.size + 7 < k ∧ k < N1') u0 G') (r1 : Kd.R k73 73 W w.heap.size (fun k => N1' ≤ k ∧ k < N2') u1 P') (r2 : Kd.S k47 47 W w.heap.size (fun k => N2' ≤ k) u2 M') :
    PSt w (W.setCell ⟨w.heap.size + 1 + 1, j, none⟩ v) A m c N1' N2' u0 u1 u2 G' P' M' mig' at_ many e := by
  have hk : Kept W (W.setCell ⟨w.heap.size + 1 + 1, j, none⟩ v) (fun k => k = w.heap.size + 1 + 1) := (Kept.refl W (fun k => k = w.heap.size + 1 + 1)).setCell (p := ⟨w.heap.size + 1 + 1, j, none⟩) (.inl rfl) v
  have ne : ∀ {g : Nat} {cs : Array Value} {t : TypeId}, W.heap[g]? = some (.cells cs t (0, 0)) → g ≠ w.heap.size + 1 + 1 → (W.setCell ⟨w.heap.size + 1 + 1, j, none⟩ v).heap[g]? = some (.cells cs t (0, 0)) := fun hb hne => blk_far hb (p := ⟨w.heap.size + 1 + 1, j, none⟩) hne _
  exact ⟨ne h.b0 (by omega), ne h.b1 (by omega), (blk_put h.b2 j v rfl).trans (by rw [← hput]), ne h.b3 (by omega), ne h.b4 (by omega), ne h.b5 (by omega), ne h.b6 (by omega), ne h.b7 (by omega), ⟨hN.1, hN.2.1, Nat.le_trans hN.2.2 hk.1⟩, Kd.R_kept r0 hk (fun k ho e => by omega), Kd.R_kept r1 hk (fun k ho e => by omega), Kd.S_kept r2 hk (fun k ho e => by omega), h.below.setCell (p := ⟨w.heap.size + 1 + 1, j, none⟩) (by show w.heap.size ≤ w.heap.size + 1 + 1; omega) v⟩
theorem mp_must (hS : PSt w W A m c N1 N2 v0 v1 v2 G P M mig at_ many e) (b : Bool) {e' : Int} (he' : Aside0 (e' = if e = 0 then (if b = true then 0 else 80) else e)) :
    Calls Tryd.prog 31 #[.bool b, .pointer (some ⟨w.heap.size + 1 + 1 + 1 + 1 + 1, 0, none⟩)] W fun er w' => er = .returned (.tuple #[]) ∧ PSt w w' A m c N1 N2 v0 v1 v2 G P M mig at_ many e' := by
  have HS := Aside0.mk hS; have c5 := blk_cell hS.b5 0; have f5 := blk_frozen hS.b5 0; clear hS
  go_enter Tryd.func31, Tryd.ntmps31
  by_cases he : e = 0
  · subst he
    cases b
    · go_wp2
      refine bodyPost_end (results_none rfl _ _ _) rfl ?_; rw [he'.out]; exact ⟨rfl, HS.out.setE 80⟩
    · go_wp2
      refine bodyPost_end (results_none rfl _ _ _) rfl ?_; rw [he'.out]; exact ⟨rfl, HS.out⟩
  · have hb : (e == 0) = false := beq_eq_false_iff_ne.2 he
    have he1 := Aside0.mk he; clear he; go_wp2; refine bodyPost_end (results_none rfl _ _ _) rfl ?_; rw [he'.out, if_neg he1.out]; exact ⟨rfl, HS.out⟩
theorem mp_number (k : Nat) {l : List Int} (hS : PSt w W A l.length c N1 N2 v0 v1 v2 G P M mig at_ many e) (hr : Kd.C (Kd.int .u8) w A l.length l) (hc : l.length ≤ c) {r1 r2 r3 : Int} (h : octet_Get.f k l at_ 1 = some (r1, r2, r3)) :
    Calls Tryd.prog 29 #[.pointer (some ⟨w.heap.size, 0, none⟩), .pointer (some ⟨w.heap.size + 1 + 1 + 1, 0, none⟩), .pointer (some ⟨w.heap.size + 1 + 1 + 1 + 1 + 1, 0, none⟩)] W fun er w' => er = .returned (.int .i64 r1) ∧ PSt w w' A l.length c N1 N2 v0 v1 v2 G P M mig r2 many r3 := by
  have HS := Aside0.mk hS; have HR := Aside0.mk hr; have HC := Aside0.mk hc; have HQ := Aside0.mk h; have c0 := blk_cell hS.b0 0; have c3 := blk_cell hS.b3 0; clear hS hr hc h
  go_enter Tryd.func29, Tryd.ntmps29
  go_wp2_with (go_at_call 30; (refine (octet_Get.calls k A c l at_ 1 r1 r2 r3 _ (Kd.C_below HR.out HS.out.below) HC.out HQ.out).mono ?_); rintro er w1 ⟨rfl, hb⟩; have HT := Aside0.mk (HS.out.add hb); clear hb c0 c3; have f3 := blk_frozen HT.out.b3 0; have d3 := blk_cell HT.out.b3 0; have f5 := blk_frozen HT.out.b5 0; have d5 := blk_cell HT.out.b5 0)
  go_ret; exact ⟨rfl, (HT.out.setAt r2).setE r3⟩
/-- The row that the pool's reading gives, by the numbers of its blocks. -/
theorem mp_row {W1 : World} {v : Value} {xs : List S73} (h : Kd.R k73 73 W1 W.heap.size (fun _ => True) v xs) (hle : w.heap.size ≤ W.heap.size) : Kd.R k73 73 W1 w.heap.size (fun k => W.heap.size ≤ k ∧ k < W1.heap.size) v xs :=
  Kd.R_lower (Kd.R_mono (Kd.R_bound h) (fun k hk => ⟨hk.2.1, hk.2.2.1⟩)) hle
theorem mp_part1 (k : Nat) {l : List Int} (hG : Gl w) (hS : PSt w W A l.length c N1 N2 (.slice none 0 0) (.slice none 0 0) (.slice none 0 0) [] [] [] 0 at_ 0 e) (hr : Kd.C (Kd.int .u8) w A l.length l) (hc : l.length ≤ c) {r1 : List S73} {r2 r3 : Int} (h : pool_Read.f k l at_ = some (r1, r2, r3)) {e' : Int} (he' : Aside0 (e' = if r3 = 0 then (if decide ((r1.length : Int) ≤ 4) = true then 0 else 80) else r3)) :
    Calls Tryd.prog 32 #[.pointer (some ⟨w.heap.size, 0, none⟩), .pointer (some ⟨w.heap.size + 1 + 1 + 1, 0, none⟩), .pointer (some ⟨w.heap.size + 1 + 1, 0, none⟩), .pointer (some ⟨w.heap.size + 1 + 1 + 1 + 1 + 1, 0, none⟩), .pointer (some ⟨w.heap.size + 1 + 1 + 1 + 1 + 1 + 1 + 1, 0, none⟩)] W fun er w' => er = .returned (.tuple #[]) ∧ ∃ N v, PSt w w' A l.length c N N v (.slice none 0 0) (.slice none 0 0) r1 [] [] 0 r2 0 e' := by
  have HS := Aside0.mk hS; have HR := Aside0.mk hr; have HC := Aside0.mk hc; have HQ := Aside0.mk h; have c0 := blk_cell hS.b0 0; have c3 := blk_cell hS.b3 0; have HGl : Aside0 (Gl W) := ⟨hG.below hS.below⟩; clear hS hr hc h hG
  go_enter Tryd.func32, Tryd.ntmps32
  go_upto_region 1 with (go_at_call 33; (refine (pool_Read.calls k A c l at_ r1 r2 r3 _ HGl.out (Kd.C_below HR.out HS.out.below) HC.out HQ.out).mono ?_); rintro er w1 ⟨v, rfl, ho, hb⟩; obtain ⟨Ao, co, rfl⟩ := Kd.R_slice ho; have HT := Aside0.mk (HS.out.add hb); have HO := Aside0.mk (mp_row ho HS.out.below.size); have hN := HS.out.hN; have HN := Aside0.mk (show w.heap.size + 7 < W.heap.size ∧ W.heap.size ≤ w1.heap.size from ⟨by omega, hb.size⟩); clear hb ho c0 c3 hN; have f2 := blk_frozen HT.out.b2 0; have d2 := blk_cell HT.out.b2 0; have f3 := blk_frozen HT.out.b3 0; have d3 := blk_cell HT.out.b3 0; have f5 := blk_frozen HT.out.b5 0; have d5 := blk_cell HT.out.b5 0)
  have H2 : Aside0 (PSt w (((w1.setCell ⟨w.heap.size + 1 + 1, 0, none⟩ (.slice Ao r1.length co)).setCell ⟨w.heap.size + 1 + 1 + 1, 0, none⟩ (.int .i64 r2)).setCell ⟨w.heap.size + 1 + 1 + 1 + 1 + 1, 0, none⟩ (.int .i64 r3)) A l.length c w1.heap.size w1.heap.size (.slice Ao r1.length co) (.slice none 0 0) (.slice none 0 0) r1 [] [] 0 r2 0 r3) :=
    ⟨((HT.out.setM 0 (.slice Ao r1.length co) (N1' := w1.heap.size) (N2' := w1.heap.size) ⟨by have := HN.out; omega, Nat.le_refl _, Nat.le_refl _⟩ rfl (Kd.R_mono HO.out (fun k hk => ⟨by have := HN.out; omega, hk.2⟩)) (Kd.R_nil _ _ _ _ _) (Kd.S_nil _ _ _ _ _)).setAt r2).setE r3⟩
  clear HS HT HO f2 f3 f5 d2 d3 d5
  generalize ((w1.setCell ⟨w.heap.size + 1 + 1, 0, none⟩ (.slice Ao r1.length co)).setCell ⟨w.heap.size + 1 + 1 + 1, 0, none⟩ (.int .i64 r2)).setCell ⟨w.heap.size + 1 + 1 + 1 + 1 + 1, 0, none⟩ (.int .i64 r3) = w2 at H2 ⊢
  have c7 := blk_cell H2.out.b7 0; have c2 := blk_cell H2.out.b2 0
  go_wp2_with (go_at_call 31; (refine (mp_must H2.out (decide ((r1.length : Int) ≤ 4)) he').mono ?_); rintro er w3 ⟨rfl, h3⟩; have H3 := Aside0.mk h3; clear h3 c7 c2)
  refine bodyPost_end (results_none rfl _ _ _) rfl ?_; exact ⟨rfl, _, _, H3.out⟩
theorem mp_part2 (k : Nat) {l : List Int} {N : Nat} (hG : Gl w) (hS : PSt w W A l.length c N N v0 (.slice none 0 0) (.slice none 0 0) G [] [] 0 at_ 0 e) (hr : Kd.C (Kd.int .u8) w A l.length l) (hc : l.length ≤ c) {r1 : List S73} {r2 r3 : Int} (h : pool_Read.f k l at_ = some (r1, r2, r3)) :
    Calls Tryd.prog 34 #[.pointer (some ⟨w.heap.size, 0, none⟩), .pointer (some ⟨w.heap.size + 1 + 1 + 1, 0, none⟩), .pointer (some ⟨w.heap.size + 1 + 1, 0, none⟩), .pointer (some ⟨w.heap.size + 1 + 1 + 1 + 1 + 1, 0, none⟩)] W fun er w' => er = .returned (.tuple #[]) ∧ ∃ N2 v, PSt w w' A l.length c N N2 v0 v (.slice none 0 0) G r1 [] 0 r2 0 r3 := by
  have HS := Aside0.mk hS; have HR := Aside0.mk hr; have HC := Aside0.mk hc; have HQ := Aside0.mk h; have c0 := blk_cell hS.b0 0; have c3 := blk_cell hS.b3 0; have HGl : Aside0 (Gl W) := ⟨hG.below hS.below⟩; clear hS hr hc h hG
  go_enter Tryd.func34, Tryd.ntmps34
  go_wp2_with (go_at_call 33; (refine (pool_Read.calls k A c l at_ r1 r2 r3 _ HGl.out (Kd.C_below HR.out HS.out.below) HC.out HQ.out).mono ?_); rintro er w1 ⟨v, rfl, ho, hb⟩; obtain ⟨Ao, co, rfl⟩ := Kd.R_slice ho; have HT := Aside0.mk (HS.out.add hb); have HO := Aside0.mk (mp_row ho HS.out.below.size); have HL := Aside0.mk hb.size; clear hb ho c0 c3; have f2 := blk_frozen HT.out.b2 1; have d2 := blk_cell HT.out.b2 1; have f3 := blk_frozen HT.out.b3 0; have d3 := blk_cell HT.out.b3 0; have f5 := blk_frozen HT.out.b5 0; have d5 := blk_cell HT.out.b5 0)
  refine bodyPost_end (results_none rfl _ _ _) rfl ?_; have hN := HS.out.hN; have hL := HL.out; exact ⟨rfl, w1.heap.size, .slice Ao r1.length co, ((HT.out.setM 1 (.slice Ao r1.length co) (N1' := N) (N2' := w1.heap.size) ⟨by omega, by omega, Nat.le_refl _⟩ rfl HT.out.r0 (Kd.R_mono HO.out (fun k hk => ⟨by omega, hk.2⟩)) (Kd.S_nil _ _ _ _ _)).setAt r2).setE r3⟩
theorem mp_part3 (k : Nat) {l : List Int} (hS : PSt w W A l.length c N1 N2 v0 v1 v2 G P M mig at_ many e) (hr : Kd.C (Kd.int .u8) w A l.length l) (hc : l.length ≤ c) {r1 r2 r3 : Int} (h : octet_Get.f k l at_ 1 = some (r1, r2, r3)) {e' : Int} (he' : Aside0 (e' = if r3 = 0 then (if decide (r1 ≤ 16) = true then 0 else 80) else r3)) :
    Calls Tryd.prog 35 #[.pointer (some ⟨w.heap.size + 1 + 1 + 1 + 1 + 1 + 1, 0, none⟩), .pointer (some ⟨w.heap.size + 1 + 1 + 1 + 1, 0, none⟩), .pointer (some ⟨w.heap.size + 1 + 1 + 1 + 1 + 1 + 1 + 1, 0, none⟩)] W fun er w' => er = .returned (.tuple #[]) ∧ PSt w w' A l.length c N1 N2 v0 v1 v2 G P M mig r2 r1 e' := by
  have HS := Aside0.mk hS; have HR := Aside0.mk hr; have HC := Aside0.mk hc; have HQ := Aside0.mk h; have c6 := blk_cell hS.b6 0; clear hS hr hc h
  go_enter Tryd.func35, Tryd.ntmps35
  go_upto_region 1 with (go_at_call 29; (refine (mp_number k HS.out HR.out HC.out HQ.out).mono ?_); rintro er w1 ⟨rfl, h1⟩; have H1 := Aside0.mk h1; clear h1 c6; have f4 := blk_frozen H1.out.b4 0; have d4 := blk_cell H1.out.b4 0)
  have H2 := Aside0.mk (H1.out.setMany r1); clear HS H1 f4 d4
  generalize w1.setCell ⟨w.heap.size + 1 + 1 + 1 + 1, 0, none⟩ (.int .i64 r1) = w2 at H2 ⊢
  have c7 := blk_cell H2.out.b7 0; have c4 := blk_cell H2.out.b4 0
  go_wp2_with (go_at_call 31; (refine (mp_must H2.out (decide (r1 ≤ 16)) he').mono ?_); rintro er w3 ⟨rfl, h3⟩; have H3 := Aside0.mk h3; clear h3 c7 c4)
  refine bodyPost_end (results_none rfl _ _ _) rfl ?_; exact ⟨rfl, H3.out⟩
theorem mp_part5 (k : Nat) {l : List Int} (hS : PSt w W A l.length c N1 N2 v0 v1 v2 G P M mig at_ many e) (hr : Kd.C (Kd.int .u8) w A l.length l) (hc : l.length ≤ c) {r1 r2 r3 : Int} (h : octet_Get.f k l at_ 1 = some (r1, r2, r3)) {e' : Int} (he' : Aside0 (e' = if r3 = 0 then (if (r1 < many ∨ r1 = 255) ∧ r2 = (l.length : Int) then 0 else 80) else r3)) :
    Calls Tryd.prog 38 #[.pointer (some ⟨w.heap.size + 1 + 1 + 1 + 1 + 1 + 1, 0, none⟩), .pointer (some ⟨w.heap.size + 1 + 1, 0, none⟩), .pointer (some ⟨w.heap.size + 1 + 1 + 1 + 1 + 1 + 1 + 1, 0, none⟩), .pointer (some ⟨w.heap.size + 1 + 1 + 1 + 1, 0, none⟩), .pointer (some ⟨w.heap.size + 1 + 1 + 1, 0, none⟩), .pointer (some ⟨w.heap.size, 0, none⟩)] W fun er w' => er = .returned (.tuple #[]) ∧ PSt w w' A l.length c N1 N2 v0 v1 v2 G P M r1 r2 many e' := by
  obtain ⟨e1', he1⟩ : ∃ x : Int, x = if r3 = 0 then (if r1 < many ∨ r1 = 255 then 0 else 80) else r3 := ⟨_, rfl⟩; have HE1 := Aside0.mk he1; clear he1; have HS := Aside0.mk hS; have HR := Aside0.mk hr; have HC := Aside0.mk hc; have HQ := Aside0.mk h; have c6 := blk_cell hS.b6 0; clear hS hr hc h
  go_enter Tryd.func38, Tryd.ntmps38
  go_upto_region 1 with (go_at_call 29; (refine (mp_number k HS.out HR.out HC.out HQ.out).mono ?_); rintro er w1 ⟨rfl, h1⟩; have H1 := Aside0.mk h1; clear h1 c6; have f2 := blk_frozen H1.out.b2 3; have d2 := blk_cell H1.out.b2 3)
  have H2 := Aside0.mk (H1.out.setM 3 (.int .i64 r1) (N1' := N1) (N2' := N2) H1.out.hN rfl H1.out.r0 H1.out.r1 H1.out.r2); clear HS H1 f2 d2
  generalize w1.setCell ⟨w.heap.size + 1 + 1, 3, none⟩ (.int .i64 r1) = w2 at H2 ⊢
  have c7 := blk_cell H2.out.b7 0; have c4 := blk_cell H2.out.b4 0; have c2 := blk_cell H2.out.b2 3
  have key : ∀ b : Bool, b = decide (r1 < many ∨ r1 = 255) → Calls Tryd.prog 31 #[.bool b, .pointer (some ⟨w.heap.size + 1 + 1 + 1 + 1 + 1, 0, none⟩)] w2 fun er w3 => er = .returned (.tuple #[]) ∧ PSt w w3 A l.length c N1 N2 v0 v1 v2 G P M r1 r2 many e1' := fun b hb =>
    mp_must H2.out b ⟨by rw [HE1.out, hb]; simp only [decide_eq_true_eq]⟩
  have HK := Aside0.mk key; clear key
  have go : ∀ w3 : World, PSt w w3 A l.length c N1 N2 v0 v1 v2 G P M r1 r2 many e1' → Calls Tryd.prog 31 #[.bool (r2 == (l.length : Int)), .pointer (some ⟨w.heap.size + 1 + 1 + 1 + 1 + 1, 0, none⟩)] w3 fun er w4 => er = .returned (.tuple #[]) ∧ PSt w w4 A l.length c N1 N2 v0 v1 v2 G P M r1 r2 many e' := fun w3 h3 =>
    mp_must h3 (r2 == (l.length : Int)) ⟨by
      rw [he'.out, HE1.out]; simp only [beq_iff_eq]
      by_cases c0 : r3 = 0
      · subst c0
        by_cases c1 : r1 < many ∨ r1 = 255
        · simp [c1]
        · simp [c1]
      · simp [c0]⟩
  have HGO := Aside0.mk go; clear go
  by_cases e1 : r1 < many
  · have d1 : decide (r1 < many) = true := decide_eq_true e1
    go_upto_region 2 with (go_at_call 31; (refine (HK.out true (by simp [e1])).mono ?_); rintro er w3 ⟨rfl, h3⟩; have H3 := Aside0.mk h3; clear h3 c7 c4 c2; have b7 := blk_cell H3.out.b7 0; have b3 := blk_cell H3.out.b3 0; have b0 := blk_cell H3.out.b0 0)
    go_wp2_with (go_at_call 31; (refine (HGO.out _ H3.out).mono ?_); rintro er w4 ⟨rfl, h4⟩; have H4 := Aside0.mk h4; clear h4 b7 b3 b0)
    refine bodyPost_end (results_none rfl _ _ _) rfl ?_; exact ⟨rfl, H4.out⟩
  · have d1 : decide (r1 < many) = false := decide_eq_false e1
    go_upto_region 2 with (go_at_call 31; (refine (HK.out (r1 == 255) (by simp [e1]; rfl)).mono ?_); rintro er w3 ⟨rfl, h3⟩; have H3 := Aside0.mk h3; clear h3 c7 c4 c2; have b7 := blk_cell H3.out.b7 0; have b3 := blk_cell H3.out.b3 0; have b0 := blk_cell H3.out.b0 0)
    go_wp2_with (go_at_call 31; (refine (HGO.out _ H3.out).mono ?_); rintro er w4 ⟨rfl, h4⟩; have H4 := Aside0.mk h4; clear h4 b7 b3 b0)
    refine bodyPost_end (results_none rfl _ _ _) rfl ?_; exact ⟨rfl, H4.out⟩
/-- And the block of the method that is being read. -/
structure PSx (w W : World) (A : Option Addr) (m c : Nat) (N1 N2 : Nat) (v0 v1 v2 : Value) (G P : List S73) (M : List S47) (mig at_ many e : Int) (g : Nat) (cs : Array Value) : Prop where
  st : PSt w W A m c N1 N2 v0 v1 v2 G P M mig at_ many e
  old : Kd.S k47 47 W w.heap.size (fun k => N2 ≤ k ∧ k < g) v2 M
  blk : W.heap[g]? = some (.cells cs 47 (0, 0))
  le : N2 ≤ g
variable {g : Nat} {cs : Array Value}
theorem PSx.new (h : PSt w W A m c N1 N2 v0 v1 v2 G P M mig at_ many e) (cs : Array Value) : PSx w (W.alloc (.cells cs 47)) A m c N1 N2 v0 v1 v2 G P M mig at_ many e W.heap.size cs :=
  have hb := below_alloc (Below.refl W.heap.size W) (.cells cs 47)
  ⟨h.add hb, Kd.S_below (Kd.S_mono (Kd.S_bound h.r2) (fun k hk => ⟨hk.1, hk.2.2.1⟩)) hb, blk_new W _, h.hN.2.2⟩
theorem PSx.add (h : PSx w W A m c N1 N2 v0 v1 v2 G P M mig at_ many e g cs) {W2 : World} (hb : Below W.heap.size W W2) : PSx w W2 A m c N1 N2 v0 v1 v2 G P M mig at_ many e g cs :=
  ⟨h.st.add hb, Kd.S_below h.old hb, blk_below h.blk hb, h.le⟩
theorem PSx.put (h : PSx w W A m c N1 N2 v0 v1 v2 G P M mig at_ many e g cs) (j : Nat) (v : Value) : PSx w (W.setCell ⟨g, j, none⟩ v) A m c N1 N2 v0 v1 v2 G P M mig at_ many e g (cs.setIfInBounds j v) := by
  have hk : Kept W (W.setCell ⟨g, j, none⟩ v) (fun k => k = g) := (Kept.refl W (fun k => k = g)).setCell (p := ⟨g, j, none⟩) (.inl rfl) v; have hN := h.st.hN; have hle := h.le
  have ne : ∀ {g' : Nat} {cs : Array Value} {t : TypeId}, W.heap[g']? = some (.cells cs t (0, 0)) → g' ≠ g → (W.setCell ⟨g, j, none⟩ v).heap[g']? = some (.cells cs t (0, 0)) := fun hb hne => blk_far hb (p := ⟨g, j, none⟩) hne _
  have ho := Kd.S_kept h.old hk (fun k ho e => by omega); exact ⟨⟨ne h.st.b0 (by omega), ne h.st.b1 (by omega), ne h.st.b2 (by omega), ne h.st.b3 (by omega), ne h.st.b4 (by omega), ne h.st.b5 (by omega), ne h.st.b6 (by omega), ne h.st.b7 (by omega), ⟨hN.1, hN.2.1, Nat.le_trans hN.2.2 hk.1⟩, Kd.R_kept h.st.r0 hk (fun k ho e => by omega), Kd.R_kept h.st.r1 hk (fun k ho e => by omega), Kd.S_mono ho (fun k hk => hk.1), h.st.below.setCell (p := ⟨g, j, none⟩) (by show w.heap.size ≤ g; omega) v⟩, ho, blk_put h.blk j v rfl, hle⟩
theorem PSx.setAt (h : PSx w W A m c N1 N2 v0 v1 v2 G P M mig at_ many e g cs) (x : Int) : PSx w (W.setCell ⟨w.heap.size + 1 + 1 + 1, 0, none⟩ (.int .i64 x)) A m c N1 N2 v0 v1 v2 G P M mig x many e g cs := by
  have hk : Kept W (W.setCell ⟨w.heap.size + 1 + 1 + 1, 0, none⟩ (.int .i64 x)) (fun k => k = w.heap.size + 1 + 1 + 1) := (Kept.refl W (fun k => k = w.heap.size + 1 + 1 + 1)).setCell (p := ⟨w.heap.size + 1 + 1 + 1, 0, none⟩) (.inl rfl) _; have hN := h.st.hN; have hle := h.le; exact ⟨h.st.setAt x, Kd.S_kept h.old hk (fun k ho e => by omega), blk_far h.blk (p := ⟨w.heap.size + 1 + 1 + 1, 0, none⟩) (by show g ≠ w.heap.size + 1 + 1 + 1; omega) _, hle⟩
theorem PSx.setE (h : PSx w W A m c N1 N2 v0 v1 v2 G P M mig at_ many e g cs) (x : Int) : PSx w (W.setCell ⟨w.heap.size + 1 + 1 + 1 + 1 + 1, 0, none⟩ (.int .i64 x)) A m c N1 N2 v0 v1 v2 G P M mig at_ many x g cs := by
  have hk : Kept W (W.setCell ⟨w.heap.size + 1 + 1 + 1 + 1 + 1, 0, none⟩ (.int .i64 x)) (fun k => k = w.heap.size + 1 + 1 + 1 + 1 + 1) := (Kept.refl W (fun k => k = w.heap.size + 1 + 1 + 1 + 1 + 1)).setCell (p := ⟨w.heap.size + 1 + 1 + 1 + 1 + 1, 0, none⟩) (.inl rfl) _; have hN := h.st.hN; have hle := h.le; exact ⟨h.st.setE x, Kd.S_kept h.old hk (fun k ho e => by omega), blk_far h.blk (p := ⟨w.heap.size + 1 + 1 + 1 + 1 + 1, 0, none⟩) (by show g ≠ w.heap.size + 1 + 1 + 1 + 1 + 1; omega) _, hle⟩
/-- The row of methods has grown. -/
theorem PSx.grown (h : PSx w W A m c N1 N2 v0 v1 v2 G P M mig at_ many e g cs) {W2 : World} {v : Value} {M' : List S47} (hg : W.grownBy W2 v2.ownBlock) (hb : Below w.heap.size w W2) (hv : Kd.S k47 47 W2 w.heap.size (fun k => N2 ≤ k) v M') :
    PSt w (W2.setCell ⟨w.heap.size + 1 + 1, 2, none⟩ v) A m c N1 N2 v0 v1 v G P M' mig at_ many e := by
  have hN := h.st.hN
  have own : ∀ k, v2.ownBlock = some k → N2 ≤ k := fun k hk => by
    obtain ⟨f, hR⟩ := h.st.r2; exact hR.1 k hk
  have hs := hg.size
  have keep : ∀ {g' : Nat} {o : Obj}, W.heap[g']? = some o → g' < N2 → W2.heap[g']? = some o := fun hb hlt => (hg.block _ (blk_lt hb) (fun e => by have := own _ e.symm; omega)).trans hb
  have k0 : Kept W W2 (fun k => N2 ≤ k) := ⟨hs, fun i hi hn => hg.block i hi (fun e => hn (own _ e.symm))⟩; have hk : Kept W2 (W2.setCell ⟨w.heap.size + 1 + 1, 2, none⟩ v) (fun k => k = w.heap.size + 1 + 1) := (Kept.refl W2 (fun k => k = w.heap.size + 1 + 1)).setCell (p := ⟨w.heap.size + 1 + 1, 2, none⟩) (.inl rfl) v
  have ne : ∀ {g' : Nat} {cs : Array Value} {t : TypeId}, W.heap[g']? = some (.cells cs t (0, 0)) → g' < N2 → g' ≠ w.heap.size + 1 + 1 → (W2.setCell ⟨w.heap.size + 1 + 1, 2, none⟩ v).heap[g']? = some (.cells cs t (0, 0)) := fun hb hlt hne => blk_far (keep hb hlt) (p := ⟨w.heap.size + 1 + 1, 2, none⟩) hne _
  exact ⟨ne h.st.b0 (by omega) (by omega), ne h.st.b1 (by omega) (by omega), blk_put (keep h.st.b2 (by omega)) 2 v rfl, ne h.st.b3 (by omega) (by omega), ne h.st.b4 (by omega) (by omega), ne h.st.b5 (by omega) (by omega), ne h.st.b6 (by omega) (by omega), ne h.st.b7 (by omega) (by omega), ⟨hN.1, hN.2.1, Nat.le_trans hN.2.2 (Nat.le_trans hs hk.1)⟩, Kd.R_kept (Kd.R_kept h.st.r0 k0 (fun k ho => by omega)) hk (fun k ho e => by omega), Kd.R_kept (Kd.R_kept h.st.r1 k0 (fun k ho => by omega)) hk (fun k ho e => by omega), Kd.S_kept hv hk (fun k ho e => by omega), hb.setCell (p := ⟨w.heap.size + 1 + 1, 2, none⟩) (by show w.heap.size ≤ w.heap.size + 1 + 1; omega) v⟩
/-- The method's block filled, the place and the error set. -/
theorem PSx.fill {z0 z1 z2 z3 z4 z5 z6 z7 : Value} (h : PSx w W A m c N1 N2 v0 v1 v2 G P M mig at_ many e g #[z0, z1, z2, z3, z4, z5, z6, z7]) (a0 a1 a2 a3 a4 a5 a6 a7 : Value) (x y : Int) :
    PSx w ((((((((((W.setCell ⟨g, 0, none⟩ a0).setCell ⟨g, 1, none⟩ a1).setCell ⟨g, 2, none⟩ a2).setCell ⟨g, 3, none⟩ a3).setCell ⟨g, 4, none⟩ a4).setCell ⟨g, 5, none⟩ a5).setCell ⟨g, 6, none⟩ a6).setCell ⟨g, 7, none⟩ a7).setCell ⟨w.heap.size + 1 + 1 + 1, 0, none⟩ (.int .i64 x)).setCell ⟨w.heap.size + 1 + 1 + 1 + 1 + 1, 0, none⟩ (.int .i64 y)) A m c N1 N2 v0 v1 v2 G P M mig x many y g #[a0, a1, a2, a3, a4, a5, a6, a7] ∧
    Kept W ((((((((((W.setCell ⟨g, 0, none⟩ a0).setCell ⟨g, 1, none⟩ a1).setCell ⟨g, 2, none⟩ a2).setCell ⟨g, 3, none⟩ a3).setCell ⟨g, 4, none⟩ a4).setCell ⟨g, 5, none⟩ a5).setCell ⟨g, 6, none⟩ a6).setCell ⟨g, 7, none⟩ a7).setCell ⟨w.heap.size + 1 + 1 + 1, 0, none⟩ (.int .i64 x)).setCell ⟨w.heap.size + 1 + 1 + 1 + 1 + 1, 0, none⟩ (.int .i64 y)) (fun k => k = g ∨ k = w.heap.size + 1 + 1 + 1 ∨ k = w.heap.size + 1 + 1 + 1 + 1 + 1) := by
  refine ⟨?_, (((((((((((Kept.refl W (fun k => k = g ∨ k = w.heap.size + 1 + 1 + 1 ∨ k = w.heap.size + 1 + 1 + 1 + 1 + 1)).setCell (p := ⟨g, 0, none⟩) (.inl (.inl rfl)) a0).setCell (p := ⟨g, 1, none⟩) (.inl (.inl rfl)) a1).setCell (p := ⟨g, 2, none⟩) (.inl (.inl rfl)) a2).setCell (p := ⟨g, 3, none⟩) (.inl (.inl rfl)) a3).setCell (p := ⟨g, 4, none⟩) (.inl (.inl rfl)) a4).setCell (p := ⟨g, 5, none⟩) (.inl (.inl rfl)) a5).setCell (p := ⟨g, 6, none⟩) (.inl (.inl rfl)) a6).setCell (p := ⟨g, 7, none⟩) (.inl (.inl rfl)) a7).setCell (p := ⟨w.heap.size + 1 + 1 + 1, 0, none⟩) (.inl (.inr (.inl rfl))) _).setCell (p := ⟨w.heap.size + 1 + 1 + 1 + 1 + 1, 0, none⟩) (.inl (.inr (.inr rfl))) _)⟩; have b := ((((((((((h.put 0 a0).put 1 a1).put 2 a2).put 3 a3).put 4 a4).put 5 a5).put 6 a6).put 7 a7).setAt x).setE y); simp only [List.setIfInBounds_toArray, List.set_cons_zero, List.set_cons_succ] at b; exact b
theorem PSx.b2g (h : PSx w W A m c N1 N2 v0 v1 v2 G P M mig at_ many e g cs) {W2 : World} (hg : W.grownBy W2 v2.ownBlock) : W2.heap[w.heap.size + 1 + 1]? = some (.cells #[v0, v1, v2, .int .i64 mig] 26 (0, 0)) := by
  have hN := h.st.hN; refine (hg.block _ (blk_lt h.st.b2) (fun e => ?_)).trans h.st.b2; obtain ⟨f, hR⟩ := h.st.r2; have := hR.1 _ e.symm; omega
set_option maxHeartbeats 8000000 in
theorem mp_part4 (k : Nat) {l : List Int} (hG : Gl w) (hS : PSt w W A l.length c N1 N2 v0 v1 v2 G P [] mig at_ many 0) (h16 : many ≤ 16) (hr : Kd.C (Kd.int .u8) w A l.length l) (hc : l.length ≤ c) {R1 : List S47} {R2 R3 : Int} (h : module_Parse.l0 k l many.toNat at_ [] = some (R1, R2, R3)) :
    Calls Tryd.prog 36 #[.pointer (some ⟨w.heap.size + 1 + 1 + 1 + 1, 0, none⟩), .pointer (some ⟨w.heap.size + 1 + 1 + 1 + 1 + 1, 0, none⟩), .pointer (some ⟨w.heap.size, 0, none⟩), .pointer (some ⟨w.heap.size + 1 + 1 + 1, 0, none⟩), .pointer (some ⟨w.heap.size + 1 + 1, 0, none⟩)] W fun er w' => er = .returned (.tuple #[]) ∧ ∃ v M a, PSt w w' A l.length c N1 N2 v0 v1 v G P M mig a many R3 ∧ (R3 = 0 → M = R1 ∧ a = R2) := by
  have HG := Aside0.mk hG; have HS := Aside0.mk hS; have HR := Aside0.mk hr; have HC := Aside0.mk hc; have HQ := Aside0.mk h; clear hS hr hc h hG
  go_enter Tryd.func36, Tryd.ntmps36
  go_wp2_with (fail)
  go_loopw [5, 6] (fun u u6 wr => ∃ (i : Nat) (a e : Int) (acc : List S47) (v : Value), u = .int .i64 (i : Int) ∧ i ≤ many.toNat ∧ acc.length ≤ i ∧ Aside0 ((e = 0 ∧ module_Parse.l0 k l (many.toNat - i) a acc = some (R1, R2, R3)) ∨ (e ≠ 0 ∧ e = R3)) ∧ Aside0 (PSt w wr A l.length c N1 N2 v0 v1 v G P acc mig a many e))
    (fun u _ _ => many.toNat - (intOf u).toNat)
  case atStart => exact ⟨0, at_, 0, [], v2, rfl, Nat.zero_le _, Nat.le_refl _, ⟨.inl ⟨rfl, HQ.out⟩⟩, HS⟩
  case round =>
    obtain ⟨i, a, e, acc, v, rfl, hi, hla, HL, HS⟩ := hrel; have c4 := blk_cell HS.out.b4 0; have c5 := blk_cell HS.out.b5 0
    rcases HL.out with ⟨rfl, hl⟩ | ⟨he, hR⟩
    · by_cases hlt : (i : Int) < many
      · rw [show many.toNat - i = (many.toNat - (i + 1)) + 1 by omega, module_Parse.l0] at hl
        obtain ⟨⟨m1, m2, m3, m4, m5, m6, m7, m8, m9, m10⟩, hm, hl⟩ := Option.bind_eq_some_iff.mp hl; dsimp only at hl; have HM := Aside0.mk hm; have HL2 := Aside0.mk hl; clear hm hl HL; obtain ⟨Av, cv, rfl⟩ := Kd.S_slice HS.out.r2; have hd : decide ((i : Int) < many) = true := decide_eq_true hlt
        go_upto_region 4 with (fail)
        refine wp_gen (fun W' => PSx w W' A l.length c N1 N2 v0 v1 (.slice Av acc.length cv) G P acc mig a many 0 wr.heap.size #[.slice none 0 0, .slice none 0 0, .int .u8 0, .bool false, .int .i64 0, .int .i64 0, .int .i64 0, .slice none 0 0]) (PSx.new HS.out _) (fun W4 h4 => ?_); have H4 := Aside0.mk h4; clear h4 HS c4 c5 hd
        generalize wr.heap.size = g at H4 ⊢
        have c0 := blk_cell H4.out.st.b0 0; have c3 := blk_cell H4.out.st.b3 0
        have n3 : ¬ (g = w.heap.size + 1 + 1 + 1) := by have := H4.out.le; have := H4.out.st.hN; omega
        have n3' : ¬ (w.heap.size + 1 + 1 + 1 = g) := fun h => n3 h.symm
        have n5 : ¬ (g = w.heap.size + 1 + 1 + 1 + 1 + 1) := by have := H4.out.le; have := H4.out.st.hN; omega
        have n5' : ¬ (w.heap.size + 1 + 1 + 1 + 1 + 1 = g) := fun h => n5 h.symm
        go_upto_region 5 with (go_at_call 37; (refine (module_one.calls k A c l a m1 m2 m3 m4 m5 m6 m7 m8 m9 m10 _ (Gl.below HG.out H4.out.st.below) (Kd.C_below HR.out H4.out.st.below) HC.out HM.out).mono ?_); rintro er w5 ⟨u0, u1, u7, rfl, ho0, ho1, ho7, hb⟩; obtain ⟨Aa, ca, rfl⟩ := Kd.R_slice ho0; obtain ⟨Ab, cb, rfl⟩ := Kd.R_slice ho1; obtain ⟨Ac, cc, rfl⟩ := Kd.R_slice ho7; have H5 := Aside0.mk (H4.out.add hb); have HO0 := Aside0.mk (show Kd.R (Kd.int .u8) 5 w5 w.heap.size (fun k => g < k) (.slice Aa m1.length ca) m1 from Kd.R_lower (Kd.R_mono (Kd.R_bound ho0) (fun k hk => by have := hk.2.1; have := blk_lt H4.out.blk; omega)) H4.out.st.below.size); have HO1 := Aside0.mk (show Kd.R (Kd.int .u8) 5 w5 w.heap.size (fun k => g < k) (.slice Ab m2.length cb) m2 from Kd.R_lower (Kd.R_mono (Kd.R_bound ho1) (fun k hk => by have := hk.2.1; have := blk_lt H4.out.blk; omega)) H4.out.st.below.size); have HO7 := Aside0.mk (show Kd.R k75 75 w5 w.heap.size (fun k => g < k) (.slice Ac m8.length cc) m8 from Kd.R_lower (Kd.R_mono (Kd.R_bound ho7) (fun k hk => by have := hk.2.1; have := blk_lt H4.out.blk; omega)) H4.out.st.below.size); clear ho0 ho1 ho7 hb c0 c3; have hz0 := blk_cell H5.out.blk 0; have hf0 := blk_frozen H5.out.blk 0; have hz1 := blk_cell H5.out.blk 1; have hf1 := blk_frozen H5.out.blk 1; have hz2 := blk_cell H5.out.blk 2; have hf2 := blk_frozen H5.out.blk 2; have hz3 := blk_cell H5.out.blk 3; have hf3 := blk_frozen H5.out.blk 3; have hz4 := blk_cell H5.out.blk 4; have hf4 := blk_frozen H5.out.blk 4; have hz5 := blk_cell H5.out.blk 5; have hf5 := blk_frozen H5.out.blk 5; have hz6 := blk_cell H5.out.blk 6; have hf6 := blk_frozen H5.out.blk 6; have hz7 := blk_cell H5.out.blk 7; have hf7 := blk_frozen H5.out.blk 7; have d3 := blk_cell H5.out.st.b3 0; have f3 := blk_frozen H5.out.st.b3 0; have d5 := blk_cell H5.out.st.b5 0; have f5 := blk_frozen H5.out.st.b5 0)
        obtain ⟨q1, q2⟩ := PSx.fill H5.out (.slice Aa m1.length ca) (.slice Ab m2.length cb) (.int .u8 m3) (.bool m4) (.int .i64 m5) (.int .i64 m6) (.int .i64 m7) (.slice Ac m8.length cc) m9 m10
        have hout : ∀ k, g < k → ¬ (k = g ∨ k = w.heap.size + 1 + 1 + 1 ∨ k = w.heap.size + 1 + 1 + 1 + 1 + 1) := fun k hk => by have := H4.out.le; have := H4.out.st.hN; omega
        have q3 := Kd.R_kept HO0.out q2 hout; have q4 := Kd.R_kept HO1.out q2 hout; have q5 := Kd.R_kept HO7.out q2 hout; refine wp_gen (fun W' => PSx w W' A l.length c N1 N2 v0 v1 (.slice Av acc.length cv) G P acc mig m9 many m10 g #[.slice Aa m1.length ca, .slice Ab m2.length cb, .int .u8 m3, .bool m4, .int .i64 m5, .int .i64 m6, .int .i64 m7, .slice Ac m8.length cc] ∧ Kd.R (Kd.int .u8) 5 W' w.heap.size (fun k => g < k) (.slice Aa m1.length ca) m1 ∧ Kd.R (Kd.int .u8) 5 W' w.heap.size (fun k => g < k) (.slice Ab m2.length cb) m2 ∧ Kd.R k75 75 W' w.heap.size (fun k => g < k) (.slice Ac m8.length cc) m8) ⟨q1, q3, q4, q5⟩ (fun W6 h6 => ?_); have H6 := Aside0.mk h6; clear h6 q1 q2 q3 q4 q5 hout H4 H5 HO0 HO1 HO7 hz0 hf0 hz1 hf1 hz2 hf2 hz3 hf3 hz4 hf4 hz5 hf5 hz6 hf6 hz7 hf7 d3 d5 f3 f5 n3 n3' n5 n5'; have hz0 := blk_cell H6.out.1.blk 0; have hz1 := blk_cell H6.out.1.blk 1; have hz2 := blk_cell H6.out.1.blk 2; have hz3 := blk_cell H6.out.1.blk 3; have hz4 := blk_cell H6.out.1.blk 4; have hz5 := blk_cell H6.out.1.blk 5; have hz6 := blk_cell H6.out.1.blk 6; have hz7 := blk_cell H6.out.1.blk 7; have c2 := blk_cell H6.out.1.st.b2 2; have hlen : Aside0 ((acc.length + 1) * 104 ≤ 140737488355328) := ⟨by omega⟩
        go_upto_region 2 with ((with_reducible refine gate_builtin (b := .append) (xs := #[.tmp 24, .tmp 26]) rfl ?_); at_builtin; refine Kd.S_append k47 (w0 := w) w.heap.size rfl (.tmp 24) (.tmp 26) 24 47 (.agg #[(.slice none 0 0), (.slice none 0 0), (.int .u8 0), (.bool false), (.int .i64 0), (.int .i64 0), (.int .i64 0), (.slice none 0 0)]) 104 rfl Tryd.underlying24 info47 rfl (by decide) (by omega) (.slice Av acc.length cv) acc (⟨m1, m2, m3, m4, m5, m6, m7, m8⟩ : S47) [.slice Aa m1.length ca, .slice Ab m2.length cb, .int .u8 m3, .bool m4, .int .i64 m5, .int .i64 m6, .int .i64 m7, .slice Ac m8.length cc] (fun k => N2 ≤ k) (fun k => g < k) rfl rfl (k47_mkM _ _ _ (⟨m1, m2, m3, m4, m5, m6, m7, m8⟩ : S47) H6.out.2.1 H6.out.2.2.1 H6.out.2.2.2) (fun k hk => ⟨by have := H6.out.1.le; omega, fun e => by obtain ⟨f, hR⟩ := H6.out.1.old; have := hR.1 k e.symm; omega⟩) (fun k hk => by have := H6.out.1.st.hN; omega) (Kd.S_mono H6.out.1.old (fun k hk => ⟨hk.1, by omega⟩)) H6.out.1.st.below H6.out.1.st.below.size hlen.out ?_; intro v9 w9 ho hb hg hat; obtain ⟨A9, c9, e9⟩ := Kd.S_slice ho; rw [List.length_append, List.length_singleton] at e9; subst e9; have H9 := Aside0.mk (H6.out.1.grown hg hb ho); have hb2 := H6.out.1.b2g hg; have d2 := blk_cell hb2 2; have f2 := blk_frozen hb2 2; clear ho hb hg hat hb2)
        have hw : wrap64 ((i : Int) + 1) = ((i + 1 : Nat) : Int) := by unfold wrap64; omega
        clear hz0 hz1 hz2 hz3 hz4 hz5 hz6 hz7 c2 d2 f2; go_wp2
        go_roundw
        case rel => exact ⟨i + 1, m9, m10, acc ++ [⟨m1, m2, m3, m4, m5, m6, m7, m8⟩], _, by first | rfl | (rw [← hw]; done) | simp [hw], by omega, by rw [List.length_append, List.length_singleton]; omega, ⟨by
          by_cases c : m10 = 0
          · have := HL2.out
            rw [if_pos c] at this; exact .inl ⟨c, this⟩
          · have := HL2.out
            rw [if_neg c] at this; simp only [Option.some.injEq, Prod.mk.injEq] at this
            exact .inr ⟨c, this.2.2⟩⟩, H9⟩
        case measure => simp [intOf]; omega
      · rw [show many.toNat - i = 0 by omega, module_Parse.l0] at hl
        simp only [Option.some.injEq, Prod.mk.injEq] at hl; obtain ⟨rfl, rfl, rfl⟩ := hl; have hd : decide ((i : Int) < many) = false := decide_eq_false hlt; go_wp2; refine bodyPost_end (results_none rfl _ _ _) rfl ?_
        first | exact ⟨rfl, v, acc, a, HS.out, fun _ => ⟨rfl, rfl⟩⟩ | exact ⟨rfl, v, HS.out⟩
    · have hb : (e == 0) = false := beq_eq_false_iff_ne.2 he
      have HE := Aside0.mk he; clear he
      cases hd : decide ((i : Int) < many)
      · go_wp2
        refine bodyPost_end (results_none rfl _ _ _) rfl ?_; exact ⟨rfl, v, acc, a, by rw [← hR]; exact HS.out, fun h0 => absurd (hR.trans h0) HE.out⟩
      · go_wp2
        refine bodyPost_end (results_none rfl _ _ _) rfl ?_; exact ⟨rfl, v, acc, a, by rw [← hR]; exact HS.out, fun h0 => absurd (hR.trans h0) HE.out⟩
def mp_r4 (k : Nat) (l : List Int) (G P : List S73) (M : List S47) (n a : Int) : Option (List S73 × List S73 × List S47 × Int × Int) := (octet_Get.f k l a 1).bind fun q => if q.2.2 = 0 then (if (q.1 < n ∨ q.1 = 255) ∧ q.2.1 = (l.length : Int) then some (G, P, M, if q.1 = 255 then -1 else q.1, 0) else some (module_Parse.bad 80)) else some (module_Parse.bad q.2.2)
def mp_r3 (k : Nat) (l : List Int) (G P : List S73) (n a : Int) : Option (List S73 × List S73 × List S47 × Int × Int) := (module_Parse.l0 k l n.toNat a []).bind fun m => if m.2.2 = 0 then mp_r4 k l G P m.1 n m.2.1 else some (module_Parse.bad m.2.2)
def mp_r2 (k : Nat) (l : List Int) (G P : List S73) (a : Int) : Option (List S73 × List S73 × List S47 × Int × Int) := (octet_Get.f k l a 1).bind fun n => if n.2.2 = 0 then (if n.1 ≤ 16 then mp_r3 k l G P n.1 n.2.1 else some (module_Parse.bad 80)) else some (module_Parse.bad n.2.2)
def mp_r1 (k : Nat) (l : List Int) (G : List S73) (a : Int) : Option (List S73 × List S73 × List S47 × Int × Int) := (pool_Read.f k l a).bind fun p => if p.2.2 = 0 then mp_r2 k l G p.1 p.2.1 else some (module_Parse.bad p.2.2)
def mp_r0 (k : Nat) (l : List Int) : Option (List S73 × List S73 × List S47 × Int × Int) := (pool_Read.f k l 0).bind fun g => if g.2.2 = 0 then (if (g.1.length : Int) ≤ 4 then mp_r1 k l g.1 g.2.1 else some (module_Parse.bad 80)) else some (module_Parse.bad g.2.2)
/-- The state ahead of the part j. -/
def MPR (k : Nat) (l : List Int) (R : List S73 × List S73 × List S47 × Int × Int) (w W : World) (A : Option Addr) (c : Nat) : Nat → Prop
  | 0 => ∃ N : Nat, PSt w W A l.length c N N (.slice none 0 0) (.slice none 0 0) (.slice none 0 0) [] [] [] 0 0 0 0 ∧ mp_r0 k l = some R
  | 1 => ∃ (N : Nat) (v0 : Value) (G : List S73) (a : Int), PSt w W A l.length c N N v0 (.slice none 0 0) (.slice none 0 0) G [] [] 0 a 0 0 ∧ mp_r1 k l G a = some R
  | 2 => ∃ (N1 N2 : Nat) (v0 v1 : Value) (G P : List S73) (a : Int), PSt w W A l.length c N1 N2 v0 v1 (.slice none 0 0) G P [] 0 a 0 0 ∧ mp_r2 k l G P a = some R
  | 3 => ∃ (N1 N2 : Nat) (v0 v1 : Value) (G P : List S73) (a n : Int), PSt w W A l.length c N1 N2 v0 v1 (.slice none 0 0) G P [] 0 a n 0 ∧ n ≤ 16 ∧ mp_r3 k l G P n a = some R
  | 4 => ∃ (N1 N2 : Nat) (v0 v1 v2 : Value) (G P : List S73) (M : List S47) (a n : Int), PSt w W A l.length c N1 N2 v0 v1 v2 G P M 0 a n 0 ∧ mp_r4 k l G P M n a = some R
  | 5 => ∃ (N1 N2 : Nat) (v0 v1 v2 : Value) (G P : List S73) (M : List S47) (mig a n : Int), PSt w W A l.length c N1 N2 v0 v1 v2 G P M mig a n 0 ∧ R = (G, P, M, if mig = 255 then -1 else mig, 0)
  | _ => False
def MPE (l : List Int) (w W : World) (A : Option Addr) (c : Nat) (e : Int) : Prop := ∃ (N1 N2 : Nat) (v0 v1 v2 : Value) (G P : List S73) (M : List S47) (mig a n : Int), PSt w W A l.length c N1 N2 v0 v1 v2 G P M mig a n e
theorem mp_step0 (k : Nat) {l : List Int} {R : List S73 × List S73 × List S47 × Int × Int} (hG : Gl w) (hr : Kd.C (Kd.int .u8) w A l.length l) (hc : l.length ≤ c) (h : MPR k l R w W A c 0) :
    Calls Tryd.prog 32 #[.pointer (some ⟨w.heap.size, 0, none⟩), .pointer (some ⟨w.heap.size + 1 + 1 + 1, 0, none⟩), .pointer (some ⟨w.heap.size + 1 + 1, 0, none⟩), .pointer (some ⟨w.heap.size + 1 + 1 + 1 + 1 + 1, 0, none⟩), .pointer (some ⟨w.heap.size + 1 + 1 + 1 + 1 + 1 + 1 + 1, 0, none⟩)] W fun er w' => er = .returned (.tuple #[]) ∧ ∃ e, MPE l w w' A c e ∧ ((e = 0 ∧ MPR k l R w w' A c 1) ∨ ((e != 0) = true ∧ R = module_Parse.bad e)) := by
  obtain ⟨N, hS, h⟩ := h; obtain ⟨⟨x1, x2, x3⟩, hx, h⟩ := Option.bind_eq_some_iff.mp h
  dsimp only at h
  refine (mp_part1 k hG hS hr hc hx ⟨rfl⟩).mono ?_; rintro er w' ⟨rfl, N', v, hS'⟩; refine ⟨rfl, _, ⟨_, _, _, _, _, _, _, _, _, _, _, hS'⟩, ?_⟩
  by_cases c0 : x3 = 0
  · rw [if_pos c0] at h hS' ⊢
    by_cases c1 : (x1.length : Int) ≤ 4
    · rw [if_pos c1] at h
      rw [if_pos (decide_eq_true c1)] at hS' ⊢; exact .inl ⟨rfl, N', v, x1, x2, hS', h⟩
    · rw [if_neg c1] at h
      rw [if_neg (by simpa using c1)]; exact .inr ⟨by decide, (Option.some.inj h).symm⟩
  · rw [if_neg c0] at h ⊢
    exact .inr ⟨bne_iff_ne.2 c0, (Option.some.inj h).symm⟩
theorem mp_step1 (k : Nat) {l : List Int} {R : List S73 × List S73 × List S47 × Int × Int} (hG : Gl w) (hr : Kd.C (Kd.int .u8) w A l.length l) (hc : l.length ≤ c) (h : MPR k l R w W A c 1) :
    Calls Tryd.prog 34 #[.pointer (some ⟨w.heap.size, 0, none⟩), .pointer (some ⟨w.heap.size + 1 + 1 + 1, 0, none⟩), .pointer (some ⟨w.heap.size + 1 + 1, 0, none⟩), .pointer (some ⟨w.heap.size + 1 + 1 + 1 + 1 + 1, 0, none⟩)] W fun er w' => er = .returned (.tuple #[]) ∧ ∃ e, MPE l w w' A c e ∧ ((e = 0 ∧ MPR k l R w w' A c 2) ∨ ((e != 0) = true ∧ R = module_Parse.bad e)) := by
  obtain ⟨N, v0, G, a, hS, h⟩ := h; obtain ⟨⟨x1, x2, x3⟩, hx, h⟩ := Option.bind_eq_some_iff.mp h
  dsimp only at h
  refine (mp_part2 k hG hS hr hc hx).mono ?_; rintro er w' ⟨rfl, N', v, hS'⟩; refine ⟨rfl, _, ⟨_, _, _, _, _, _, _, _, _, _, _, hS'⟩, ?_⟩
  by_cases c0 : x3 = 0
  · subst c0
    rw [if_pos rfl] at h
    exact .inl ⟨rfl, N, N', v0, v, G, x1, x2, hS', h⟩
  · rw [if_neg c0] at h
    exact .inr ⟨bne_iff_ne.2 c0, (Option.some.inj h).symm⟩
theorem mp_step2 (k : Nat) {l : List Int} {R : List S73 × List S73 × List S47 × Int × Int} (hG : Gl w) (hr : Kd.C (Kd.int .u8) w A l.length l) (hc : l.length ≤ c) (h : MPR k l R w W A c 2) :
    Calls Tryd.prog 35 #[.pointer (some ⟨w.heap.size + 1 + 1 + 1 + 1 + 1 + 1, 0, none⟩), .pointer (some ⟨w.heap.size + 1 + 1 + 1 + 1, 0, none⟩), .pointer (some ⟨w.heap.size + 1 + 1 + 1 + 1 + 1 + 1 + 1, 0, none⟩)] W fun er w' => er = .returned (.tuple #[]) ∧ ∃ e, MPE l w w' A c e ∧ ((e = 0 ∧ MPR k l R w w' A c 3) ∨ ((e != 0) = true ∧ R = module_Parse.bad e)) := by
  obtain ⟨N1, N2, v0, v1, G, P, a, hS, h⟩ := h; obtain ⟨⟨x1, x2, x3⟩, hx, h⟩ := Option.bind_eq_some_iff.mp h
  dsimp only at h
  refine (mp_part3 k hS hr hc hx ⟨rfl⟩).mono ?_; rintro er w' ⟨rfl, hS'⟩; refine ⟨rfl, _, ⟨_, _, _, _, _, _, _, _, _, _, _, hS'⟩, ?_⟩
  by_cases c0 : x3 = 0
  · rw [if_pos c0] at h hS' ⊢
    by_cases c1 : x1 ≤ 16
    · rw [if_pos c1] at h
      rw [if_pos (decide_eq_true c1)] at hS' ⊢; exact .inl ⟨rfl, N1, N2, v0, v1, G, P, x2, x1, hS', c1, h⟩
    · rw [if_neg c1] at h
      rw [if_neg (by simpa using c1)]; exact .inr ⟨by decide, (Option.some.inj h).symm⟩
  · rw [if_neg c0] at h ⊢
    exact .inr ⟨bne_iff_ne.2 c0, (Option.some.inj h).symm⟩
theorem mp_step3 (k : Nat) {l : List Int} {R : List S73 × List S73 × List S47 × Int × Int} (hG : Gl w) (hr : Kd.C (Kd.int .u8) w A l.length l) (hc : l.length ≤ c) (h : MPR k l R w W A c 3) :
    Calls Tryd.prog 36 #[.pointer (some ⟨w.heap.size + 1 + 1 + 1 + 1, 0, none⟩), .pointer (some ⟨w.heap.size + 1 + 1 + 1 + 1 + 1, 0, none⟩), .pointer (some ⟨w.heap.size, 0, none⟩), .pointer (some ⟨w.heap.size + 1 + 1 + 1, 0, none⟩), .pointer (some ⟨w.heap.size + 1 + 1, 0, none⟩)] W fun er w' => er = .returned (.tuple #[]) ∧ ∃ e, MPE l w w' A c e ∧ ((e = 0 ∧ MPR k l R w w' A c 4) ∨ ((e != 0) = true ∧ R = module_Parse.bad e)) := by
  obtain ⟨N1, N2, v0, v1, G, P, a, n, hS, h16, h⟩ := h; obtain ⟨⟨x1, x2, x3⟩, hx, h⟩ := Option.bind_eq_some_iff.mp h
  dsimp only at h
  refine (mp_part4 k hG hS h16 hr hc hx).mono ?_; rintro er w' ⟨rfl, v, M, a', hS', hM⟩; refine ⟨rfl, _, ⟨_, _, _, _, _, _, _, _, _, _, _, hS'⟩, ?_⟩
  by_cases c0 : x3 = 0
  · obtain ⟨rfl, rfl⟩ := hM c0
    subst c0
    rw [if_pos rfl] at h
    exact .inl ⟨rfl, N1, N2, v0, v1, v, G, P, M, a', n, hS', h⟩
  · rw [if_neg c0] at h
    exact .inr ⟨bne_iff_ne.2 c0, (Option.some.inj h).symm⟩
theorem mp_step4 (k : Nat) {l : List Int} {R : List S73 × List S73 × List S47 × Int × Int} (hG : Gl w) (hr : Kd.C (Kd.int .u8) w A l.length l) (hc : l.length ≤ c) (h : MPR k l R w W A c 4) :
    Calls Tryd.prog 38 #[.pointer (some ⟨w.heap.size + 1 + 1 + 1 + 1 + 1 + 1, 0, none⟩), .pointer (some ⟨w.heap.size + 1 + 1, 0, none⟩), .pointer (some ⟨w.heap.size + 1 + 1 + 1 + 1 + 1 + 1 + 1, 0, none⟩), .pointer (some ⟨w.heap.size + 1 + 1 + 1 + 1, 0, none⟩), .pointer (some ⟨w.heap.size + 1 + 1 + 1, 0, none⟩), .pointer (some ⟨w.heap.size, 0, none⟩)] W fun er w' => er = .returned (.tuple #[]) ∧ ∃ e, MPE l w w' A c e ∧ ((e = 0 ∧ MPR k l R w w' A c 5) ∨ ((e != 0) = true ∧ R = module_Parse.bad e)) := by
  obtain ⟨N1, N2, v0, v1, v2, G, P, M, a, n, hS, h⟩ := h; obtain ⟨⟨x1, x2, x3⟩, hx, h⟩ := Option.bind_eq_some_iff.mp h
  dsimp only at h
  refine (mp_part5 k hS hr hc hx ⟨rfl⟩).mono ?_; rintro er w' ⟨rfl, hS'⟩; refine ⟨rfl, _, ⟨_, _, _, _, _, _, _, _, _, _, _, hS'⟩, ?_⟩
  by_cases c0 : x3 = 0
  · rw [if_pos c0] at h hS' ⊢
    by_cases c1 : (x1 < n ∨ x1 = 255) ∧ x2 = (l.length : Int)
    · rw [if_pos c1] at h hS' ⊢
      exact .inl ⟨rfl, N1, N2, v0, v1, v2, G, P, M, x1, x2, n, hS', (Option.some.inj h).symm⟩
    · rw [if_neg c1] at h ⊢
      exact .inr ⟨by decide, (Option.some.inj h).symm⟩
  · rw [if_neg c0] at h ⊢
    exact .inr ⟨bne_iff_ne.2 c0, (Option.some.inj h).symm⟩
theorem mp_index0 (v0 v1 v2 v3 v4 : Value) (w : World) : (Instr.index 68 (.agg #[v0, v1, v2, v3, v4]) (.int .i64 0)).run Tryd.prog w = .ok v0 w := by
  simp [Instr.index, run_underlying Tryd.underlying68, asIntOf, go_sem]
theorem mp_index1 (v0 v1 v2 v3 v4 : Value) (w : World) : (Instr.index 68 (.agg #[v0, v1, v2, v3, v4]) (.int .i64 1)).run Tryd.prog w = .ok v1 w := by
  simp [Instr.index, run_underlying Tryd.underlying68, asIntOf, go_sem]
theorem mp_index2 (v0 v1 v2 v3 v4 : Value) (w : World) : (Instr.index 68 (.agg #[v0, v1, v2, v3, v4]) (.int .i64 2)).run Tryd.prog w = .ok v2 w := by
  simp [Instr.index, run_underlying Tryd.underlying68, asIntOf, go_sem]
theorem mp_index3 (v0 v1 v2 v3 v4 : Value) (w : World) : (Instr.index 68 (.agg #[v0, v1, v2, v3, v4]) (.int .i64 3)).run Tryd.prog w = .ok v3 w := by
  simp [Instr.index, run_underlying Tryd.underlying68, asIntOf, go_sem]
theorem mp_index4 (v0 v1 v2 v3 v4 : Value) (w : World) : (Instr.index 68 (.agg #[v0, v1, v2, v3, v4]) (.int .i64 4)).run Tryd.prog w = .ok v4 w := by
  simp [Instr.index, run_underlying Tryd.underlying68, asIntOf, go_sem]
/-- The result's block filled. -/
theorem PSt.res (h : PSt w W A m c N1 N2 v0 v1 v2 G P M mig at_ many e) (a0 a1 a2 a3 : Value) : ((((W.setCell ⟨w.heap.size + 1, 0, none⟩ a0).setCell ⟨w.heap.size + 1, 1, none⟩ a1).setCell ⟨w.heap.size + 1, 2, none⟩ a2).setCell ⟨w.heap.size + 1, 3, none⟩ a3).heap[w.heap.size + 1]? = some (.cells #[a0, a1, a2, a3] 26 (0, 0)) ∧ Kept W ((((W.setCell ⟨w.heap.size + 1, 0, none⟩ a0).setCell ⟨w.heap.size + 1, 1, none⟩ a1).setCell ⟨w.heap.size + 1, 2, none⟩ a2).setCell ⟨w.heap.size + 1, 3, none⟩ a3) (fun k => k = w.heap.size + 1) ∧ Below w.heap.size w ((((W.setCell ⟨w.heap.size + 1, 0, none⟩ a0).setCell ⟨w.heap.size + 1, 1, none⟩ a1).setCell ⟨w.heap.size + 1, 2, none⟩ a2).setCell ⟨w.heap.size + 1, 3, none⟩ a3) := by
  have l : w.heap.size ≤ w.heap.size + 1 := Nat.le_add_right _ _; refine ⟨?_, ((((Kept.refl W (fun k => k = w.heap.size + 1)).setCell (p := ⟨w.heap.size + 1, 0, none⟩) (.inl rfl) a0).setCell (p := ⟨w.heap.size + 1, 1, none⟩) (.inl rfl) a1).setCell (p := ⟨w.heap.size + 1, 2, none⟩) (.inl rfl) a2).setCell (p := ⟨w.heap.size + 1, 3, none⟩) (.inl rfl) a3, (((h.below.setCell (p := ⟨w.heap.size + 1, 0, none⟩) l a0).setCell (p := ⟨w.heap.size + 1, 1, none⟩) l a1).setCell (p := ⟨w.heap.size + 1, 2, none⟩) l a2).setCell (p := ⟨w.heap.size + 1, 3, none⟩) l a3⟩; have b := blk_put (blk_put (blk_put (blk_put h.b1 0 a0 rfl) 1 a1 rfl) 2 a2 rfl) 3 a3 rfl; simp only [List.setIfInBounds_toArray, List.set_cons_zero, List.set_cons_succ] at b; exact b
/-- What is told at the end. -/
theorem PSt.told (h : PSt w W A m c N1 N2 v0 v1 v2 G P M mig at_ many e) (a3 : Value) : Kd.R k73 73 ((((W.setCell ⟨w.heap.size + 1, 0, none⟩ v0).setCell ⟨w.heap.size + 1, 1, none⟩ v1).setCell ⟨w.heap.size + 1, 2, none⟩ v2).setCell ⟨w.heap.size + 1, 3, none⟩ a3) w.heap.size (fun k_ => some k_ ≠ (v1 : Value).ownBlock) v0 G ∧ Kd.R k73 73 ((((W.setCell ⟨w.heap.size + 1, 0, none⟩ v0).setCell ⟨w.heap.size + 1, 1, none⟩ v1).setCell ⟨w.heap.size + 1, 2, none⟩ v2).setCell ⟨w.heap.size + 1, 3, none⟩ a3) w.heap.size (fun k_ => some k_ ≠ (v0 : Value).ownBlock) v1 P ∧ Kd.S k47 47 ((((W.setCell ⟨w.heap.size + 1, 0, none⟩ v0).setCell ⟨w.heap.size + 1, 1, none⟩ v1).setCell ⟨w.heap.size + 1, 2, none⟩ v2).setCell ⟨w.heap.size + 1, 3, none⟩ a3) w.heap.size (fun _ => True) v2 M := by
  obtain ⟨_, q2, _⟩ := h.res v0 v1 v2 a3; have hN := h.hN; refine ⟨Kd.R_mono (Kd.R_kept h.r0 q2 (fun k ho e => by omega)) (fun k hk e => ?_), Kd.R_mono (Kd.R_kept h.r1 q2 (fun k ho e => by omega)) (fun k hk e => ?_), Kd.S_mono (Kd.S_kept h.r2 q2 (fun k ho e => by omega)) (fun _ _ => trivial)⟩
  · have := h.r1.1 k e.symm; omega
  · have := h.r0.1 k e.symm; omega
/-- The blocks that were made, one behind the other. -/
structure PB (w W : World) (bs : List (Array Value × TypeId)) : Prop where
  size : W.heap.size = w.heap.size + bs.length
  below : Below w.heap.size w W
  blk : ∀ (j : Nat) (cs : Array Value) (t : TypeId), bs[j]? = some (cs, t) → W.heap[w.heap.size + j]? = some (.cells cs t (0, 0))
theorem PB.nil (w : World) : PB w w [] := ⟨rfl, Below.refl _ _, fun j cs t h => by simp at h⟩
theorem PB.push {w W : World} {bs : List (Array Value × TypeId)} (h : PB w W bs) (cs : Array Value) (t : TypeId) : PB w (W.alloc (.cells cs t)) (bs ++ [(cs, t)]) := by
  refine ⟨by rw [World.size_alloc, h.size, List.length_append]; rfl, below_alloc h.below _, fun j cs' t' hj => ?_⟩
  rcases Nat.lt_trichotomy j bs.length with hl | rfl | hl
  · rw [List.getElem?_append_left hl] at hj
    exact blk_alloc (h.blk j cs' t' hj) _
  · rw [List.getElem?_append_right (Nat.le_refl _), Nat.sub_self] at hj
    obtain ⟨rfl, rfl⟩ := Prod.mk.inj (Option.some.inj hj); rw [← h.size]; exact blk_new W _
  · rw [List.getElem?_eq_none (by simp; omega)] at hj; cases hj
set_option maxHeartbeats 8000000 in
theorem module_Parse.calls (k : Nat) (A0 : Option Addr) (c0 : Nat) (l0 : List Int) (r1 r2 : List (S73)) (r3 : List (S47)) (r4 r5 : Int) (w : World) (hG : Gl w) (hr0 : Kd.C (Kd.int .u8) w A0 l0.length l0) (hc0 : l0.length ≤ c0) (h : module_Parse.f k l0 = some (r1, r2, r3, r4, r5)) :
  Calls Tryd.prog 9 #[.slice A0 l0.length c0] w fun e w' => ∃ v0_ v1_ v2_ : Value, e = .returned (.tuple #[.agg #[v0_, v1_, v2_, .int .i64 r4], .int .i64 r5]) ∧ Kd.R k73 73 w' w.heap.size (fun k_ => some k_ ≠ (v1_ : Value).ownBlock) v0_ r1 ∧ Kd.R k73 73 w' w.heap.size (fun k_ => some k_ ≠ (v0_ : Value).ownBlock) v1_ r2 ∧ Kd.S k47 47 w' w.heap.size (fun _ => True) v2_ r3 ∧ Below w.heap.size w w' := by
  have HG := Aside0.mk hG; have HR := Aside0.mk hr0; have HC := Aside0.mk hc0
  unfold module_Parse.f at h
  have H := Aside0.mk h; clear hG hr0 hc0 h
  go_enter Tryd.func9, Tryd.ntmps9

  go_upto_region 1 with (go_step3)
  refine wp_gen (fun W => PB w W [(#[.slice A0 l0.length c0], 22), (#[.slice none 0 0, .slice none 0 0, .slice none 0 0, .int .i64 0], 26)]) (((PB.nil w).push _ _).push _ _) (fun W1 hW => ?_); have HW := Aside0.mk hW; have b0_ : W1.heap[w.heap.size]? = some (.cells #[.slice A0 l0.length c0] 22 (0, 0)) := hW.blk 0 _ _ rfl; have c0_ := blk_cell b0_ 0; clear b0_ hW
  by_cases hlen : (l0.length : Int) > 2000
  · have hh := H.out
    rw [if_pos hlen] at hh; simp only [module_Parse.bad, Option.some.injEq, Prod.mk.injEq] at hh; obtain ⟨rfl, rfl, rfl, rfl, rfl⟩ := hh; have hd : decide (2000 < (l0.length : Int)) = true := decide_eq_true hlen; clear H hlen; have b1 : W1.heap[w.heap.size + 1]? = some (.cells #[.slice none 0 0, .slice none 0 0, .slice none 0 0, .int .i64 0] 26 (0, 0)) := HW.out.blk 1 _ _ rfl; have B1 := Aside0.mk b1; have d0 := blk_cell b1 0; have d1 := blk_cell b1 1; have d2 := blk_cell b1 2; have d3 := blk_cell b1 3; have f0 := blk_frozen b1 0; have f1 := blk_frozen b1 1; have f2 := blk_frozen b1 2; have f3 := blk_frozen b1 3; clear b1; go_wp2; simp only [Exit.noGoto_ret]
    refine bodyPost_ret (results_ct rfl _ _ (w.heap.size + 1) 26 #[.slice none 0 0, .slice none 0 0, .slice none 0 0, .int .i64 0] (0, 0) _ rfl (by
      have b := blk_put (blk_put (blk_put (blk_put B1.out 0 (.slice none 0 0) rfl) 1 (.slice none 0 0) rfl) 2 (.slice none 0 0) rfl) 3 (.int .i64 0) rfl; simp only [List.setIfInBounds_toArray, List.set_cons_zero, List.set_cons_succ] at b
      exact b) Tryd.underlying26 rfl (by kernel_rfl)) rfl ?_
    have l : w.heap.size ≤ w.heap.size + 1 := Nat.le_add_right _ _; exact ⟨_, _, _, rfl, Kd.R_nil _ _ _ _ _, Kd.R_nil _ _ _ _ _, Kd.S_nil _ _ _ _ _, (((HW.out.below.setCell (p := ⟨w.heap.size + 1, 0, none⟩) l _).setCell (p := ⟨w.heap.size + 1, 1, none⟩) l _).setCell (p := ⟨w.heap.size + 1, 2, none⟩) l _).setCell (p := ⟨w.heap.size + 1, 3, none⟩) l _⟩
  · have hd : decide (2000 < (l0.length : Int)) = false := decide_eq_false hlen
    have hh := H.out; rw [if_neg hlen] at hh; have HH := Aside0.mk hh; clear H hlen hh; have hsz : W1.heap.size = w.heap.size + 1 + 1 := HW.out.size
    go_upto_region 4 with (go_step3)
    refine wp_gen (fun W => PB w W [(#[.slice A0 l0.length c0], 22), (#[.slice none 0 0, .slice none 0 0, .slice none 0 0, .int .i64 0], 26), (#[.slice none 0 0, .slice none 0 0, .slice none 0 0, .int .i64 0], 26)]) (HW.out.push _ _) (fun W2 hW => ?_); have H2 := Aside0.mk hW; clear hW HW hsz hd c0_; have hsz : W2.heap.size = w.heap.size + 1 + 1 + 1 := H2.out.size; have HP := Aside0.mk ((H2.out.push #[.int .i64 0] 3).push #[.int .i64 0] 3); have p3 : ((W2.alloc (.cells #[.int .i64 0] 3)).alloc (.cells #[.int .i64 0] 3)).heap[w.heap.size + 1 + 1 + 1]? = some (.cells #[.int .i64 0] 3 (0, 0)) := HP.out.blk 3 _ _ rfl; have p4 : ((W2.alloc (.cells #[.int .i64 0] 3)).alloc (.cells #[.int .i64 0] 3)).heap[w.heap.size + 1 + 1 + 1 + 1]? = some (.cells #[.int .i64 0] 3 (0, 0)) := HP.out.blk 4 _ _ rfl; have d3 := blk_cell p3 0; have d4 := blk_cell p4 0; have f3 := blk_frozen p3 0; have f4 := blk_frozen p4 0; clear p3 p4
    go_upto_region 5 with (go_step3)
    refine wp_gen (fun W => PB w W [(#[.slice A0 l0.length c0], 22), (#[.slice none 0 0, .slice none 0 0, .slice none 0 0, .int .i64 0], 26), (#[.slice none 0 0, .slice none 0 0, .slice none 0 0, .int .i64 0], 26), (#[.int .i64 0], 3), (#[.int .i64 0], 3)]) (by
      have q := HP.out; simp only [List.cons_append, List.nil_append] at q
      exact q) (fun W3 hW => ?_)
    have H3 := Aside0.mk hW; clear hW HP H2 hsz d3 d4 f3 f4; have hsz : W3.heap.size = w.heap.size + 1 + 1 + 1 + 1 + 1 := H3.out.size
    go_upto_region 6 with (go_step3)
    refine wp_gen (fun W => PB w W [(#[.slice A0 l0.length c0], 22), (#[.slice none 0 0, .slice none 0 0, .slice none 0 0, .int .i64 0], 26), (#[.slice none 0 0, .slice none 0 0, .slice none 0 0, .int .i64 0], 26), (#[.int .i64 0], 3), (#[.int .i64 0], 3), (#[.int .i64 0], 29)]) (H3.out.push _ _) (fun W4 hW => ?_); have H4 := Aside0.mk hW; clear hW H3 hsz; have hsz : W4.heap.size = w.heap.size + 1 + 1 + 1 + 1 + 1 + 1 := H4.out.size; have HP := Aside0.mk (H4.out.push #[.nilFunc] 62); have p6 : (W4.alloc (.cells #[.nilFunc] 62)).heap[w.heap.size + 1 + 1 + 1 + 1 + 1 + 1]? = some (.cells #[.nilFunc] 62 (0, 0)) := HP.out.blk 6 _ _ rfl; have d6 := blk_cell p6 0; have f6 := blk_frozen p6 0; clear p6
    go_upto_region 7 with (go_step3)
    refine wp_gen (fun W => PB w W [(#[.slice A0 l0.length c0], 22), (#[.slice none 0 0, .slice none 0 0, .slice none 0 0, .int .i64 0], 26), (#[.slice none 0 0, .slice none 0 0, .slice none 0 0, .int .i64 0], 26), (#[.int .i64 0], 3), (#[.int .i64 0], 3), (#[.int .i64 0], 29), (#[.func (.func 29) #[] #[.pointer (some ⟨w.heap.size, 0, none⟩), .pointer (some ⟨w.heap.size + 1 + 1 + 1, 0, none⟩), .pointer (some ⟨w.heap.size + 1 + 1 + 1 + 1 + 1, 0, none⟩)]], 62)]) (by
      have q := H4.out.push #[.func (.func 29) #[] #[.pointer (some ⟨w.heap.size, 0, none⟩), .pointer (some ⟨w.heap.size + 1 + 1 + 1, 0, none⟩), .pointer (some ⟨w.heap.size + 1 + 1 + 1 + 1 + 1, 0, none⟩)]] 62; simp only [List.cons_append, List.nil_append, List.set_cons_succ, List.set_cons_zero, List.setIfInBounds_toArray] at q
      exact q) (fun W5 hW => ?_)
    have H5 := Aside0.mk hW; clear hW HP H4 hsz d6 f6; have hsz : W5.heap.size = w.heap.size + 1 + 1 + 1 + 1 + 1 + 1 + 1 := H5.out.size; have HP := Aside0.mk (H5.out.push #[.nilFunc] 63); have p7 : (W5.alloc (.cells #[.nilFunc] 63)).heap[w.heap.size + 1 + 1 + 1 + 1 + 1 + 1 + 1]? = some (.cells #[.nilFunc] 63 (0, 0)) := HP.out.blk 7 _ _ rfl; have d7 := blk_cell p7 0; have f7 := blk_frozen p7 0; clear p7
    go_upto_region 8 with (go_step3)
    refine wp_gen (fun W => PB w W [(#[.slice A0 l0.length c0], 22), (#[.slice none 0 0, .slice none 0 0, .slice none 0 0, .int .i64 0], 26), (#[.slice none 0 0, .slice none 0 0, .slice none 0 0, .int .i64 0], 26), (#[.int .i64 0], 3), (#[.int .i64 0], 3), (#[.int .i64 0], 29), (#[.func (.func 29) #[] #[.pointer (some ⟨w.heap.size, 0, none⟩), .pointer (some ⟨w.heap.size + 1 + 1 + 1, 0, none⟩), .pointer (some ⟨w.heap.size + 1 + 1 + 1 + 1 + 1, 0, none⟩)]], 62), (#[.func (.func 31) #[] #[.pointer (some ⟨w.heap.size + 1 + 1 + 1 + 1 + 1, 0, none⟩)]], 63)]) (by
      have q := H5.out.push #[.func (.func 31) #[] #[.pointer (some ⟨w.heap.size + 1 + 1 + 1 + 1 + 1, 0, none⟩)]] 63; simp only [List.cons_append, List.nil_append, List.set_cons_succ, List.set_cons_zero, List.setIfInBounds_toArray] at q
      exact q) (fun W6 hW => ?_)
    have H6 := Aside0.mk (show PSt w W6 A0 l0.length c0 (w.heap.size + 8) (w.heap.size + 8) (.slice none 0 0) (.slice none 0 0) (.slice none 0 0) [] [] [] 0 0 0 0 from ⟨hW.blk 0 _ _ rfl, hW.blk 1 _ _ rfl, hW.blk 2 _ _ rfl, hW.blk 3 _ _ rfl, hW.blk 4 _ _ rfl, hW.blk 5 _ _ rfl, hW.blk 6 _ _ rfl, hW.blk 7 _ _ rfl, ⟨by omega, Nat.le_refl _, Nat.le_of_eq hW.size.symm⟩, Kd.R_nil _ _ _ _ _, Kd.R_nil _ _ _ _ _, Kd.S_nil _ _ _ _ _, hW.below⟩); clear hW HP H5 hsz d7 f7; have H0 : MPR k l0 (r1, r2, r3, r4, r5) w W6 A0 c0 0 := ⟨_, H6.out, HH.out⟩; have HM0 := Aside0.mk H0; clear H0 H6 HH; go_wp2
    go_loopw [11, 24] (fun _ u24 wr => ∃ j : Nat, u24 = .int .i64 (j : Int) ∧ j ≤ 5 ∧ Aside0 (MPR k l0 (r1, r2, r3, r4, r5) w wr A0 c0 j)) (fun _ u24 _ => 5 - (intOf u24).toNat)
    case atStart => exact ⟨0, rfl, by omega, HM0⟩
    case round =>
      clear HM0; obtain ⟨j, rfl, hj, HM⟩ := hrel
      obtain rfl | rfl | rfl | rfl | rfl | rfl : j = 0 ∨ j = 1 ∨ j = 2 ∨ j = 3 ∨ j = 4 ∨ j = 5 := by omega
      · have hix := mp_index0
        go_wp2_with (go_at_call 32; (refine (mp_step0 k HG.out HR.out HC.out HM.out).mono ?_); rintro er w1 ⟨rfl, e, ⟨N1, N2, v0, v1, v2, G, P, M, mig, at_, many, hS⟩, hM⟩; have HS := Aside0.mk hS; have c5 := blk_cell hS.b5 0; have d0 := blk_cell hS.b1 0; have d1 := blk_cell hS.b1 1; have d2 := blk_cell hS.b1 2; have d3 := blk_cell hS.b1 3; have f0 := blk_frozen hS.b1 0; have f1 := blk_frozen hS.b1 1; have f2 := blk_frozen hS.b1 2; have f3 := blk_frozen hS.b1 3; clear hS; rcases hM with ⟨rfl, hM⟩ | ⟨hne, hR⟩; (have H1 := Aside0.mk hM; clear hM); rotate_left; (have H1 := Aside0.mk hR; clear hR); rotate_left)
        · exact ⟨⟨1, rfl, by omega, H1⟩, by simp [intOf]⟩
        · obtain ⟨rfl, rfl, rfl, rfl, rfl⟩ := (by simpa [module_Parse.bad] using H1.out : r1 = [] ∧ r2 = [] ∧ r3 = [] ∧ r4 = 0 ∧ r5 = e)
          clear H1 HM hne
          go_region_with (fail)
          all_goals
            go_wp2; simp only [Exit.noGoto_ret]; obtain ⟨q1, _, q3⟩ := HS.out.res (.slice none 0 0) (.slice none 0 0) (.slice none 0 0) (.int .i64 0); refine bodyPost_ret (results_ct rfl _ _ (w.heap.size + 1) 26 #[.slice none 0 0, .slice none 0 0, .slice none 0 0, .int .i64 0] (0, 0) _ rfl (blk_drew q1) Tryd.underlying26 rfl (by kernel_rfl)) rfl ?_; exact ⟨_, _, _, rfl, Kd.R_nil _ _ _ _ _, Kd.R_nil _ _ _ _ _, Kd.S_nil _ _ _ _ _, q3.drew⟩
      · have hix := mp_index1
        go_wp2_with (go_at_call 34; (refine (mp_step1 k HG.out HR.out HC.out HM.out).mono ?_); rintro er w1 ⟨rfl, e, ⟨N1, N2, v0, v1, v2, G, P, M, mig, at_, many, hS⟩, hM⟩; have HS := Aside0.mk hS; have c5 := blk_cell hS.b5 0; have d0 := blk_cell hS.b1 0; have d1 := blk_cell hS.b1 1; have d2 := blk_cell hS.b1 2; have d3 := blk_cell hS.b1 3; have f0 := blk_frozen hS.b1 0; have f1 := blk_frozen hS.b1 1; have f2 := blk_frozen hS.b1 2; have f3 := blk_frozen hS.b1 3; clear hS; rcases hM with ⟨rfl, hM⟩ | ⟨hne, hR⟩; (have H1 := Aside0.mk hM; clear hM); rotate_left; (have H1 := Aside0.mk hR; clear hR); rotate_left)
        · exact ⟨⟨2, rfl, by omega, H1⟩, by simp [intOf]⟩
        · obtain ⟨rfl, rfl, rfl, rfl, rfl⟩ := (by simpa [module_Parse.bad] using H1.out : r1 = [] ∧ r2 = [] ∧ r3 = [] ∧ r4 = 0 ∧ r5 = e)
          clear H1 HM hne
          go_region_with (fail)
          all_goals
            go_wp2; simp only [Exit.noGoto_ret]; obtain ⟨q1, _, q3⟩ := HS.out.res (.slice none 0 0) (.slice none 0 0) (.slice none 0 0) (.int .i64 0); refine bodyPost_ret (results_ct rfl _ _ (w.heap.size + 1) 26 #[.slice none 0 0, .slice none 0 0, .slice none 0 0, .int .i64 0] (0, 0) _ rfl (blk_drew q1) Tryd.underlying26 rfl (by kernel_rfl)) rfl ?_; exact ⟨_, _, _, rfl, Kd.R_nil _ _ _ _ _, Kd.R_nil _ _ _ _ _, Kd.S_nil _ _ _ _ _, q3.drew⟩
      · have hix := mp_index2
        go_wp2_with (go_at_call 35; (refine (mp_step2 k HG.out HR.out HC.out HM.out).mono ?_); rintro er w1 ⟨rfl, e, ⟨N1, N2, v0, v1, v2, G, P, M, mig, at_, many, hS⟩, hM⟩; have HS := Aside0.mk hS; have c5 := blk_cell hS.b5 0; have d0 := blk_cell hS.b1 0; have d1 := blk_cell hS.b1 1; have d2 := blk_cell hS.b1 2; have d3 := blk_cell hS.b1 3; have f0 := blk_frozen hS.b1 0; have f1 := blk_frozen hS.b1 1; have f2 := blk_frozen hS.b1 2; have f3 := blk_frozen hS.b1 3; clear hS; rcases hM with ⟨rfl, hM⟩ | ⟨hne, hR⟩; (have H1 := Aside0.mk hM; clear hM); rotate_left; (have H1 := Aside0.mk hR; clear hR); rotate_left)
        · exact ⟨⟨3, rfl, by omega, H1⟩, by simp [intOf]⟩
        · obtain ⟨rfl, rfl, rfl, rfl, rfl⟩ := (by simpa [module_Parse.bad] using H1.out : r1 = [] ∧ r2 = [] ∧ r3 = [] ∧ r4 = 0 ∧ r5 = e)
          clear H1 HM hne
          go_region_with (fail)
          all_goals
            go_wp2; simp only [Exit.noGoto_ret]; obtain ⟨q1, _, q3⟩ := HS.out.res (.slice none 0 0) (.slice none 0 0) (.slice none 0 0) (.int .i64 0); refine bodyPost_ret (results_ct rfl _ _ (w.heap.size + 1) 26 #[.slice none 0 0, .slice none 0 0, .slice none 0 0, .int .i64 0] (0, 0) _ rfl (blk_drew q1) Tryd.underlying26 rfl (by kernel_rfl)) rfl ?_; exact ⟨_, _, _, rfl, Kd.R_nil _ _ _ _ _, Kd.R_nil _ _ _ _ _, Kd.S_nil _ _ _ _ _, q3.drew⟩
      · have hix := mp_index3
        go_wp2_with (go_at_call 36; (refine (mp_step3 k HG.out HR.out HC.out HM.out).mono ?_); rintro er w1 ⟨rfl, e, ⟨N1, N2, v0, v1, v2, G, P, M, mig, at_, many, hS⟩, hM⟩; have HS := Aside0.mk hS; have c5 := blk_cell hS.b5 0; have d0 := blk_cell hS.b1 0; have d1 := blk_cell hS.b1 1; have d2 := blk_cell hS.b1 2; have d3 := blk_cell hS.b1 3; have f0 := blk_frozen hS.b1 0; have f1 := blk_frozen hS.b1 1; have f2 := blk_frozen hS.b1 2; have f3 := blk_frozen hS.b1 3; clear hS; rcases hM with ⟨rfl, hM⟩ | ⟨hne, hR⟩; (have H1 := Aside0.mk hM; clear hM); rotate_left; (have H1 := Aside0.mk hR; clear hR); rotate_left)
        · exact ⟨⟨4, rfl, by omega, H1⟩, by simp [intOf]⟩
        · obtain ⟨rfl, rfl, rfl, rfl, rfl⟩ := (by simpa [module_Parse.bad] using H1.out : r1 = [] ∧ r2 = [] ∧ r3 = [] ∧ r4 = 0 ∧ r5 = e)
          clear H1 HM hne
          go_region_with (fail)
          all_goals
            go_wp2; simp only [Exit.noGoto_ret]; obtain ⟨q1, _, q3⟩ := HS.out.res (.slice none 0 0) (.slice none 0 0) (.slice none 0 0) (.int .i64 0); refine bodyPost_ret (results_ct rfl _ _ (w.heap.size + 1) 26 #[.slice none 0 0, .slice none 0 0, .slice none 0 0, .int .i64 0] (0, 0) _ rfl (blk_drew q1) Tryd.underlying26 rfl (by kernel_rfl)) rfl ?_; exact ⟨_, _, _, rfl, Kd.R_nil _ _ _ _ _, Kd.R_nil _ _ _ _ _, Kd.S_nil _ _ _ _ _, q3.drew⟩
      · have hix := mp_index4
        go_wp2_with (go_at_call 38; (refine (mp_step4 k HG.out HR.out HC.out HM.out).mono ?_); rintro er w1 ⟨rfl, e, ⟨N1, N2, v0, v1, v2, G, P, M, mig, at_, many, hS⟩, hM⟩; have HS := Aside0.mk hS; have c5 := blk_cell hS.b5 0; have d0 := blk_cell hS.b1 0; have d1 := blk_cell hS.b1 1; have d2 := blk_cell hS.b1 2; have d3 := blk_cell hS.b1 3; have f0 := blk_frozen hS.b1 0; have f1 := blk_frozen hS.b1 1; have f2 := blk_frozen hS.b1 2; have f3 := blk_frozen hS.b1 3; clear hS; rcases hM with ⟨rfl, hM⟩ | ⟨hne, hR⟩; (have H1 := Aside0.mk hM; clear hM); rotate_left; (have H1 := Aside0.mk hR; clear hR); rotate_left)
        · exact ⟨⟨5, rfl, by omega, H1⟩, by simp [intOf]⟩
        · obtain ⟨rfl, rfl, rfl, rfl, rfl⟩ := (by simpa [module_Parse.bad] using H1.out : r1 = [] ∧ r2 = [] ∧ r3 = [] ∧ r4 = 0 ∧ r5 = e)
          clear H1 HM hne
          go_region_with (fail)
          all_goals
            go_wp2; simp only [Exit.noGoto_ret]; obtain ⟨q1, _, q3⟩ := HS.out.res (.slice none 0 0) (.slice none 0 0) (.slice none 0 0) (.int .i64 0); refine bodyPost_ret (results_ct rfl _ _ (w.heap.size + 1) 26 #[.slice none 0 0, .slice none 0 0, .slice none 0 0, .int .i64 0] (0, 0) _ rfl (blk_drew q1) Tryd.underlying26 rfl (by kernel_rfl)) rfl ?_; exact ⟨_, _, _, rfl, Kd.R_nil _ _ _ _ _, Kd.R_nil _ _ _ _ _, Kd.S_nil _ _ _ _ _, q3.drew⟩
      · obtain ⟨N1, N2, v0, v1, v2, G, P, M, mig, at_, many, hS, hR⟩ := HM.out
        obtain ⟨A1, c1, rfl⟩ := Kd.R_slice hS.r0; obtain ⟨A2, c2, rfl⟩ := Kd.R_slice hS.r1; obtain ⟨A3, c3, rfl⟩ := Kd.S_slice hS.r2; simp only [Prod.mk.injEq] at hR; obtain ⟨rfl, rfl, rfl, h4, rfl⟩ := hR; have H4 := Aside0.mk h4; have HS := Aside0.mk hS; have c5 := blk_cell hS.b5 0; have e3 := blk_cell hS.b2 3; have g3 := blk_frozen hS.b2 3; clear hS h4 HM
        by_cases hm : mig = 255
        · have hd : (mig == 255) = true := by simpa using hm
          have HX : Aside0 (r4 = -1) := ⟨by rw [H4.out, if_pos hm]⟩; clear H4 hm
          go_upto_region 18 with (fail)
          refine wp_gen (fun W7 => PSt w W7 A0 l0.length c0 N1 N2 (.slice A1 r1.length c1) (.slice A2 r2.length c2) (.slice A3 r3.length c3) r1 r2 r3 r4 at_ many 0) (by
            rw [HX.out]
            exact HS.out.setM 3 (.int .i64 (-1)) (N1' := N1) (N2' := N2) HS.out.hN rfl HS.out.r0 HS.out.r1 HS.out.r2) (fun W7 h7 => ?_)
          have H7 := Aside0.mk h7; clear h7 c5 e3 g3 hd HX HS; have d0 := blk_cell H7.out.b1 0; have d1 := blk_cell H7.out.b1 1; have d2 := blk_cell H7.out.b1 2; have d3 := blk_cell H7.out.b1 3; have f0 := blk_frozen H7.out.b1 0; have f1 := blk_frozen H7.out.b1 1; have f2 := blk_frozen H7.out.b1 2; have f3 := blk_frozen H7.out.b1 3; have e0 := blk_cell H7.out.b2 0; have e1 := blk_cell H7.out.b2 1; have e2 := blk_cell H7.out.b2 2; have e3 := blk_cell H7.out.b2 3; go_wp2; simp only [Exit.noGoto_ret]; obtain ⟨q1, _, q3⟩ := H7.out.res (.slice A1 r1.length c1) (.slice A2 r2.length c2) (.slice A3 r3.length c3) (.int .i64 r4); obtain ⟨q4, q5, q6⟩ := H7.out.told (.int .i64 r4); refine bodyPost_ret (results_ct rfl _ _ (w.heap.size + 1) 26 #[.slice A1 r1.length c1, .slice A2 r2.length c2, .slice A3 r3.length c3, .int .i64 r4] (0, 0) _ rfl q1 Tryd.underlying26 rfl (by kernel_rfl)) rfl ?_; exact ⟨_, _, _, rfl, q4, q5, q6, q3⟩
        · have hd : (mig == 255) = false := by simpa using hm
          have HX : Aside0 (r4 = mig) := ⟨by rw [H4.out, if_neg hm]⟩; clear H4 hm
          go_upto_region 18 with (fail)
          refine wp_gen (fun W7 => PSt w W7 A0 l0.length c0 N1 N2 (.slice A1 r1.length c1) (.slice A2 r2.length c2) (.slice A3 r3.length c3) r1 r2 r3 r4 at_ many 0) (by
            rw [HX.out]
            exact HS.out) (fun W7 h7 => ?_)
          have H7 := Aside0.mk h7; clear h7 c5 e3 g3 hd HX HS; have d0 := blk_cell H7.out.b1 0; have d1 := blk_cell H7.out.b1 1; have d2 := blk_cell H7.out.b1 2; have d3 := blk_cell H7.out.b1 3; have f0 := blk_frozen H7.out.b1 0; have f1 := blk_frozen H7.out.b1 1; have f2 := blk_frozen H7.out.b1 2; have f3 := blk_frozen H7.out.b1 3; have e0 := blk_cell H7.out.b2 0; have e1 := blk_cell H7.out.b2 1; have e2 := blk_cell H7.out.b2 2; have e3 := blk_cell H7.out.b2 3; go_wp2; simp only [Exit.noGoto_ret]; obtain ⟨q1, _, q3⟩ := H7.out.res (.slice A1 r1.length c1) (.slice A2 r2.length c2) (.slice A3 r3.length c3) (.int .i64 r4); obtain ⟨q4, q5, q6⟩ := H7.out.told (.int .i64 r4); refine bodyPost_ret (results_ct rfl _ _ (w.heap.size + 1) 26 #[.slice A1 r1.length c1, .slice A2 r2.length c2, .slice A3 r3.length c3, .int .i64 r4] (0, 0) _ rfl q1 Tryd.underlying26 rfl (by kernel_rfl)) rfl ?_; exact ⟨_, _, _, rfl, q4, q5, q6, q3⟩
end mparse

end Go.Proofs.YthmjblmdbcmjcaaDoor.B
