/- Contracts of the functions of this seat (each: the call of the function does what the plain Lean function of the same name tells; the conditions stand in each statement). Written by a program of this session and by hand; checked by Lean. -/
import Derived.Test.YtjidhcepdjdceaaDoorE0
import Derived.Test.YtjidhcepdjdceaaDoorE4
import Derived.Test.YtjidhcepdjdceaaDoorE5
namespace Go.Proofs.YtjidhcepdjdceaaDoor.E
open Go.RowKit Go.Proofs.YtjidhcepdjdceaaDoorW.PrintWords Go.Proofs.YtjidhcepdjdceaaDoorW.PrintLast Go.Proofs.YtjidhcepdjdceaaDoorW.PrintMore
attribute [local go_sem] max2_int min2_int max_two min_two max_three min_three max_four min_four   -- for this text's walks alone
set_option linter.unusedVariables false
set_option linter.unusedSimpArgs false

/-! ### entry_Parse: function 17 -/
/-- A reader's three cells. -/
def ERd (W : World) (g : Nat) (A : Option Addr) (n c : Nat) (a : Int) (bad : Bool) : Prop := W.heap[g]? = some (.cells #[.slice A n c, .int .i64 a, .bool bad] 71 (0, 0))
def entry_reader_number.f (k : Nat) (l : List Int) (a : Int) (bad : Bool) (wd : Int) : Option (Int × Int × Bool) := (octet_Get.f k l a wd).bind fun g => some (if bad = true then (0, a, true) else if g.2.2 = 0 then (g.1, g.2.1, false) else (0, a, true))
theorem entry_reader_number.mono : ∀ a0 a1 a2 a3 k, LeO (entry_reader_number.f k a0 a1 a2 a3) (entry_reader_number.f (k + 1) a0 a1 a2 a3) := by
  intro a0 a1 a2 a3 k
  unfold entry_reader_number.f
  exact LeO.bind (octet_Get.mono _ _ _ _) fun b => LeO.refl _
set_option maxHeartbeats 8000000 in
set_option maxRecDepth 100000 in
theorem entry_reader_number.calls (k g base : Nat) (A : Option Addr) (c : Nat) (l : List Int) (a : Int) (bad : Bool) (wd : Int) (r : Int × Int × Bool) (w : World) (hg : base ≤ g) (hM : ERd w g A l.length c a bad) (hr : Kd.C (Kd.int .u8) w A l.length l) (hc : l.length ≤ c) (h : entry_reader_number.f k l a bad wd = some r) :
    Calls Tryd.prog 36 #[.pointer (some ⟨g, 0, none⟩), .int .i64 wd] w fun e w' => e = .returned (.int .i64 r.1) ∧ ERd w' g A l.length c r.2.1 r.2.2 ∧ KeepBut w w' g none ∧ Below base w w' := by
  unfold entry_reader_number.f at h
  obtain ⟨⟨g1, g2, g3⟩, hq, h⟩ := Option.bind_eq_some_iff.mp h
  rw [Option.some.injEq] at h
  subst h
  have HM := Aside0.mk hM
  have HR := Aside0.mk hr
  have HC := Aside0.mk hc
  have HQ := Aside0.mk hq
  have hlt := blk_lt hM
  have d0 := blk_cell hM 0
  have d1 := blk_cell hM 1
  have d2 := blk_cell hM 2
  clear hM hr hc hq
  go_enter Tryd.func36, Tryd.ntmps36
  go_wp2
  go_region_with (go_at_call 25; (refine (octet_Get.calls k A c l a wd g1 g2 g3 _ (Kd.C_drew HR.out) HC.out HQ.out).mono ?_); rintro e w1 ⟨rfl, hb⟩; have HB := Aside0.mk ((Below.drew (Below.refl w.heap.size w)).trans hb); have hk := (HB.out.block g hlt).trans HM.out; have e0 := blk_cell hk 0; have e1 := blk_cell hk 1; have e2 := blk_cell hk 2; have f1 := blk_frozen hk 1; have f2 := blk_frozen hk 2; have HK := Aside0.mk hk; clear hk hb)
  all_goals
    cases bad with
    | true =>
      go_wp2
      go_ret
      exact ⟨rfl, blk_put HK.out 2 _ rfl, (KeepBut.of_below HB.out g none).set_ 2 _, (HB.out.mono (by omega)).setCell (p := ⟨g, 2, none⟩) hg _⟩
    | false =>
      by_cases h3 : g3 = 0
      · subst h3
        go_wp2
        go_ret
        exact ⟨rfl, blk_put (blk_put HK.out 2 _ rfl) 1 _ rfl, ((KeepBut.of_below HB.out g none).set_ 2 _).set_ 1 _, ((HB.out.mono (by omega)).setCell (p := ⟨g, 2, none⟩) hg _).setCell (p := ⟨g, 1, none⟩) hg _⟩
      · have hn : (g3 != 0) = true := by rw [bne_iff_ne]; exact h3
        go_wp2
        go_ret
        exact ⟨rfl, blk_put HK.out 2 _ rfl, (KeepBut.of_below HB.out g none).set_ 2 _, (HB.out.mono (by omega)).setCell (p := ⟨g, 2, none⟩) hg _⟩
def entry_Parse.l0 (k : Nat) (l : List Int) : Nat → Int → Bool → List S37 → Option (Int × Bool × List S37)
  | 0, a, bad, acc => some (a, bad, acc)
  | d + 1, a, bad, acc => (value_Read.f k l a).bind fun v => if bad = true then some (a, true, acc) else if v.2.2.2.2 = 0 then (if acc.length < 1000 then entry_Parse.l0 k l d v.2.2.2.1 false (acc ++ [⟨v.1, v.2.1, v.2.2.1⟩]) else none) else some (a, true, acc)
def entry_Parse.fin (k : Nat) (l : List Int) (p s kd m : Int) (args : List S37) (b : List Int) (bad : Bool) : Option (Int × Int × Int × Int × List S37 × List Int × Int) :=
  (entry_Bytes.f k p s kd m args b).bind fun o => some (if bad = false ∧ o.2 = 0 ∧ ((strOfNums o.1).toList == (strOfNums l).toList) = true then (p, s, kd, m, args, b, 0) else (0, 0, 0, 0, [], [], 200))
def entry_Parse.f (k : Nat) (l : List Int) : Option (Int × Int × Int × Int × List S37 × List Int × Int) :=
  (entry_reader_number.f k l 0 false 1).bind fun p => (entry_reader_number.f k l p.2.1 p.2.2 6).bind fun s => (entry_reader_number.f k l s.2.1 s.2.2 1).bind fun q =>
    if q.1 % 256 = 1 then (entry_reader_number.f k l q.2.1 q.2.2 1).bind fun m => (entry_reader_number.f k l m.2.1 m.2.2 1).bind fun n => (entry_Parse.l0 k l (mn n.1 4).toNat n.2.1 n.2.2 []).bind fun z => entry_Parse.fin k l p.1 s.1 1 m.1 z.2.2 [] z.2.1
    else if q.1 % 256 = 2 then (octet_GetRow.f k l q.2.1).bind fun g => (bytes_Clone.f g.1).bind fun c => entry_Parse.fin k l p.1 s.1 2 0 [] c (q.2.2 || g.2.2 != 0)
    else entry_Parse.fin k l p.1 s.1 (q.1 % 256) 0 [] [] q.2.2
theorem entry_Parse.mono_l0 (l : List Int) : ∀ (d k : Nat) (a : Int) (bad : Bool) (acc : List S37), LeO (entry_Parse.l0 k l d a bad acc) (entry_Parse.l0 (k + 1) l d a bad acc) := by
  intro d
  induction d with
  | zero => intro k a bad acc; exact LeO.refl _
  | succ d ih =>
    intro k a bad acc
    simp only [entry_Parse.l0]
    exact LeO.bind (value_Read.mono _ _ _) fun v => LeO.ite (LeO.refl _) (LeO.ite (LeO.ite (ih _ _ _ _) (LeO.refl _)) (LeO.refl _))
theorem entry_Parse.mono_fin : ∀ l p s kd m args b bad k, LeO (entry_Parse.fin k l p s kd m args b bad) (entry_Parse.fin (k + 1) l p s kd m args b bad) := by
  intro l p s kd m args b bad k
  unfold entry_Parse.fin
  exact LeO.bind (entry_Bytes.mono _ _ _ _ _ _ _) fun o => LeO.refl _
theorem entry_Parse.mono : ∀ a0 k, LeO (entry_Parse.f k a0) (entry_Parse.f (k + 1) a0) := by
  intro l k
  unfold entry_Parse.f
  refine LeO.bind (entry_reader_number.mono _ _ _ _ _) fun p => LeO.bind (entry_reader_number.mono _ _ _ _ _) fun s => LeO.bind (entry_reader_number.mono _ _ _ _ _) fun q => LeO.ite ?_ (LeO.ite ?_ (entry_Parse.mono_fin _ _ _ _ _ _ _ _ _))
  · exact LeO.bind (entry_reader_number.mono _ _ _ _ _) fun m => LeO.bind (entry_reader_number.mono _ _ _ _ _) fun n => LeO.bind (entry_Parse.mono_l0 _ _ _ _ _ _) fun z => entry_Parse.mono_fin _ _ _ _ _ _ _ _ _
  · exact LeO.bind (octet_GetRow.mono _ _ _) fun g => LeO.bind (LeO.refl _) fun c => entry_Parse.mono_fin _ _ _ _ _ _ _ _ _
theorem entry_Parse.put6 {W : World} {g : Nat} {u0 u1 u2 u3 u4 u5 : Value} (h : W.heap[g]? = some (.cells #[u0, u1, u2, u3, u4, u5] 45 (0, 0))) (v0 v1 v2 v3 v4 v5 : Value) :
    ((((((W.setCell ⟨g, 0, none⟩ v0).setCell ⟨g, 1, none⟩ v1).setCell ⟨g, 2, none⟩ v2).setCell ⟨g, 3, none⟩ v3).setCell ⟨g, 4, none⟩ v4).setCell ⟨g, 5, none⟩ v5).heap[g]? = some (.cells #[v0, v1, v2, v3, v4, v5] 45 (0, 0)) :=
  blk_put (blk_put (blk_put (blk_put (blk_put (blk_put h 0 v0 rfl) 1 v1 rfl) 2 v2 rfl) 3 v3 rfl) 4 v4 rfl) 5 v5 rfl
theorem entry_Parse.putB {w W : World} {g : Nat} (h : Below w.heap.size w W) (hg : w.heap.size ≤ g) (v0 v1 v2 v3 v4 v5 : Value) : Below w.heap.size w ((((((W.setCell ⟨g, 0, none⟩ v0).setCell ⟨g, 1, none⟩ v1).setCell ⟨g, 2, none⟩ v2).setCell ⟨g, 3, none⟩ v3).setCell ⟨g, 4, none⟩ v4).setCell ⟨g, 5, none⟩ v5) :=
  (((((h.setCell (p := ⟨g, 0, none⟩) hg v0).setCell (p := ⟨g, 1, none⟩) hg v1).setCell (p := ⟨g, 2, none⟩) hg v2).setCell (p := ⟨g, 3, none⟩) hg v3).setCell (p := ⟨g, 4, none⟩) hg v4).setCell (p := ⟨g, 5, none⟩) hg v5
theorem entry_Parse.putR {α : Type} {d : Kd α} {e base : Nat} {ok : Nat → Prop} {v : Value} {xs : List α} {W : World} {g : Nat} (h : d.R e W base ok v xs) (hok : ∀ k, ok k → k ≠ g) (v0 v1 v2 v3 v4 v5 : Value) : d.R e ((((((W.setCell ⟨g, 0, none⟩ v0).setCell ⟨g, 1, none⟩ v1).setCell ⟨g, 2, none⟩ v2).setCell ⟨g, 3, none⟩ v3).setCell ⟨g, 4, none⟩ v4).setCell ⟨g, 5, none⟩ v5) base ok v xs :=
  Kd.R_far (p := ⟨g, 5, none⟩) (Kd.R_far (p := ⟨g, 4, none⟩) (Kd.R_far (p := ⟨g, 3, none⟩) (Kd.R_far (p := ⟨g, 2, none⟩) (Kd.R_far (p := ⟨g, 1, none⟩) (Kd.R_far (p := ⟨g, 0, none⟩) h hok v0) hok v1) hok v2) hok v3) hok v4) hok v5
set_option maxHeartbeats 8000000 in
set_option maxRecDepth 100000 in
theorem entry_Parse.calls (k : Nat) (A0 : Option Addr) (c0 : Nat) (l0 : List Int) (r1 : Int) (r2 : Int) (r3 : Int) (r4 : Int) (r5 : List (S37)) (r6 : List Int) (r7 : Int) (w : World) (hG : Gl w) (hr0 : Kd.C (Kd.int .u8) w A0 l0.length l0) (hc0 : l0.length ≤ c0) (h : entry_Parse.f k l0 = some (r1, r2, r3, r4, r5, r6, r7)) :
    Calls Tryd.prog 17 #[.slice A0 l0.length c0] w fun e w' => ∃ v4_ v5_ : Value, e = .returned (.tuple #[.agg #[.int .i64 r1, .int .i64 r2, .int .u8 r3, .int .i64 r4, v4_, v5_], .int .i64 r7]) ∧ Kd.R k37 37 w' w.heap.size (fun _ => True) v4_ r5 ∧ Kd.R (Kd.int .u8) 5 w' w.heap.size (fun _ => True) v5_ r6 ∧ Below w.heap.size w w' := by
  unfold entry_Parse.f at h
  obtain ⟨⟨p1, p2, p3⟩, hp, h⟩ := Option.bind_eq_some_iff.mp h
  obtain ⟨⟨s1, s2, s3⟩, hs, h⟩ := Option.bind_eq_some_iff.mp h
  obtain ⟨⟨q1, q2, q3⟩, hq, h⟩ := Option.bind_eq_some_iff.mp h
  have HG := Aside0.mk hG
  have HR := Aside0.mk hr0
  have HC := Aside0.mk hc0
  have HP := Aside0.mk hp
  have HS := Aside0.mk hs
  have HQ := Aside0.mk hq
  have HH := Aside0.mk h
  clear hG hr0 hc0 hp hs hq h
  dsimp only at HH HS HQ
  have hz : ∀ W, KeepBut ((w.alloc (.cells #[.int .i64 0, .int .i64 0, .int .u8 0, .int .i64 0, .slice none 0 0, .slice none 0 0] 45)).alloc (.cells #[.slice A0 l0.length c0, .int .i64 0, .bool false] 71)) W (w.heap.size + 1) none → W.heap[w.heap.size]? = some (.cells #[.int .i64 0, .int .i64 0, .int .u8 0, .int .i64 0, .slice none 0 0, .slice none 0 0] 45 (0, 0)) := fun W hW => hW.blk (blk_alloc (blk_new w _) _) (by omega) (by simp)
  have HZ := Aside0.mk hz
  clear hz
  by_cases k1 : q1 % 256 = 1
  · have hh := HH.out
    rw [if_pos k1] at hh
    obtain ⟨⟨m1, m2, m3⟩, hm, hh⟩ := Option.bind_eq_some_iff.mp hh
    obtain ⟨⟨n1, n2, n3⟩, hn, hh⟩ := Option.bind_eq_some_iff.mp hh
    obtain ⟨⟨z1, z2, z3⟩, hl, hh⟩ := Option.bind_eq_some_iff.mp hh
    have HM := Aside0.mk hm
    have HN := Aside0.mk hn
    have HL := Aside0.mk hl
    have HF := Aside0.mk hh
    clear hm hn hl hh HH
    dsimp only at HN HL HF
    obtain ⟨cn, hcn⟩ : ∃ cn : Int, (if 4 < n1 then (4 : Int) else n1) = cn := ⟨_, rfl⟩
    have hcn2 : mn n1 4 = cn := by rw [← hcn]; unfold mn; rfl
    rw [hcn2] at HL
    clear hcn2
    go_enter Tryd.func17, Tryd.ntmps17
    go_wp2_with (first | ((fail_if_success (have h_ := w1)); go_at_call 36; (refine (entry_reader_number.calls k (w.heap.size + 1) w.heap.size A0 c0 l0 0 false 1 _ _ (by omega) (show ERd _ (w.heap.size + 1) A0 l0.length c0 0 false from ?s0) (Kd.C_alloc (Kd.C_alloc HR.out _) _) HC.out HP.out).mono ?_); (case s0 => have h_ := blk_new (w.alloc (.cells #[.int .i64 0, .int .i64 0, .int .u8 0, .int .i64 0, .slice none 0 0, .slice none 0 0] 45)) (.cells #[.slice A0 l0.length c0, .int .i64 0, .bool false] 71); rw [World.size_alloc] at h_; exact h_); rintro e w1 ⟨rfl, hm, hk, hb⟩; have M1 := Aside0.mk hm; have K1 := Aside0.mk hk; have B1 := Aside0.mk ((below_alloc (below_alloc (Below.refl w.heap.size w) _) _).trans hb); clear hm hk hb) | ((fail_if_success (have h_ := w2)); go_at_call 36; (refine (entry_reader_number.calls k (w.heap.size + 1) w.heap.size A0 c0 l0 p2 p3 6 _ _ (by omega) M1.out (Kd.C_below HR.out B1.out) HC.out HS.out).mono ?_); rintro e w2 ⟨rfl, hm, hk, hb⟩; have M2 := Aside0.mk hm; have K2 := Aside0.mk (K1.out.trans hk (.inl rfl)); have B2 := Aside0.mk (B1.out.trans hb); clear hm hk hb) | ((fail_if_success (have h_ := w3)); go_at_call 36; (refine (entry_reader_number.calls k (w.heap.size + 1) w.heap.size A0 c0 l0 s2 s3 1 _ _ (by omega) (blk_alloc M2.out _) (Kd.C_below HR.out (below_alloc B2.out _)) HC.out HQ.out).mono ?_); rintro e w3 ⟨rfl, hm, hk, hb⟩; have M3 := Aside0.mk hm; have hE := hk.blk (blk_new w2 _) (Nat.ne_of_gt (blk_lt M2.out)) (by simp); have E3 := Aside0.mk hE; have c32 := blk_cell hE 2; have f32 := blk_frozen hE 2; have K3 := Aside0.mk ((keep_alloc K2.out _).trans hk (.inl rfl)); have B3 := Aside0.mk ((below_alloc B2.out _).trans hb); clear hm hk hb hE) | ((fail_if_success (have h_ := w4)); go_at_call 36; (refine (entry_reader_number.calls k (w.heap.size + 1) w.heap.size A0 c0 l0 q2 q3 1 _ _ (by omega) (blk_far M3.out (p := ⟨w2.heap.size, 2, none⟩) (Nat.ne_of_lt (blk_lt M2.out)) _) (Kd.C_below HR.out (B3.out.setCell (p := ⟨w2.heap.size, 2, none⟩) B2.out.size _)) HC.out HM.out).mono ?_); rintro e w4 ⟨rfl, hm, hk, hb⟩; have M4 := Aside0.mk hm; have hE := hk.blk (blk_put E3.out 2 (.int .u8 1) rfl) (Nat.ne_of_gt (blk_lt M2.out)) (by simp); have E4 := Aside0.mk hE; have c43 := blk_cell hE 3; have f43 := blk_frozen hE 3; have K4 := Aside0.mk ((keep_far (p := ⟨w2.heap.size, 2, none⟩) K3.out K2.out.1 _).trans hk (.inl rfl)); have B4 := Aside0.mk ((B3.out.setCell (p := ⟨w2.heap.size, 2, none⟩) B2.out.size _).trans hb); clear hm hk hb hE c32 f32) | (go_at_call 36; (refine (entry_reader_number.calls k (w.heap.size + 1) w.heap.size A0 c0 l0 m2 m3 1 _ _ (by omega) (blk_far M4.out (p := ⟨w2.heap.size, 3, none⟩) (Nat.ne_of_lt (blk_lt M2.out)) _) (Kd.C_below HR.out (B4.out.setCell (p := ⟨w2.heap.size, 3, none⟩) B2.out.size _)) HC.out HN.out).mono ?_); rintro e w5 ⟨rfl, hm, hk, hb⟩; have M5 := Aside0.mk hm; have hE := hk.blk (blk_put E4.out 3 (.int .i64 m1) rfl) (Nat.ne_of_gt (blk_lt M2.out)) (by simp); have E5 := Aside0.mk hE; have K5 := Aside0.mk ((keep_far (p := ⟨w2.heap.size, 3, none⟩) K4.out K2.out.1 _).trans hk (.inl rfl)); have B5 := Aside0.mk ((B4.out.setCell (p := ⟨w2.heap.size, 3, none⟩) B2.out.size _).trans hb); clear hm hk hb hE c43 f43))
    have hcn4 : cn ≤ 4 := by rw [← hcn]; split <;> omega
    have Z5 := Aside0.mk (HZ.out _ K5.out)
    go_loopw [39] (fun u wr => ∃ (i : Nat) (a : Int) (bd : Bool) (acc : List S37) (va : Value), u = .int .i64 (i : Int) ∧ i ≤ cn.toNat ∧ Aside0 (entry_Parse.l0 k l0 (cn.toNat - i) a bd acc = some (z1, z2, z3)) ∧ Aside0 (ERd wr (w.heap.size + 1) A0 l0.length c0 a bd) ∧ Aside0 (wr.heap[w2.heap.size]? = some (.cells #[.int .i64 p1, .int .i64 s1, .int .u8 1, .int .i64 m1, va, .slice none 0 0] 45 (0, 0))) ∧ Aside0 (Kd.R k37 37 wr w.heap.size (fun k_ => k_ ≠ w.heap.size ∧ k_ ≠ w.heap.size + 1 ∧ k_ ≠ w2.heap.size) va acc) ∧ Aside0 (wr.heap[w.heap.size]? = some (.cells #[.int .i64 0, .int .i64 0, .int .u8 0, .int .i64 0, .slice none 0 0, .slice none 0 0] 45 (0, 0))) ∧ Aside0 (Below w.heap.size w wr))
      (fun u _ => cn.toNat - (intOf u).toNat)
    case atStart => exact ⟨0, n2, n3, [], _, rfl, Nat.zero_le _, HL, M5, E5, ⟨Kd.R_nil _ _ _ _ _⟩, Z5, B5⟩
    case round =>
      obtain ⟨i, a, bd, acc, va, rfl, hi, HL6, HM6, HE6, HA6, HZ6, HB6⟩ := hrel
      obtain ⟨Aa, ca, rfl, hla, hCa⟩ := Kd.R_reads HA6.out
      clear hla hCa
      have hl := HL6.out
      have r61 := blk_cell HM6.out 1
      have r60 := blk_cell HM6.out 0
      have r62 := blk_cell HM6.out 2
      by_cases hlt : (i : Int) < cn
      · rw [show cn.toNat - i = (cn.toNat - (i + 1)) + 1 by omega, entry_Parse.l0] at hl
        obtain ⟨⟨v1, v2, v3, v4, v5⟩, hv, hl⟩ := Option.bind_eq_some_iff.mp hl
        have HV := Aside0.mk hv
        clear hv HL6
        cases bd with
        | true =>
          rw [if_pos rfl] at hl
          simp only [Option.some.injEq, Prod.mk.injEq] at hl
          obtain ⟨rfl, rfl, rfl⟩ := hl
          have hf := HF.out
          unfold entry_Parse.fin at hf
          obtain ⟨⟨o1, o2⟩, ho, hf⟩ := Option.bind_eq_some_iff.mp hf
          rw [Option.some.injEq] at hf
          have HO := Aside0.mk ho
          clear ho HF
          rw [if_neg (by simp)] at hf
          simp only [Prod.mk.injEq] at hf
          obtain ⟨rfl, rfl, rfl, rfl, rfl, rfl, rfl⟩ := hf
          go_wp2_with (first | (go_at_call 26; (with_reducible refine (value_Read.calls k A0 c0 l0 a v1 v2 v3 v4 v5 _ (Gl.below HG.out HB6.out) (Kd.C_below HR.out HB6.out) HC.out HV.out).mono ?_); rintro e w6 ⟨rfl, hb⟩; have hM := blk_alloc ((hb.block (w.heap.size + 1) (blk_lt HM6.out)).trans HM6.out) (.cells #[.int .u8 v1, .int .i64 v2, .int .i64 v3] 37); have r70 := blk_cell hM 0; have r71 := blk_cell hM 1; have r72 := blk_cell hM 2; have s71 := blk_frozen hM 1; have s72 := blk_frozen hM 2; have M7 := Aside0.mk hM; have E7 := Aside0.mk (blk_alloc ((hb.block w2.heap.size (blk_lt HE6.out)).trans HE6.out) (.cells #[.int .u8 v1, .int .i64 v2, .int .i64 v3] 37)); have Z7 := Aside0.mk (blk_alloc ((hb.block w.heap.size (blk_lt HZ6.out)).trans HZ6.out) (.cells #[.int .u8 v1, .int .i64 v2, .int .i64 v3] 37)); have B7 := Aside0.mk (below_alloc (HB6.out.trans (hb.mono HB6.out.size)) (.cells #[.int .u8 v1, .int .i64 v2, .int .i64 v3] 37)); have RA7 := Aside0.mk (Kd.R_alloc (Kd.R_below HA6.out hb) (.cells #[.int .u8 v1, .int .i64 v2, .int .i64 v3] 37)); have yy0 := blk_cell (blk_far E7.out (p := ⟨w.heap.size + 1, 2, none⟩) (Nat.ne_of_gt (blk_lt M2.out)) (.bool true)) 0; have yy1 := blk_cell (blk_far E7.out (p := ⟨w.heap.size + 1, 2, none⟩) (Nat.ne_of_gt (blk_lt M2.out)) (.bool true)) 1; have yy2 := blk_cell (blk_far E7.out (p := ⟨w.heap.size + 1, 2, none⟩) (Nat.ne_of_gt (blk_lt M2.out)) (.bool true)) 2; have yy3 := blk_cell (blk_far E7.out (p := ⟨w.heap.size + 1, 2, none⟩) (Nat.ne_of_gt (blk_lt M2.out)) (.bool true)) 3; have yy4 := blk_cell (blk_far E7.out (p := ⟨w.heap.size + 1, 2, none⟩) (Nat.ne_of_gt (blk_lt M2.out)) (.bool true)) 4; have yy5 := blk_cell (blk_far E7.out (p := ⟨w.heap.size + 1, 2, none⟩) (Nat.ne_of_gt (blk_lt M2.out)) (.bool true)) 5; clear hb hM) | (have TM := Aside0.mk (show ERd ((w6.alloc (.cells #[.int .u8 v1, .int .i64 v2, .int .i64 v3] 37)).setCell ⟨w.heap.size + 1, 2, none⟩ (.bool true)) (w.heap.size + 1) A0 l0.length c0 a true from blk_put M7.out 2 (.bool true) rfl); have TE := Aside0.mk (blk_far E7.out (p := ⟨w.heap.size + 1, 2, none⟩) (Nat.ne_of_gt (blk_lt M2.out)) (.bool true)); have TZ := Aside0.mk (blk_far Z7.out (p := ⟨w.heap.size + 1, 2, none⟩) (show w.heap.size ≠ w.heap.size + 1 by omega) (.bool true)); have TBel := Aside0.mk (B7.out.setCell (p := ⟨w.heap.size + 1, 2, none⟩) (Nat.le_succ _) (.bool true)); have TA := Aside0.mk (Kd.R_far (p := ⟨w.heap.size + 1, 2, none⟩) RA7.out (fun _ hk => hk.2.1) (.bool true)); have TB := Aside0.mk (Kd.R_nil (Kd.int .u8) 5 ((w6.alloc (.cells #[.int .u8 v1, .int .i64 v2, .int .i64 v3] 37)).setCell ⟨w.heap.size + 1, 2, none⟩ (.bool true)) w.heap.size (fun k_ => k_ ≠ w.heap.size ∧ k_ ≠ w.heap.size + 1 ∧ k_ ≠ w2.heap.size)); go_at_call 22; (refine (entry_Bytes.calls k p1 s1 1 m1 Aa ca acc none 0 [] o1 o2 _ (Kd.R_reads' TA.out).2.2 (Kd.R_reads' TA.out).2.1 (Kd.C_nil _ _) (Nat.le_refl _) HO.out).mono ?_); rintro e w8 ⟨v0, rfl, hv, hb⟩; obtain ⟨Ao, co, rfl⟩ := Kd.V_slice hv; have TM8 := (hb.block (w.heap.size + 1) (blk_lt TM.out)).trans TM.out; have u2 := blk_cell TM8 2; have TE8 := (hb.block w2.heap.size (blk_lt TE.out)).trans TE.out; have y0 := blk_cell TE8 0; have y1 := blk_cell TE8 1; have y2 := blk_cell TE8 2; have y3 := blk_cell TE8 3; have y4 := blk_cell TE8 4; have y5 := blk_cell TE8 5; have TZ8 := (hb.block w.heap.size (blk_lt TZ.out)).trans TZ.out; have v0 := blk_cell TZ8 0; have v1 := blk_cell TZ8 1; have v2 := blk_cell TZ8 2; have v3 := blk_cell TZ8 3; have v4 := blk_cell TZ8 4; have v5 := blk_cell TZ8 5; have g0 := blk_frozen TZ8 0; have g1 := blk_frozen TZ8 1; have g2 := blk_frozen TZ8 2; have g3 := blk_frozen TZ8 3; have g4 := blk_frozen TZ8 4; have g5 := blk_frozen TZ8 5; have HV := Aside0.mk hv; have TZ9 := Aside0.mk TZ8; have TA8 := Aside0.mk (Kd.R_below TA.out hb); have TB8 := Aside0.mk (Kd.R_below TB.out hb); have B8 := Aside0.mk (TBel.out.trans (hb.mono TBel.out.size)); clear hv hb TM8 TE8 TZ8))
          have hfin := entry_Parse.put6 TZ9.out (.int .i64 0) (.int .i64 0) (.int .u8 0) (.int .i64 0) (.slice none 0 0) (.slice none 0 0)
          have t0 := blk_cell hfin 0
          have t1 := blk_cell hfin 1
          have t2 := blk_cell hfin 2
          have t3 := blk_cell hfin 3
          have t4 := blk_cell hfin 4
          have t5 := blk_cell hfin 5
          clear hfin
          refine bodyPost_ret (v := .tuple #[.agg #[.int .i64 0, .int .i64 0, .int .u8 0, .int .i64 0, .slice none 0 0, .slice none 0 0], .int .i64 200]) (by simp [results, Tryd.results17, go_sem, t0, t1, t2, t3, t4, t5]) rfl ⟨_, _, rfl, Kd.R_nil _ _ _ _ _, Kd.R_nil _ _ _ _ _, entry_Parse.putB B8.out (Nat.le_refl _) (.int .i64 0) (.int .i64 0) (.int .u8 0) (.int .i64 0) (.slice none 0 0) (.slice none 0 0)⟩
        | false =>
          rw [if_neg (by decide)] at hl
          dsimp only at hl
          by_cases h5 : v5 = 0
          · subst h5
            rw [if_pos rfl] at hl
            have hacc : acc.length < 1000 := by
              by_cases c : acc.length < 1000
              · exact c
              · rw [if_neg c] at hl; cases hl
            rw [if_pos hacc] at hl
            have HN := Aside0.mk hl
            have HLA := Aside0.mk hacc
            clear hl hacc HF
            have hw : wrap64 ((i : Int) + 1) = ((i + 1 : Nat) : Int) := by unfold wrap64; omega
            go_wp2_with (first | (go_at_call 26; (with_reducible refine (value_Read.calls k A0 c0 l0 a v1 v2 v3 v4 0 _ (Gl.below HG.out HB6.out) (Kd.C_below HR.out HB6.out) HC.out HV.out).mono ?_); rintro e w6 ⟨rfl, hb⟩; have hM := blk_alloc ((hb.block (w.heap.size + 1) (blk_lt HM6.out)).trans HM6.out) (.cells #[.int .u8 v1, .int .i64 v2, .int .i64 v3] 37); have r70 := blk_cell hM 0; have r71 := blk_cell hM 1; have r72 := blk_cell hM 2; have s71 := blk_frozen hM 1; have s72 := blk_frozen hM 2; have M7 := Aside0.mk hM; have E7 := Aside0.mk (blk_alloc ((hb.block w2.heap.size (blk_lt HE6.out)).trans HE6.out) (.cells #[.int .u8 v1, .int .i64 v2, .int .i64 v3] 37)); have Z7 := Aside0.mk (blk_alloc ((hb.block w.heap.size (blk_lt HZ6.out)).trans HZ6.out) (.cells #[.int .u8 v1, .int .i64 v2, .int .i64 v3] 37)); have B7 := Aside0.mk (below_alloc (HB6.out.trans (hb.mono HB6.out.size)) (.cells #[.int .u8 v1, .int .i64 v2, .int .i64 v3] 37)); have RA7 := Aside0.mk (Kd.R_alloc (Kd.R_below HA6.out hb) (.cells #[.int .u8 v1, .int .i64 v2, .int .i64 v3] 37)); have E8 := Aside0.mk (blk_far (blk_far E7.out (p := ⟨w.heap.size + 1, 2, none⟩) (Nat.ne_of_gt (blk_lt M2.out)) (.bool false)) (p := ⟨w.heap.size + 1, 1, none⟩) (Nat.ne_of_gt (blk_lt M2.out)) (.int .i64 v4)); have e84 := blk_cell E8.out 4; have M8 := Aside0.mk (blk_put (blk_put M7.out 2 (.bool false) rfl) 1 (.int .i64 v4) rfl); have Z8 := Aside0.mk (blk_far (blk_far Z7.out (p := ⟨w.heap.size + 1, 2, none⟩) (show w.heap.size ≠ w.heap.size + 1 by omega) (.bool false)) (p := ⟨w.heap.size + 1, 1, none⟩) (show w.heap.size ≠ w.heap.size + 1 by omega) (.int .i64 v4)); have B8 := Aside0.mk ((B7.out.setCell (p := ⟨w.heap.size + 1, 2, none⟩) (Nat.le_succ _) (.bool false)).setCell (p := ⟨w.heap.size + 1, 1, none⟩) (Nat.le_succ _) (.int .i64 v4)); have RA8 := Aside0.mk (Kd.R_far (p := ⟨w.heap.size + 1, 1, none⟩) (Kd.R_far (p := ⟨w.heap.size + 1, 2, none⟩) RA7.out (fun _ hk => hk.2.1) (.bool false)) (fun _ hk => hk.2.1) (.int .i64 v4)); have hX := (blk_far (blk_far (blk_new w6 (.cells #[.int .u8 v1, .int .i64 v2, .int .i64 v3] 37)) (p := ⟨w.heap.size + 1, 2, none⟩) (Nat.ne_of_gt (Nat.lt_of_lt_of_le (blk_lt HM6.out) hb.size)) (.bool false)) (p := ⟨w.heap.size + 1, 1, none⟩) (Nat.ne_of_gt (Nat.lt_of_lt_of_le (blk_lt HM6.out) hb.size)) (.int .i64 v4)); have b80 := blk_cell hX 0; have b81 := blk_cell hX 1; have b82 := blk_cell hX 2; have LT8 := Aside0.mk (show w2.heap.size < (((w6.alloc (.cells #[.int .u8 v1, .int .i64 v2, .int .i64 v3] 37)).setCell ⟨w.heap.size + 1, 2, none⟩ (.bool false)).setCell ⟨w.heap.size + 1, 1, none⟩ (.int .i64 v4)).heap.size from blk_lt E8.out); clear hX; clear hb hM) | ((with_reducible refine gate_builtin (b := .append) (xs := #[.tmp 72, .tmp 74]) rfl ?_); at_builtin; refine Kd.R_append k37 (w0 := w) w.heap.size rfl (.tmp 72) (.tmp 74) 23 37 (.agg #[(.int .u8 0), (.int .i64 0), (.int .i64 0)]) 24 rfl Tryd.underlying23 info37 rfl (by decide) (by omega) (.slice Aa acc.length ca) acc (⟨v1, v2, v3⟩ : S37) [.int .u8 v1, .int .i64 v2, .int .i64 v3] (fun k_ => k_ ≠ w.heap.size ∧ k_ ≠ w.heap.size + 1 ∧ k_ ≠ w2.heap.size) (fun _ => False) rfl (by first | (go_simp; done) | (go_simp; rfl)) ?aP (fun _ hk => hk.elim) ?aF RA8.out B8.out B8.out.size ?aL ?_; (case aP => exact k37_mkM _ _ _ (⟨v1, v2, v3⟩ : S37)); (case aF => exact fun k_ hk => by have h1_ := LT8.out; have h2_ := blk_lt M2.out; refine ⟨by omega, by omega, by omega⟩); (case aL => have h1_ := HLA.out; omega); intro v9 w9 ho hb9 hg hat; obtain ⟨A9, c9, rfl⟩ := Kd.R_slice ho; rw [List.length_append, List.length_singleton] at ho; have hE := blk_grown E8.out hg (fun e => (RA8.out.1 _ e.symm).2.2 rfl); have e94 := blk_cell hE 4; have f94 := blk_frozen hE 4; have E9 := Aside0.mk hE; have M9 := Aside0.mk (blk_grown M8.out hg (fun e => (RA8.out.1 _ e.symm).2.1 rfl)); have Z9 := Aside0.mk (blk_grown Z8.out hg (fun e => (RA8.out.1 _ e.symm).1 rfl)); have RA9 := Aside0.mk ho; have B9 := Aside0.mk hb9; clear ho hb9 hg hat hE e84))
            go_roundw
            case rel => exact ⟨i + 1, v4, false, acc ++ [⟨v1, v2, v3⟩], .slice A9 (acc.length + 1) c9, by first | rfl | (rw [← hw]; done) | simp [hw], by omega, HN, ⟨blk_far M9.out (p := ⟨w2.heap.size, 4, none⟩) (Nat.ne_of_lt (blk_lt M2.out)) _⟩, ⟨blk_put E9.out 4 _ rfl⟩, ⟨Kd.R_far (p := ⟨w2.heap.size, 4, none⟩) RA9.out (fun _ hk => hk.2.2) _⟩, ⟨blk_far Z9.out (p := ⟨w2.heap.size, 4, none⟩) (by have := blk_lt M2.out; show w.heap.size ≠ w2.heap.size; omega) _⟩, ⟨B9.out.setCell (p := ⟨w2.heap.size, 4, none⟩) B2.out.size _⟩⟩
            case measure => simp [intOf, hw]; omega
          · rw [if_neg h5] at hl
            have hn5 : (v5 != 0) = true := by rw [bne_iff_ne]; exact h5
            simp only [Option.some.injEq, Prod.mk.injEq] at hl
            obtain ⟨rfl, rfl, rfl⟩ := hl
            have hf := HF.out
            unfold entry_Parse.fin at hf
            obtain ⟨⟨o1, o2⟩, ho, hf⟩ := Option.bind_eq_some_iff.mp hf
            rw [Option.some.injEq] at hf
            have HO := Aside0.mk ho
            clear ho HF
            rw [if_neg (by simp)] at hf
            simp only [Prod.mk.injEq] at hf
            obtain ⟨rfl, rfl, rfl, rfl, rfl, rfl, rfl⟩ := hf
            go_wp2_with (first | (go_at_call 26; (with_reducible refine (value_Read.calls k A0 c0 l0 a v1 v2 v3 v4 v5 _ (Gl.below HG.out HB6.out) (Kd.C_below HR.out HB6.out) HC.out HV.out).mono ?_); rintro e w6 ⟨rfl, hb⟩; have hM := blk_alloc ((hb.block (w.heap.size + 1) (blk_lt HM6.out)).trans HM6.out) (.cells #[.int .u8 v1, .int .i64 v2, .int .i64 v3] 37); have r70 := blk_cell hM 0; have r71 := blk_cell hM 1; have r72 := blk_cell hM 2; have s71 := blk_frozen hM 1; have s72 := blk_frozen hM 2; have M7 := Aside0.mk hM; have E7 := Aside0.mk (blk_alloc ((hb.block w2.heap.size (blk_lt HE6.out)).trans HE6.out) (.cells #[.int .u8 v1, .int .i64 v2, .int .i64 v3] 37)); have Z7 := Aside0.mk (blk_alloc ((hb.block w.heap.size (blk_lt HZ6.out)).trans HZ6.out) (.cells #[.int .u8 v1, .int .i64 v2, .int .i64 v3] 37)); have B7 := Aside0.mk (below_alloc (HB6.out.trans (hb.mono HB6.out.size)) (.cells #[.int .u8 v1, .int .i64 v2, .int .i64 v3] 37)); have RA7 := Aside0.mk (Kd.R_alloc (Kd.R_below HA6.out hb) (.cells #[.int .u8 v1, .int .i64 v2, .int .i64 v3] 37)); have yy0 := blk_cell (blk_far E7.out (p := ⟨w.heap.size + 1, 2, none⟩) (Nat.ne_of_gt (blk_lt M2.out)) (.bool true)) 0; have yy1 := blk_cell (blk_far E7.out (p := ⟨w.heap.size + 1, 2, none⟩) (Nat.ne_of_gt (blk_lt M2.out)) (.bool true)) 1; have yy2 := blk_cell (blk_far E7.out (p := ⟨w.heap.size + 1, 2, none⟩) (Nat.ne_of_gt (blk_lt M2.out)) (.bool true)) 2; have yy3 := blk_cell (blk_far E7.out (p := ⟨w.heap.size + 1, 2, none⟩) (Nat.ne_of_gt (blk_lt M2.out)) (.bool true)) 3; have yy4 := blk_cell (blk_far E7.out (p := ⟨w.heap.size + 1, 2, none⟩) (Nat.ne_of_gt (blk_lt M2.out)) (.bool true)) 4; have yy5 := blk_cell (blk_far E7.out (p := ⟨w.heap.size + 1, 2, none⟩) (Nat.ne_of_gt (blk_lt M2.out)) (.bool true)) 5; clear hb hM) | (have TM := Aside0.mk (show ERd ((w6.alloc (.cells #[.int .u8 v1, .int .i64 v2, .int .i64 v3] 37)).setCell ⟨w.heap.size + 1, 2, none⟩ (.bool true)) (w.heap.size + 1) A0 l0.length c0 a true from blk_put M7.out 2 (.bool true) rfl); have TE := Aside0.mk (blk_far E7.out (p := ⟨w.heap.size + 1, 2, none⟩) (Nat.ne_of_gt (blk_lt M2.out)) (.bool true)); have TZ := Aside0.mk (blk_far Z7.out (p := ⟨w.heap.size + 1, 2, none⟩) (show w.heap.size ≠ w.heap.size + 1 by omega) (.bool true)); have TBel := Aside0.mk (B7.out.setCell (p := ⟨w.heap.size + 1, 2, none⟩) (Nat.le_succ _) (.bool true)); have TA := Aside0.mk (Kd.R_far (p := ⟨w.heap.size + 1, 2, none⟩) RA7.out (fun _ hk => hk.2.1) (.bool true)); have TB := Aside0.mk (Kd.R_nil (Kd.int .u8) 5 ((w6.alloc (.cells #[.int .u8 v1, .int .i64 v2, .int .i64 v3] 37)).setCell ⟨w.heap.size + 1, 2, none⟩ (.bool true)) w.heap.size (fun k_ => k_ ≠ w.heap.size ∧ k_ ≠ w.heap.size + 1 ∧ k_ ≠ w2.heap.size)); go_at_call 22; (refine (entry_Bytes.calls k p1 s1 1 m1 Aa ca acc none 0 [] o1 o2 _ (Kd.R_reads' TA.out).2.2 (Kd.R_reads' TA.out).2.1 (Kd.C_nil _ _) (Nat.le_refl _) HO.out).mono ?_); rintro e w8 ⟨v0, rfl, hv, hb⟩; obtain ⟨Ao, co, rfl⟩ := Kd.V_slice hv; have TM8 := (hb.block (w.heap.size + 1) (blk_lt TM.out)).trans TM.out; have u2 := blk_cell TM8 2; have TE8 := (hb.block w2.heap.size (blk_lt TE.out)).trans TE.out; have y0 := blk_cell TE8 0; have y1 := blk_cell TE8 1; have y2 := blk_cell TE8 2; have y3 := blk_cell TE8 3; have y4 := blk_cell TE8 4; have y5 := blk_cell TE8 5; have TZ8 := (hb.block w.heap.size (blk_lt TZ.out)).trans TZ.out; have v0 := blk_cell TZ8 0; have v1 := blk_cell TZ8 1; have v2 := blk_cell TZ8 2; have v3 := blk_cell TZ8 3; have v4 := blk_cell TZ8 4; have v5 := blk_cell TZ8 5; have g0 := blk_frozen TZ8 0; have g1 := blk_frozen TZ8 1; have g2 := blk_frozen TZ8 2; have g3 := blk_frozen TZ8 3; have g4 := blk_frozen TZ8 4; have g5 := blk_frozen TZ8 5; have HV := Aside0.mk hv; have TZ9 := Aside0.mk TZ8; have TA8 := Aside0.mk (Kd.R_below TA.out hb); have TB8 := Aside0.mk (Kd.R_below TB.out hb); have B8 := Aside0.mk (TBel.out.trans (hb.mono TBel.out.size)); clear hv hb TM8 TE8 TZ8))
            have hfin := entry_Parse.put6 TZ9.out (.int .i64 0) (.int .i64 0) (.int .u8 0) (.int .i64 0) (.slice none 0 0) (.slice none 0 0)
            have t0 := blk_cell hfin 0
            have t1 := blk_cell hfin 1
            have t2 := blk_cell hfin 2
            have t3 := blk_cell hfin 3
            have t4 := blk_cell hfin 4
            have t5 := blk_cell hfin 5
            clear hfin
            refine bodyPost_ret (v := .tuple #[.agg #[.int .i64 0, .int .i64 0, .int .u8 0, .int .i64 0, .slice none 0 0, .slice none 0 0], .int .i64 200]) (by simp [results, Tryd.results17, go_sem, t0, t1, t2, t3, t4, t5]) rfl ⟨_, _, rfl, Kd.R_nil _ _ _ _ _, Kd.R_nil _ _ _ _ _, entry_Parse.putB B8.out (Nat.le_refl _) (.int .i64 0) (.int .i64 0) (.int .u8 0) (.int .i64 0) (.slice none 0 0) (.slice none 0 0)⟩
      · rw [show cn.toNat - i = 0 by omega, entry_Parse.l0] at hl
        simp only [Option.some.injEq, Prod.mk.injEq] at hl
        obtain ⟨rfl, rfl, rfl⟩ := hl
        clear HL6
        cases bd with
        | true =>
          have hf := HF.out
          unfold entry_Parse.fin at hf
          obtain ⟨⟨o1, o2⟩, ho, hf⟩ := Option.bind_eq_some_iff.mp hf
          rw [Option.some.injEq] at hf
          have HO := Aside0.mk ho
          clear ho HF
          rw [if_neg (by simp)] at hf
          simp only [Prod.mk.injEq] at hf
          obtain ⟨rfl, rfl, rfl, rfl, rfl, rfl, rfl⟩ := hf
          have yy0 := blk_cell HE6.out 0
          have yy1 := blk_cell HE6.out 1
          have yy2 := blk_cell HE6.out 2
          have yy3 := blk_cell HE6.out 3
          have yy4 := blk_cell HE6.out 4
          have yy5 := blk_cell HE6.out 5
          go_wp2_with (first | (have TM := Aside0.mk (show ERd wr (w.heap.size + 1) A0 l0.length c0 a true from HM6.out); have TE := Aside0.mk (HE6.out); have TZ := Aside0.mk (HZ6.out); have TBel := Aside0.mk (HB6.out); have TA := Aside0.mk (HA6.out); have TB := Aside0.mk (Kd.R_nil (Kd.int .u8) 5 wr w.heap.size (fun k_ => k_ ≠ w.heap.size ∧ k_ ≠ w.heap.size + 1 ∧ k_ ≠ w2.heap.size)); go_at_call 22; (refine (entry_Bytes.calls k p1 s1 1 m1 Aa ca acc none 0 [] o1 o2 _ (Kd.R_reads' TA.out).2.2 (Kd.R_reads' TA.out).2.1 (Kd.C_nil _ _) (Nat.le_refl _) HO.out).mono ?_); rintro e w8 ⟨v0, rfl, hv, hb⟩; obtain ⟨Ao, co, rfl⟩ := Kd.V_slice hv; have TM8 := (hb.block (w.heap.size + 1) (blk_lt TM.out)).trans TM.out; have u2 := blk_cell TM8 2; have TE8 := (hb.block w2.heap.size (blk_lt TE.out)).trans TE.out; have y0 := blk_cell TE8 0; have y1 := blk_cell TE8 1; have y2 := blk_cell TE8 2; have y3 := blk_cell TE8 3; have y4 := blk_cell TE8 4; have y5 := blk_cell TE8 5; have TZ8 := (hb.block w.heap.size (blk_lt TZ.out)).trans TZ.out; have v0 := blk_cell TZ8 0; have v1 := blk_cell TZ8 1; have v2 := blk_cell TZ8 2; have v3 := blk_cell TZ8 3; have v4 := blk_cell TZ8 4; have v5 := blk_cell TZ8 5; have g0 := blk_frozen TZ8 0; have g1 := blk_frozen TZ8 1; have g2 := blk_frozen TZ8 2; have g3 := blk_frozen TZ8 3; have g4 := blk_frozen TZ8 4; have g5 := blk_frozen TZ8 5; have HV := Aside0.mk hv; have TZ9 := Aside0.mk TZ8; have TA8 := Aside0.mk (Kd.R_below TA.out hb); have TB8 := Aside0.mk (Kd.R_below TB.out hb); have B8 := Aside0.mk (TBel.out.trans (hb.mono TBel.out.size)); clear hv hb TM8 TE8 TZ8))
          have hfin := entry_Parse.put6 TZ9.out (.int .i64 0) (.int .i64 0) (.int .u8 0) (.int .i64 0) (.slice none 0 0) (.slice none 0 0)
          have t0 := blk_cell hfin 0
          have t1 := blk_cell hfin 1
          have t2 := blk_cell hfin 2
          have t3 := blk_cell hfin 3
          have t4 := blk_cell hfin 4
          have t5 := blk_cell hfin 5
          clear hfin
          refine bodyPost_ret (v := .tuple #[.agg #[.int .i64 0, .int .i64 0, .int .u8 0, .int .i64 0, .slice none 0 0, .slice none 0 0], .int .i64 200]) (by simp [results, Tryd.results17, go_sem, t0, t1, t2, t3, t4, t5]) rfl ⟨_, _, rfl, Kd.R_nil _ _ _ _ _, Kd.R_nil _ _ _ _ _, entry_Parse.putB B8.out (Nat.le_refl _) (.int .i64 0) (.int .i64 0) (.int .u8 0) (.int .i64 0) (.slice none 0 0) (.slice none 0 0)⟩
        | false =>
          have hf := HF.out
          unfold entry_Parse.fin at hf
          obtain ⟨⟨o1, o2⟩, ho, hf⟩ := Option.bind_eq_some_iff.mp hf
          rw [Option.some.injEq] at hf
          have HO := Aside0.mk ho
          clear ho HF
          by_cases h2 : o2 = 0
          · subst h2
            cases heq : ((strOfNums o1).toList == (strOfNums l0).toList) with
            | true =>
              rw [if_pos ⟨rfl, rfl, heq⟩] at hf
              simp only [Prod.mk.injEq] at hf
              obtain ⟨rfl, rfl, rfl, rfl, rfl, rfl, rfl⟩ := hf
              have yy0 := blk_cell HE6.out 0
              have yy1 := blk_cell HE6.out 1
              have yy2 := blk_cell HE6.out 2
              have yy3 := blk_cell HE6.out 3
              have yy4 := blk_cell HE6.out 4
              have yy5 := blk_cell HE6.out 5
              go_wp2_with (first | (have TM := Aside0.mk (show ERd wr (w.heap.size + 1) A0 l0.length c0 a false from HM6.out); have TE := Aside0.mk (HE6.out); have TZ := Aside0.mk (HZ6.out); have TBel := Aside0.mk (HB6.out); have TA := Aside0.mk (HA6.out); have TB := Aside0.mk (Kd.R_nil (Kd.int .u8) 5 wr w.heap.size (fun k_ => k_ ≠ w.heap.size ∧ k_ ≠ w.heap.size + 1 ∧ k_ ≠ w2.heap.size)); go_at_call 22; (refine (entry_Bytes.calls k p1 s1 1 m1 Aa ca acc none 0 [] o1 0 _ (Kd.R_reads' TA.out).2.2 (Kd.R_reads' TA.out).2.1 (Kd.C_nil _ _) (Nat.le_refl _) HO.out).mono ?_); rintro e w8 ⟨v0, rfl, hv, hb⟩; obtain ⟨Ao, co, rfl⟩ := Kd.V_slice hv; have TM8 := (hb.block (w.heap.size + 1) (blk_lt TM.out)).trans TM.out; have u2 := blk_cell TM8 2; have TE8 := (hb.block w2.heap.size (blk_lt TE.out)).trans TE.out; have y0 := blk_cell TE8 0; have y1 := blk_cell TE8 1; have y2 := blk_cell TE8 2; have y3 := blk_cell TE8 3; have y4 := blk_cell TE8 4; have y5 := blk_cell TE8 5; have TZ8 := (hb.block w.heap.size (blk_lt TZ.out)).trans TZ.out; have v0 := blk_cell TZ8 0; have v1 := blk_cell TZ8 1; have v2 := blk_cell TZ8 2; have v3 := blk_cell TZ8 3; have v4 := blk_cell TZ8 4; have v5 := blk_cell TZ8 5; have g0 := blk_frozen TZ8 0; have g1 := blk_frozen TZ8 1; have g2 := blk_frozen TZ8 2; have g3 := blk_frozen TZ8 3; have g4 := blk_frozen TZ8 4; have g5 := blk_frozen TZ8 5; have HV := Aside0.mk hv; have TZ9 := Aside0.mk TZ8; have TA8 := Aside0.mk (Kd.R_below TA.out hb); have TB8 := Aside0.mk (Kd.R_below TB.out hb); have B8 := Aside0.mk (TBel.out.trans (hb.mono TBel.out.size)); clear hv hb TM8 TE8 TZ8) | (go_at_call 27; (refine (bytes_Equal.calls Ao co o1 A0 c0 l0 true _ (Kd.V_reads' HV.out).2.2 (Kd.V_reads' HV.out).2.1 (Kd.C_below HR.out B8.out) HC.out (show bytes_Equal.f o1 l0 = some true from by unfold bytes_Equal.f; rw [heq])).mono ?_); rintro e w9 ⟨rfl, ⟨nd, rfl⟩⟩))
              have hfin := entry_Parse.put6 (blk_drewN TZ9.out nd) (.int .i64 p1) (.int .i64 s1) (.int .u8 1) (.int .i64 m1) (.slice Aa acc.length ca) (.slice none 0 0)
              have t0 := blk_cell hfin 0
              have t1 := blk_cell hfin 1
              have t2 := blk_cell hfin 2
              have t3 := blk_cell hfin 3
              have t4 := blk_cell hfin 4
              have t5 := blk_cell hfin 5
              clear hfin
              refine bodyPost_ret (v := .tuple #[.agg #[.int .i64 p1, .int .i64 s1, .int .u8 1, .int .i64 m1, .slice Aa acc.length ca, .slice none 0 0], .int .i64 0]) (by simp [results, Tryd.results17, go_sem, t0, t1, t2, t3, t4, t5]) rfl ⟨_, _, rfl, Kd.R_mono (entry_Parse.putR (Kd.R_drewN TA8.out nd) (fun _ hk => hk.1) (.int .i64 p1) (.int .i64 s1) (.int .u8 1) (.int .i64 m1) (.slice Aa acc.length ca) (.slice none 0 0)) (fun _ _ => trivial), Kd.R_mono (entry_Parse.putR (Kd.R_drewN TB8.out nd) (fun _ hk => hk.1) (.int .i64 p1) (.int .i64 s1) (.int .u8 1) (.int .i64 m1) (.slice Aa acc.length ca) (.slice none 0 0)) (fun _ _ => trivial), entry_Parse.putB (pw_below_drewN B8.out nd) (Nat.le_refl _) (.int .i64 p1) (.int .i64 s1) (.int .u8 1) (.int .i64 m1) (.slice Aa acc.length ca) (.slice none 0 0)⟩
            | false =>
              rw [if_neg (fun c => by rw [heq] at c; exact absurd c.2.2 (by decide))] at hf
              simp only [Prod.mk.injEq] at hf
              obtain ⟨rfl, rfl, rfl, rfl, rfl, rfl, rfl⟩ := hf
              have yy0 := blk_cell HE6.out 0
              have yy1 := blk_cell HE6.out 1
              have yy2 := blk_cell HE6.out 2
              have yy3 := blk_cell HE6.out 3
              have yy4 := blk_cell HE6.out 4
              have yy5 := blk_cell HE6.out 5
              go_wp2_with (first | (have TM := Aside0.mk (show ERd wr (w.heap.size + 1) A0 l0.length c0 a false from HM6.out); have TE := Aside0.mk (HE6.out); have TZ := Aside0.mk (HZ6.out); have TBel := Aside0.mk (HB6.out); have TA := Aside0.mk (HA6.out); have TB := Aside0.mk (Kd.R_nil (Kd.int .u8) 5 wr w.heap.size (fun k_ => k_ ≠ w.heap.size ∧ k_ ≠ w.heap.size + 1 ∧ k_ ≠ w2.heap.size)); go_at_call 22; (refine (entry_Bytes.calls k p1 s1 1 m1 Aa ca acc none 0 [] o1 0 _ (Kd.R_reads' TA.out).2.2 (Kd.R_reads' TA.out).2.1 (Kd.C_nil _ _) (Nat.le_refl _) HO.out).mono ?_); rintro e w8 ⟨v0, rfl, hv, hb⟩; obtain ⟨Ao, co, rfl⟩ := Kd.V_slice hv; have TM8 := (hb.block (w.heap.size + 1) (blk_lt TM.out)).trans TM.out; have u2 := blk_cell TM8 2; have TE8 := (hb.block w2.heap.size (blk_lt TE.out)).trans TE.out; have y0 := blk_cell TE8 0; have y1 := blk_cell TE8 1; have y2 := blk_cell TE8 2; have y3 := blk_cell TE8 3; have y4 := blk_cell TE8 4; have y5 := blk_cell TE8 5; have TZ8 := (hb.block w.heap.size (blk_lt TZ.out)).trans TZ.out; have v0 := blk_cell TZ8 0; have v1 := blk_cell TZ8 1; have v2 := blk_cell TZ8 2; have v3 := blk_cell TZ8 3; have v4 := blk_cell TZ8 4; have v5 := blk_cell TZ8 5; have g0 := blk_frozen TZ8 0; have g1 := blk_frozen TZ8 1; have g2 := blk_frozen TZ8 2; have g3 := blk_frozen TZ8 3; have g4 := blk_frozen TZ8 4; have g5 := blk_frozen TZ8 5; have HV := Aside0.mk hv; have TZ9 := Aside0.mk TZ8; have TA8 := Aside0.mk (Kd.R_below TA.out hb); have TB8 := Aside0.mk (Kd.R_below TB.out hb); have B8 := Aside0.mk (TBel.out.trans (hb.mono TBel.out.size)); clear hv hb TM8 TE8 TZ8) | (go_at_call 27; (refine (bytes_Equal.calls Ao co o1 A0 c0 l0 false _ (Kd.V_reads' HV.out).2.2 (Kd.V_reads' HV.out).2.1 (Kd.C_below HR.out B8.out) HC.out (show bytes_Equal.f o1 l0 = some false from by unfold bytes_Equal.f; rw [heq])).mono ?_); rintro e w9 ⟨rfl, ⟨nd, rfl⟩⟩))
              have hfin := entry_Parse.put6 (blk_drewN TZ9.out nd) (.int .i64 0) (.int .i64 0) (.int .u8 0) (.int .i64 0) (.slice none 0 0) (.slice none 0 0)
              have t0 := blk_cell hfin 0
              have t1 := blk_cell hfin 1
              have t2 := blk_cell hfin 2
              have t3 := blk_cell hfin 3
              have t4 := blk_cell hfin 4
              have t5 := blk_cell hfin 5
              clear hfin
              refine bodyPost_ret (v := .tuple #[.agg #[.int .i64 0, .int .i64 0, .int .u8 0, .int .i64 0, .slice none 0 0, .slice none 0 0], .int .i64 200]) (by simp [results, Tryd.results17, go_sem, t0, t1, t2, t3, t4, t5]) rfl ⟨_, _, rfl, Kd.R_nil _ _ _ _ _, Kd.R_nil _ _ _ _ _, entry_Parse.putB (pw_below_drewN B8.out nd) (Nat.le_refl _) (.int .i64 0) (.int .i64 0) (.int .u8 0) (.int .i64 0) (.slice none 0 0) (.slice none 0 0)⟩
          · rw [if_neg (fun c => h2 c.2.1)] at hf
            have hn2 : (o2 != 0) = true := by rw [bne_iff_ne]; exact h2
            simp only [Prod.mk.injEq] at hf
            obtain ⟨rfl, rfl, rfl, rfl, rfl, rfl, rfl⟩ := hf
            have yy0 := blk_cell HE6.out 0
            have yy1 := blk_cell HE6.out 1
            have yy2 := blk_cell HE6.out 2
            have yy3 := blk_cell HE6.out 3
            have yy4 := blk_cell HE6.out 4
            have yy5 := blk_cell HE6.out 5
            go_wp2_with (first | (have TM := Aside0.mk (show ERd wr (w.heap.size + 1) A0 l0.length c0 a false from HM6.out); have TE := Aside0.mk (HE6.out); have TZ := Aside0.mk (HZ6.out); have TBel := Aside0.mk (HB6.out); have TA := Aside0.mk (HA6.out); have TB := Aside0.mk (Kd.R_nil (Kd.int .u8) 5 wr w.heap.size (fun k_ => k_ ≠ w.heap.size ∧ k_ ≠ w.heap.size + 1 ∧ k_ ≠ w2.heap.size)); go_at_call 22; (refine (entry_Bytes.calls k p1 s1 1 m1 Aa ca acc none 0 [] o1 o2 _ (Kd.R_reads' TA.out).2.2 (Kd.R_reads' TA.out).2.1 (Kd.C_nil _ _) (Nat.le_refl _) HO.out).mono ?_); rintro e w8 ⟨v0, rfl, hv, hb⟩; obtain ⟨Ao, co, rfl⟩ := Kd.V_slice hv; have TM8 := (hb.block (w.heap.size + 1) (blk_lt TM.out)).trans TM.out; have u2 := blk_cell TM8 2; have TE8 := (hb.block w2.heap.size (blk_lt TE.out)).trans TE.out; have y0 := blk_cell TE8 0; have y1 := blk_cell TE8 1; have y2 := blk_cell TE8 2; have y3 := blk_cell TE8 3; have y4 := blk_cell TE8 4; have y5 := blk_cell TE8 5; have TZ8 := (hb.block w.heap.size (blk_lt TZ.out)).trans TZ.out; have v0 := blk_cell TZ8 0; have v1 := blk_cell TZ8 1; have v2 := blk_cell TZ8 2; have v3 := blk_cell TZ8 3; have v4 := blk_cell TZ8 4; have v5 := blk_cell TZ8 5; have g0 := blk_frozen TZ8 0; have g1 := blk_frozen TZ8 1; have g2 := blk_frozen TZ8 2; have g3 := blk_frozen TZ8 3; have g4 := blk_frozen TZ8 4; have g5 := blk_frozen TZ8 5; have HV := Aside0.mk hv; have TZ9 := Aside0.mk TZ8; have TA8 := Aside0.mk (Kd.R_below TA.out hb); have TB8 := Aside0.mk (Kd.R_below TB.out hb); have B8 := Aside0.mk (TBel.out.trans (hb.mono TBel.out.size)); clear hv hb TM8 TE8 TZ8))
            have hfin := entry_Parse.put6 TZ9.out (.int .i64 0) (.int .i64 0) (.int .u8 0) (.int .i64 0) (.slice none 0 0) (.slice none 0 0)
            have t0 := blk_cell hfin 0
            have t1 := blk_cell hfin 1
            have t2 := blk_cell hfin 2
            have t3 := blk_cell hfin 3
            have t4 := blk_cell hfin 4
            have t5 := blk_cell hfin 5
            clear hfin
            refine bodyPost_ret (v := .tuple #[.agg #[.int .i64 0, .int .i64 0, .int .u8 0, .int .i64 0, .slice none 0 0, .slice none 0 0], .int .i64 200]) (by simp [results, Tryd.results17, go_sem, t0, t1, t2, t3, t4, t5]) rfl ⟨_, _, rfl, Kd.R_nil _ _ _ _ _, Kd.R_nil _ _ _ _ _, entry_Parse.putB B8.out (Nat.le_refl _) (.int .i64 0) (.int .i64 0) (.int .u8 0) (.int .i64 0) (.slice none 0 0) (.slice none 0 0)⟩
  · by_cases k2 : q1 % 256 = 2
    · have hh := HH.out
      rw [if_neg k1, if_pos k2] at hh
      obtain ⟨⟨g1, g2, g3⟩, hg, hh⟩ := Option.bind_eq_some_iff.mp hh
      obtain ⟨cl, hcl, hh⟩ := Option.bind_eq_some_iff.mp hh
      have HGR := Aside0.mk hg
      have HCL := Aside0.mk hcl
      have HF := Aside0.mk hh
      clear hh HH hg hcl
      cases q3 with
      | true =>
        rw [Bool.true_or] at HF
        have hf := HF.out
        unfold entry_Parse.fin at hf
        obtain ⟨⟨o1, o2⟩, ho, hf⟩ := Option.bind_eq_some_iff.mp hf
        rw [Option.some.injEq] at hf
        have HO := Aside0.mk ho
        clear ho HF
        rw [if_neg (by simp)] at hf
        simp only [Prod.mk.injEq] at hf
        obtain ⟨rfl, rfl, rfl, rfl, rfl, rfl, rfl⟩ := hf
        go_enter Tryd.func17, Tryd.ntmps17
        go_wp2_with (first | ((fail_if_success (have h_ := w1)); go_at_call 36; (refine (entry_reader_number.calls k (w.heap.size + 1) w.heap.size A0 c0 l0 0 false 1 _ _ (by omega) (show ERd _ (w.heap.size + 1) A0 l0.length c0 0 false from ?s0) (Kd.C_alloc (Kd.C_alloc HR.out _) _) HC.out HP.out).mono ?_); (case s0 => have h_ := blk_new (w.alloc (.cells #[.int .i64 0, .int .i64 0, .int .u8 0, .int .i64 0, .slice none 0 0, .slice none 0 0] 45)) (.cells #[.slice A0 l0.length c0, .int .i64 0, .bool false] 71); rw [World.size_alloc] at h_; exact h_); rintro e w1 ⟨rfl, hm, hk, hb⟩; have M1 := Aside0.mk hm; have K1 := Aside0.mk hk; have B1 := Aside0.mk ((below_alloc (below_alloc (Below.refl w.heap.size w) _) _).trans hb); clear hm hk hb) | ((fail_if_success (have h_ := w2)); go_at_call 36; (refine (entry_reader_number.calls k (w.heap.size + 1) w.heap.size A0 c0 l0 p2 p3 6 _ _ (by omega) M1.out (Kd.C_below HR.out B1.out) HC.out HS.out).mono ?_); rintro e w2 ⟨rfl, hm, hk, hb⟩; have M2 := Aside0.mk hm; have K2 := Aside0.mk (K1.out.trans hk (.inl rfl)); have B2 := Aside0.mk (B1.out.trans hb); clear hm hk hb) | ((fail_if_success (have h_ := w3)); go_at_call 36; (refine (entry_reader_number.calls k (w.heap.size + 1) w.heap.size A0 c0 l0 s2 s3 1 _ _ (by omega) (blk_alloc M2.out _) (Kd.C_below HR.out (below_alloc B2.out _)) HC.out HQ.out).mono ?_); rintro e w3 ⟨rfl, hm, hk, hb⟩; have M3 := Aside0.mk hm; have hE := hk.blk (blk_new w2 _) (Nat.ne_of_gt (blk_lt M2.out)) (by simp); have E3 := Aside0.mk hE; have c30 := blk_cell hE 0; have c31 := blk_cell hE 1; have c32 := blk_cell hE 2; have c33 := blk_cell hE 3; have c34 := blk_cell hE 4; have c35 := blk_cell hE 5; have f32 := blk_frozen hE 2; have K3 := Aside0.mk ((keep_alloc K2.out _).trans hk (.inl rfl)); have B3 := Aside0.mk ((below_alloc B2.out _).trans hb); have r31 := blk_cell (blk_far M3.out (p := ⟨w2.heap.size, 2, none⟩) (Nat.ne_of_lt (blk_lt M2.out)) (.int .u8 2)) 1; clear hm hk hb hE) | (go_at_call 37; (refine (octet_GetRow.calls k A0 c0 l0 q2 g1 g2 g3 _ (Kd.C_below HR.out (B3.out.setCell (p := ⟨w2.heap.size, 2, none⟩) B2.out.size _)) HC.out HGR.out).mono ?_); rintro e w4 ⟨v0, rfl, ho, hb⟩; obtain ⟨Ar, cr, rfl⟩ := Kd.R_slice ho; have hM := (hb.block (w.heap.size + 1) (by simp; exact Nat.lt_trans (blk_lt M2.out) (blk_lt E3.out))).trans (blk_far M3.out (p := ⟨w2.heap.size, 2, none⟩) (Nat.ne_of_lt (blk_lt M2.out)) _); have r42 := blk_cell hM 2; have s42 := blk_frozen hM 2; have M4 := Aside0.mk hM; have E4 := Aside0.mk ((hb.block w2.heap.size (by simp; exact blk_lt E3.out)).trans (blk_put E3.out 2 (.int .u8 2) rfl)); have Z4 := Aside0.mk ((hb.block w.heap.size (by simp; exact Nat.lt_of_le_of_lt (Nat.le_succ _) (Nat.lt_trans (blk_lt M2.out) (blk_lt E3.out)))).trans (blk_far (HZ.out _ K3.out) (p := ⟨w2.heap.size, 2, none⟩) (by have := blk_lt M2.out; show w.heap.size ≠ w2.heap.size; omega) (.int .u8 2))); have B4 := Aside0.mk ((B3.out.setCell (p := ⟨w2.heap.size, 2, none⟩) B2.out.size _).trans (hb.mono (B3.out.setCell (p := ⟨w2.heap.size, 2, none⟩) B2.out.size _).size)); have RO4 := Aside0.mk (Kd.R_far (p := ⟨w.heap.size + 1, 2, none⟩) (Kd.R_mono (ok' := fun k_ => k_ ≠ w.heap.size + 1) (Kd.R_bound ho) (fun k_ hk => by have h1_ := hk.2.1; have h2_ := blk_lt M2.out; have h3_ := blk_lt E3.out; simp at h1_; omega)) (fun _ hk => hk) (.bool true)); clear ho hb hM c30 c31 c32 c33 c34 c35 f32 r31) | (go_at_call 38; (refine (bytes_Clone.calls Ar cr g1 cl _ (Kd.R_reads' RO4.out).2.2 (Kd.R_reads' RO4.out).2.1 HCL.out).mono ?_); rintro e w5 ⟨v1, rfl, ho, hb⟩; obtain ⟨Ac, cc, rfl⟩ := Kd.R_slice ho; have M5 := Aside0.mk ((hb.block (w.heap.size + 1) (by simp; exact blk_lt M4.out)).trans (blk_put M4.out 2 (.bool true) rfl)); have hE := (hb.block w2.heap.size (by simp; exact blk_lt E4.out)).trans (blk_far E4.out (p := ⟨w.heap.size + 1, 2, none⟩) (Nat.ne_of_gt (blk_lt M2.out)) (.bool true)); have E5 := Aside0.mk hE; have f55 := blk_frozen hE 5; have c50 := blk_cell hE 0; have c51 := blk_cell hE 1; have c52 := blk_cell hE 2; have c53 := blk_cell hE 3; have c54 := blk_cell hE 4; have c55 := blk_cell hE 5; have Z5 := Aside0.mk ((hb.block w.heap.size (by simp; exact blk_lt Z4.out)).trans (blk_far Z4.out (p := ⟨w.heap.size + 1, 2, none⟩) (by show w.heap.size ≠ w.heap.size + 1; omega) (.bool true))); have B5 := Aside0.mk ((B4.out.setCell (p := ⟨w.heap.size + 1, 2, none⟩) (Nat.le_succ _) _).trans (hb.mono (B4.out.setCell (p := ⟨w.heap.size + 1, 2, none⟩) (Nat.le_succ _) _).size)); have RB5 := Aside0.mk (Kd.R_mono (ok' := (fun k_ => k_ ≠ w.heap.size ∧ k_ ≠ w.heap.size + 1 ∧ k_ ≠ w2.heap.size)) (Kd.R_lower (base' := w.heap.size) (Kd.R_bound ho) (by simp; exact B4.out.size)) (fun k_ hk => by have h1_ := hk.2.1; have h2_ := blk_lt M2.out; have h3_ := blk_lt E4.out; simp at h1_; refine ⟨by omega, by omega, by omega⟩)); clear ho hb hE r42 s42) | (have TM := Aside0.mk (show ERd (w5.setCell ⟨w2.heap.size, 5, none⟩ (.slice Ac cl.length cc)) (w.heap.size + 1) A0 l0.length c0 q2 true from blk_far M5.out (p := ⟨w2.heap.size, 5, none⟩) (Nat.ne_of_lt (blk_lt M2.out)) _); have TE := Aside0.mk (blk_put E5.out 5 (.slice Ac cl.length cc) rfl); have TZ := Aside0.mk (blk_far Z5.out (p := ⟨w2.heap.size, 5, none⟩) (by have := blk_lt M2.out; show w.heap.size ≠ w2.heap.size; omega) (.slice Ac cl.length cc)); have TBel := Aside0.mk (B5.out.setCell (p := ⟨w2.heap.size, 5, none⟩) B2.out.size (.slice Ac cl.length cc)); have TA := Aside0.mk (Kd.R_nil k37 37 (w5.setCell ⟨w2.heap.size, 5, none⟩ (.slice Ac cl.length cc)) w.heap.size (fun k_ => k_ ≠ w.heap.size ∧ k_ ≠ w.heap.size + 1 ∧ k_ ≠ w2.heap.size)); have TB := Aside0.mk (Kd.R_far (p := ⟨w2.heap.size, 5, none⟩) RB5.out (fun _ hk => hk.2.2) (.slice Ac cl.length cc)); go_at_call 22; (refine (entry_Bytes.calls k p1 s1 2 0 none 0 [] Ac cc cl o1 o2 _ (Kd.C_nil _ _) (Nat.le_refl _) (Kd.R_reads' TB.out).2.2 (Kd.R_reads' TB.out).2.1 HO.out).mono ?_); rintro e w8 ⟨v0, rfl, hv, hb⟩; obtain ⟨Ao, co, rfl⟩ := Kd.V_slice hv; have TM8 := (hb.block (w.heap.size + 1) (blk_lt TM.out)).trans TM.out; have u2 := blk_cell TM8 2; have TE8 := (hb.block w2.heap.size (blk_lt TE.out)).trans TE.out; have y0 := blk_cell TE8 0; have y1 := blk_cell TE8 1; have y2 := blk_cell TE8 2; have y3 := blk_cell TE8 3; have y4 := blk_cell TE8 4; have y5 := blk_cell TE8 5; have TZ8 := (hb.block w.heap.size (blk_lt TZ.out)).trans TZ.out; have v0 := blk_cell TZ8 0; have v1 := blk_cell TZ8 1; have v2 := blk_cell TZ8 2; have v3 := blk_cell TZ8 3; have v4 := blk_cell TZ8 4; have v5 := blk_cell TZ8 5; have g0 := blk_frozen TZ8 0; have g1 := blk_frozen TZ8 1; have g2 := blk_frozen TZ8 2; have g3 := blk_frozen TZ8 3; have g4 := blk_frozen TZ8 4; have g5 := blk_frozen TZ8 5; have HV := Aside0.mk hv; have TZ9 := Aside0.mk TZ8; have TA8 := Aside0.mk (Kd.R_below TA.out hb); have TB8 := Aside0.mk (Kd.R_below TB.out hb); have B8 := Aside0.mk (TBel.out.trans (hb.mono TBel.out.size)); clear hv hb TM8 TE8 TZ8))
        have hfin := entry_Parse.put6 TZ9.out (.int .i64 0) (.int .i64 0) (.int .u8 0) (.int .i64 0) (.slice none 0 0) (.slice none 0 0)
        have t0 := blk_cell hfin 0
        have t1 := blk_cell hfin 1
        have t2 := blk_cell hfin 2
        have t3 := blk_cell hfin 3
        have t4 := blk_cell hfin 4
        have t5 := blk_cell hfin 5
        clear hfin
        refine bodyPost_ret (v := .tuple #[.agg #[.int .i64 0, .int .i64 0, .int .u8 0, .int .i64 0, .slice none 0 0, .slice none 0 0], .int .i64 200]) (by simp [results, Tryd.results17, go_sem, t0, t1, t2, t3, t4, t5]) rfl ⟨_, _, rfl, Kd.R_nil _ _ _ _ _, Kd.R_nil _ _ _ _ _, entry_Parse.putB B8.out (Nat.le_refl _) (.int .i64 0) (.int .i64 0) (.int .u8 0) (.int .i64 0) (.slice none 0 0) (.slice none 0 0)⟩
      | false =>
        rw [Bool.false_or] at HF
        by_cases h3 : g3 = 0
        · subst h3
          rw [show ((0 : Int) != 0) = false from rfl] at HF
          have hf := HF.out
          unfold entry_Parse.fin at hf
          obtain ⟨⟨o1, o2⟩, ho, hf⟩ := Option.bind_eq_some_iff.mp hf
          rw [Option.some.injEq] at hf
          have HO := Aside0.mk ho
          clear ho HF
          by_cases h2 : o2 = 0
          · subst h2
            cases heq : ((strOfNums o1).toList == (strOfNums l0).toList) with
            | true =>
              rw [if_pos ⟨rfl, rfl, heq⟩] at hf
              simp only [Prod.mk.injEq] at hf
              obtain ⟨rfl, rfl, rfl, rfl, rfl, rfl, rfl⟩ := hf
              go_enter Tryd.func17, Tryd.ntmps17
              go_wp2_with (first | ((fail_if_success (have h_ := w1)); go_at_call 36; (refine (entry_reader_number.calls k (w.heap.size + 1) w.heap.size A0 c0 l0 0 false 1 _ _ (by omega) (show ERd _ (w.heap.size + 1) A0 l0.length c0 0 false from ?s0) (Kd.C_alloc (Kd.C_alloc HR.out _) _) HC.out HP.out).mono ?_); (case s0 => have h_ := blk_new (w.alloc (.cells #[.int .i64 0, .int .i64 0, .int .u8 0, .int .i64 0, .slice none 0 0, .slice none 0 0] 45)) (.cells #[.slice A0 l0.length c0, .int .i64 0, .bool false] 71); rw [World.size_alloc] at h_; exact h_); rintro e w1 ⟨rfl, hm, hk, hb⟩; have M1 := Aside0.mk hm; have K1 := Aside0.mk hk; have B1 := Aside0.mk ((below_alloc (below_alloc (Below.refl w.heap.size w) _) _).trans hb); clear hm hk hb) | ((fail_if_success (have h_ := w2)); go_at_call 36; (refine (entry_reader_number.calls k (w.heap.size + 1) w.heap.size A0 c0 l0 p2 p3 6 _ _ (by omega) M1.out (Kd.C_below HR.out B1.out) HC.out HS.out).mono ?_); rintro e w2 ⟨rfl, hm, hk, hb⟩; have M2 := Aside0.mk hm; have K2 := Aside0.mk (K1.out.trans hk (.inl rfl)); have B2 := Aside0.mk (B1.out.trans hb); clear hm hk hb) | ((fail_if_success (have h_ := w3)); go_at_call 36; (refine (entry_reader_number.calls k (w.heap.size + 1) w.heap.size A0 c0 l0 s2 s3 1 _ _ (by omega) (blk_alloc M2.out _) (Kd.C_below HR.out (below_alloc B2.out _)) HC.out HQ.out).mono ?_); rintro e w3 ⟨rfl, hm, hk, hb⟩; have M3 := Aside0.mk hm; have hE := hk.blk (blk_new w2 _) (Nat.ne_of_gt (blk_lt M2.out)) (by simp); have E3 := Aside0.mk hE; have c30 := blk_cell hE 0; have c31 := blk_cell hE 1; have c32 := blk_cell hE 2; have c33 := blk_cell hE 3; have c34 := blk_cell hE 4; have c35 := blk_cell hE 5; have f32 := blk_frozen hE 2; have K3 := Aside0.mk ((keep_alloc K2.out _).trans hk (.inl rfl)); have B3 := Aside0.mk ((below_alloc B2.out _).trans hb); have r31 := blk_cell (blk_far M3.out (p := ⟨w2.heap.size, 2, none⟩) (Nat.ne_of_lt (blk_lt M2.out)) (.int .u8 2)) 1; clear hm hk hb hE) | (go_at_call 37; (refine (octet_GetRow.calls k A0 c0 l0 q2 g1 g2 0 _ (Kd.C_below HR.out (B3.out.setCell (p := ⟨w2.heap.size, 2, none⟩) B2.out.size _)) HC.out HGR.out).mono ?_); rintro e w4 ⟨v0, rfl, ho, hb⟩; obtain ⟨Ar, cr, rfl⟩ := Kd.R_slice ho; have hM := (hb.block (w.heap.size + 1) (by simp; exact Nat.lt_trans (blk_lt M2.out) (blk_lt E3.out))).trans (blk_far M3.out (p := ⟨w2.heap.size, 2, none⟩) (Nat.ne_of_lt (blk_lt M2.out)) _); have r42 := blk_cell hM 2; have s42 := blk_frozen hM 2; have M4 := Aside0.mk hM; have E4 := Aside0.mk ((hb.block w2.heap.size (by simp; exact blk_lt E3.out)).trans (blk_put E3.out 2 (.int .u8 2) rfl)); have Z4 := Aside0.mk ((hb.block w.heap.size (by simp; exact Nat.lt_of_le_of_lt (Nat.le_succ _) (Nat.lt_trans (blk_lt M2.out) (blk_lt E3.out)))).trans (blk_far (HZ.out _ K3.out) (p := ⟨w2.heap.size, 2, none⟩) (by have := blk_lt M2.out; show w.heap.size ≠ w2.heap.size; omega) (.int .u8 2))); have B4 := Aside0.mk ((B3.out.setCell (p := ⟨w2.heap.size, 2, none⟩) B2.out.size _).trans (hb.mono (B3.out.setCell (p := ⟨w2.heap.size, 2, none⟩) B2.out.size _).size)); have RO4 := Aside0.mk (Kd.R_far (p := ⟨w.heap.size + 1, 2, none⟩) (Kd.R_mono (ok' := fun k_ => k_ ≠ w.heap.size + 1) (Kd.R_bound ho) (fun k_ hk => by have h1_ := hk.2.1; have h2_ := blk_lt M2.out; have h3_ := blk_lt E3.out; simp at h1_; omega)) (fun _ hk => hk) (.bool false)); clear ho hb hM c30 c31 c32 c33 c34 c35 f32 r31) | (go_at_call 38; (refine (bytes_Clone.calls Ar cr g1 cl _ (Kd.R_reads' RO4.out).2.2 (Kd.R_reads' RO4.out).2.1 HCL.out).mono ?_); rintro e w5 ⟨v1, rfl, ho, hb⟩; obtain ⟨Ac, cc, rfl⟩ := Kd.R_slice ho; have M5 := Aside0.mk ((hb.block (w.heap.size + 1) (by simp; exact blk_lt M4.out)).trans (blk_put M4.out 2 (.bool false) rfl)); have hE := (hb.block w2.heap.size (by simp; exact blk_lt E4.out)).trans (blk_far E4.out (p := ⟨w.heap.size + 1, 2, none⟩) (Nat.ne_of_gt (blk_lt M2.out)) (.bool false)); have E5 := Aside0.mk hE; have f55 := blk_frozen hE 5; have c50 := blk_cell hE 0; have c51 := blk_cell hE 1; have c52 := blk_cell hE 2; have c53 := blk_cell hE 3; have c54 := blk_cell hE 4; have c55 := blk_cell hE 5; have Z5 := Aside0.mk ((hb.block w.heap.size (by simp; exact blk_lt Z4.out)).trans (blk_far Z4.out (p := ⟨w.heap.size + 1, 2, none⟩) (by show w.heap.size ≠ w.heap.size + 1; omega) (.bool false))); have B5 := Aside0.mk ((B4.out.setCell (p := ⟨w.heap.size + 1, 2, none⟩) (Nat.le_succ _) _).trans (hb.mono (B4.out.setCell (p := ⟨w.heap.size + 1, 2, none⟩) (Nat.le_succ _) _).size)); have RB5 := Aside0.mk (Kd.R_mono (ok' := (fun k_ => k_ ≠ w.heap.size ∧ k_ ≠ w.heap.size + 1 ∧ k_ ≠ w2.heap.size)) (Kd.R_lower (base' := w.heap.size) (Kd.R_bound ho) (by simp; exact B4.out.size)) (fun k_ hk => by have h1_ := hk.2.1; have h2_ := blk_lt M2.out; have h3_ := blk_lt E4.out; simp at h1_; refine ⟨by omega, by omega, by omega⟩)); clear ho hb hE r42 s42) | (have TM := Aside0.mk (show ERd (w5.setCell ⟨w2.heap.size, 5, none⟩ (.slice Ac cl.length cc)) (w.heap.size + 1) A0 l0.length c0 q2 false from blk_far M5.out (p := ⟨w2.heap.size, 5, none⟩) (Nat.ne_of_lt (blk_lt M2.out)) _); have TE := Aside0.mk (blk_put E5.out 5 (.slice Ac cl.length cc) rfl); have TZ := Aside0.mk (blk_far Z5.out (p := ⟨w2.heap.size, 5, none⟩) (by have := blk_lt M2.out; show w.heap.size ≠ w2.heap.size; omega) (.slice Ac cl.length cc)); have TBel := Aside0.mk (B5.out.setCell (p := ⟨w2.heap.size, 5, none⟩) B2.out.size (.slice Ac cl.length cc)); have TA := Aside0.mk (Kd.R_nil k37 37 (w5.setCell ⟨w2.heap.size, 5, none⟩ (.slice Ac cl.length cc)) w.heap.size (fun k_ => k_ ≠ w.heap.size ∧ k_ ≠ w.heap.size + 1 ∧ k_ ≠ w2.heap.size)); have TB := Aside0.mk (Kd.R_far (p := ⟨w2.heap.size, 5, none⟩) RB5.out (fun _ hk => hk.2.2) (.slice Ac cl.length cc)); go_at_call 22; (refine (entry_Bytes.calls k p1 s1 2 0 none 0 [] Ac cc cl o1 0 _ (Kd.C_nil _ _) (Nat.le_refl _) (Kd.R_reads' TB.out).2.2 (Kd.R_reads' TB.out).2.1 HO.out).mono ?_); rintro e w8 ⟨v0, rfl, hv, hb⟩; obtain ⟨Ao, co, rfl⟩ := Kd.V_slice hv; have TM8 := (hb.block (w.heap.size + 1) (blk_lt TM.out)).trans TM.out; have u2 := blk_cell TM8 2; have TE8 := (hb.block w2.heap.size (blk_lt TE.out)).trans TE.out; have y0 := blk_cell TE8 0; have y1 := blk_cell TE8 1; have y2 := blk_cell TE8 2; have y3 := blk_cell TE8 3; have y4 := blk_cell TE8 4; have y5 := blk_cell TE8 5; have TZ8 := (hb.block w.heap.size (blk_lt TZ.out)).trans TZ.out; have v0 := blk_cell TZ8 0; have v1 := blk_cell TZ8 1; have v2 := blk_cell TZ8 2; have v3 := blk_cell TZ8 3; have v4 := blk_cell TZ8 4; have v5 := blk_cell TZ8 5; have g0 := blk_frozen TZ8 0; have g1 := blk_frozen TZ8 1; have g2 := blk_frozen TZ8 2; have g3 := blk_frozen TZ8 3; have g4 := blk_frozen TZ8 4; have g5 := blk_frozen TZ8 5; have HV := Aside0.mk hv; have TZ9 := Aside0.mk TZ8; have TA8 := Aside0.mk (Kd.R_below TA.out hb); have TB8 := Aside0.mk (Kd.R_below TB.out hb); have B8 := Aside0.mk (TBel.out.trans (hb.mono TBel.out.size)); clear hv hb TM8 TE8 TZ8) | (go_at_call 27; (refine (bytes_Equal.calls Ao co o1 A0 c0 l0 true _ (Kd.V_reads' HV.out).2.2 (Kd.V_reads' HV.out).2.1 (Kd.C_below HR.out B8.out) HC.out (show bytes_Equal.f o1 l0 = some true from by unfold bytes_Equal.f; rw [heq])).mono ?_); rintro e w9 ⟨rfl, ⟨nd, rfl⟩⟩))
              have hfin := entry_Parse.put6 (blk_drewN TZ9.out nd) (.int .i64 p1) (.int .i64 s1) (.int .u8 2) (.int .i64 0) (.slice none 0 0) (.slice Ac cl.length cc)
              have t0 := blk_cell hfin 0
              have t1 := blk_cell hfin 1
              have t2 := blk_cell hfin 2
              have t3 := blk_cell hfin 3
              have t4 := blk_cell hfin 4
              have t5 := blk_cell hfin 5
              clear hfin
              refine bodyPost_ret (v := .tuple #[.agg #[.int .i64 p1, .int .i64 s1, .int .u8 2, .int .i64 0, .slice none 0 0, .slice Ac cl.length cc], .int .i64 0]) (by simp [results, Tryd.results17, go_sem, t0, t1, t2, t3, t4, t5]) rfl ⟨_, _, rfl, Kd.R_mono (entry_Parse.putR (Kd.R_drewN TA8.out nd) (fun _ hk => hk.1) (.int .i64 p1) (.int .i64 s1) (.int .u8 2) (.int .i64 0) (.slice none 0 0) (.slice Ac cl.length cc)) (fun _ _ => trivial), Kd.R_mono (entry_Parse.putR (Kd.R_drewN TB8.out nd) (fun _ hk => hk.1) (.int .i64 p1) (.int .i64 s1) (.int .u8 2) (.int .i64 0) (.slice none 0 0) (.slice Ac cl.length cc)) (fun _ _ => trivial), entry_Parse.putB (pw_below_drewN B8.out nd) (Nat.le_refl _) (.int .i64 p1) (.int .i64 s1) (.int .u8 2) (.int .i64 0) (.slice none 0 0) (.slice Ac cl.length cc)⟩
            | false =>
              rw [if_neg (fun c => by rw [heq] at c; exact absurd c.2.2 (by decide))] at hf
              simp only [Prod.mk.injEq] at hf
              obtain ⟨rfl, rfl, rfl, rfl, rfl, rfl, rfl⟩ := hf
              go_enter Tryd.func17, Tryd.ntmps17
              go_wp2_with (first | ((fail_if_success (have h_ := w1)); go_at_call 36; (refine (entry_reader_number.calls k (w.heap.size + 1) w.heap.size A0 c0 l0 0 false 1 _ _ (by omega) (show ERd _ (w.heap.size + 1) A0 l0.length c0 0 false from ?s0) (Kd.C_alloc (Kd.C_alloc HR.out _) _) HC.out HP.out).mono ?_); (case s0 => have h_ := blk_new (w.alloc (.cells #[.int .i64 0, .int .i64 0, .int .u8 0, .int .i64 0, .slice none 0 0, .slice none 0 0] 45)) (.cells #[.slice A0 l0.length c0, .int .i64 0, .bool false] 71); rw [World.size_alloc] at h_; exact h_); rintro e w1 ⟨rfl, hm, hk, hb⟩; have M1 := Aside0.mk hm; have K1 := Aside0.mk hk; have B1 := Aside0.mk ((below_alloc (below_alloc (Below.refl w.heap.size w) _) _).trans hb); clear hm hk hb) | ((fail_if_success (have h_ := w2)); go_at_call 36; (refine (entry_reader_number.calls k (w.heap.size + 1) w.heap.size A0 c0 l0 p2 p3 6 _ _ (by omega) M1.out (Kd.C_below HR.out B1.out) HC.out HS.out).mono ?_); rintro e w2 ⟨rfl, hm, hk, hb⟩; have M2 := Aside0.mk hm; have K2 := Aside0.mk (K1.out.trans hk (.inl rfl)); have B2 := Aside0.mk (B1.out.trans hb); clear hm hk hb) | ((fail_if_success (have h_ := w3)); go_at_call 36; (refine (entry_reader_number.calls k (w.heap.size + 1) w.heap.size A0 c0 l0 s2 s3 1 _ _ (by omega) (blk_alloc M2.out _) (Kd.C_below HR.out (below_alloc B2.out _)) HC.out HQ.out).mono ?_); rintro e w3 ⟨rfl, hm, hk, hb⟩; have M3 := Aside0.mk hm; have hE := hk.blk (blk_new w2 _) (Nat.ne_of_gt (blk_lt M2.out)) (by simp); have E3 := Aside0.mk hE; have c30 := blk_cell hE 0; have c31 := blk_cell hE 1; have c32 := blk_cell hE 2; have c33 := blk_cell hE 3; have c34 := blk_cell hE 4; have c35 := blk_cell hE 5; have f32 := blk_frozen hE 2; have K3 := Aside0.mk ((keep_alloc K2.out _).trans hk (.inl rfl)); have B3 := Aside0.mk ((below_alloc B2.out _).trans hb); have r31 := blk_cell (blk_far M3.out (p := ⟨w2.heap.size, 2, none⟩) (Nat.ne_of_lt (blk_lt M2.out)) (.int .u8 2)) 1; clear hm hk hb hE) | (go_at_call 37; (refine (octet_GetRow.calls k A0 c0 l0 q2 g1 g2 0 _ (Kd.C_below HR.out (B3.out.setCell (p := ⟨w2.heap.size, 2, none⟩) B2.out.size _)) HC.out HGR.out).mono ?_); rintro e w4 ⟨v0, rfl, ho, hb⟩; obtain ⟨Ar, cr, rfl⟩ := Kd.R_slice ho; have hM := (hb.block (w.heap.size + 1) (by simp; exact Nat.lt_trans (blk_lt M2.out) (blk_lt E3.out))).trans (blk_far M3.out (p := ⟨w2.heap.size, 2, none⟩) (Nat.ne_of_lt (blk_lt M2.out)) _); have r42 := blk_cell hM 2; have s42 := blk_frozen hM 2; have M4 := Aside0.mk hM; have E4 := Aside0.mk ((hb.block w2.heap.size (by simp; exact blk_lt E3.out)).trans (blk_put E3.out 2 (.int .u8 2) rfl)); have Z4 := Aside0.mk ((hb.block w.heap.size (by simp; exact Nat.lt_of_le_of_lt (Nat.le_succ _) (Nat.lt_trans (blk_lt M2.out) (blk_lt E3.out)))).trans (blk_far (HZ.out _ K3.out) (p := ⟨w2.heap.size, 2, none⟩) (by have := blk_lt M2.out; show w.heap.size ≠ w2.heap.size; omega) (.int .u8 2))); have B4 := Aside0.mk ((B3.out.setCell (p := ⟨w2.heap.size, 2, none⟩) B2.out.size _).trans (hb.mono (B3.out.setCell (p := ⟨w2.heap.size, 2, none⟩) B2.out.size _).size)); have RO4 := Aside0.mk (Kd.R_far (p := ⟨w.heap.size + 1, 2, none⟩) (Kd.R_mono (ok' := fun k_ => k_ ≠ w.heap.size + 1) (Kd.R_bound ho) (fun k_ hk => by have h1_ := hk.2.1; have h2_ := blk_lt M2.out; have h3_ := blk_lt E3.out; simp at h1_; omega)) (fun _ hk => hk) (.bool false)); clear ho hb hM c30 c31 c32 c33 c34 c35 f32 r31) | (go_at_call 38; (refine (bytes_Clone.calls Ar cr g1 cl _ (Kd.R_reads' RO4.out).2.2 (Kd.R_reads' RO4.out).2.1 HCL.out).mono ?_); rintro e w5 ⟨v1, rfl, ho, hb⟩; obtain ⟨Ac, cc, rfl⟩ := Kd.R_slice ho; have M5 := Aside0.mk ((hb.block (w.heap.size + 1) (by simp; exact blk_lt M4.out)).trans (blk_put M4.out 2 (.bool false) rfl)); have hE := (hb.block w2.heap.size (by simp; exact blk_lt E4.out)).trans (blk_far E4.out (p := ⟨w.heap.size + 1, 2, none⟩) (Nat.ne_of_gt (blk_lt M2.out)) (.bool false)); have E5 := Aside0.mk hE; have f55 := blk_frozen hE 5; have c50 := blk_cell hE 0; have c51 := blk_cell hE 1; have c52 := blk_cell hE 2; have c53 := blk_cell hE 3; have c54 := blk_cell hE 4; have c55 := blk_cell hE 5; have Z5 := Aside0.mk ((hb.block w.heap.size (by simp; exact blk_lt Z4.out)).trans (blk_far Z4.out (p := ⟨w.heap.size + 1, 2, none⟩) (by show w.heap.size ≠ w.heap.size + 1; omega) (.bool false))); have B5 := Aside0.mk ((B4.out.setCell (p := ⟨w.heap.size + 1, 2, none⟩) (Nat.le_succ _) _).trans (hb.mono (B4.out.setCell (p := ⟨w.heap.size + 1, 2, none⟩) (Nat.le_succ _) _).size)); have RB5 := Aside0.mk (Kd.R_mono (ok' := (fun k_ => k_ ≠ w.heap.size ∧ k_ ≠ w.heap.size + 1 ∧ k_ ≠ w2.heap.size)) (Kd.R_lower (base' := w.heap.size) (Kd.R_bound ho) (by simp; exact B4.out.size)) (fun k_ hk => by have h1_ := hk.2.1; have h2_ := blk_lt M2.out; have h3_ := blk_lt E4.out; simp at h1_; refine ⟨by omega, by omega, by omega⟩)); clear ho hb hE r42 s42) | (have TM := Aside0.mk (show ERd (w5.setCell ⟨w2.heap.size, 5, none⟩ (.slice Ac cl.length cc)) (w.heap.size + 1) A0 l0.length c0 q2 false from blk_far M5.out (p := ⟨w2.heap.size, 5, none⟩) (Nat.ne_of_lt (blk_lt M2.out)) _); have TE := Aside0.mk (blk_put E5.out 5 (.slice Ac cl.length cc) rfl); have TZ := Aside0.mk (blk_far Z5.out (p := ⟨w2.heap.size, 5, none⟩) (by have := blk_lt M2.out; show w.heap.size ≠ w2.heap.size; omega) (.slice Ac cl.length cc)); have TBel := Aside0.mk (B5.out.setCell (p := ⟨w2.heap.size, 5, none⟩) B2.out.size (.slice Ac cl.length cc)); have TA := Aside0.mk (Kd.R_nil k37 37 (w5.setCell ⟨w2.heap.size, 5, none⟩ (.slice Ac cl.length cc)) w.heap.size (fun k_ => k_ ≠ w.heap.size ∧ k_ ≠ w.heap.size + 1 ∧ k_ ≠ w2.heap.size)); have TB := Aside0.mk (Kd.R_far (p := ⟨w2.heap.size, 5, none⟩) RB5.out (fun _ hk => hk.2.2) (.slice Ac cl.length cc)); go_at_call 22; (refine (entry_Bytes.calls k p1 s1 2 0 none 0 [] Ac cc cl o1 0 _ (Kd.C_nil _ _) (Nat.le_refl _) (Kd.R_reads' TB.out).2.2 (Kd.R_reads' TB.out).2.1 HO.out).mono ?_); rintro e w8 ⟨v0, rfl, hv, hb⟩; obtain ⟨Ao, co, rfl⟩ := Kd.V_slice hv; have TM8 := (hb.block (w.heap.size + 1) (blk_lt TM.out)).trans TM.out; have u2 := blk_cell TM8 2; have TE8 := (hb.block w2.heap.size (blk_lt TE.out)).trans TE.out; have y0 := blk_cell TE8 0; have y1 := blk_cell TE8 1; have y2 := blk_cell TE8 2; have y3 := blk_cell TE8 3; have y4 := blk_cell TE8 4; have y5 := blk_cell TE8 5; have TZ8 := (hb.block w.heap.size (blk_lt TZ.out)).trans TZ.out; have v0 := blk_cell TZ8 0; have v1 := blk_cell TZ8 1; have v2 := blk_cell TZ8 2; have v3 := blk_cell TZ8 3; have v4 := blk_cell TZ8 4; have v5 := blk_cell TZ8 5; have g0 := blk_frozen TZ8 0; have g1 := blk_frozen TZ8 1; have g2 := blk_frozen TZ8 2; have g3 := blk_frozen TZ8 3; have g4 := blk_frozen TZ8 4; have g5 := blk_frozen TZ8 5; have HV := Aside0.mk hv; have TZ9 := Aside0.mk TZ8; have TA8 := Aside0.mk (Kd.R_below TA.out hb); have TB8 := Aside0.mk (Kd.R_below TB.out hb); have B8 := Aside0.mk (TBel.out.trans (hb.mono TBel.out.size)); clear hv hb TM8 TE8 TZ8) | (go_at_call 27; (refine (bytes_Equal.calls Ao co o1 A0 c0 l0 false _ (Kd.V_reads' HV.out).2.2 (Kd.V_reads' HV.out).2.1 (Kd.C_below HR.out B8.out) HC.out (show bytes_Equal.f o1 l0 = some false from by unfold bytes_Equal.f; rw [heq])).mono ?_); rintro e w9 ⟨rfl, ⟨nd, rfl⟩⟩))
              have hfin := entry_Parse.put6 (blk_drewN TZ9.out nd) (.int .i64 0) (.int .i64 0) (.int .u8 0) (.int .i64 0) (.slice none 0 0) (.slice none 0 0)
              have t0 := blk_cell hfin 0
              have t1 := blk_cell hfin 1
              have t2 := blk_cell hfin 2
              have t3 := blk_cell hfin 3
              have t4 := blk_cell hfin 4
              have t5 := blk_cell hfin 5
              clear hfin
              refine bodyPost_ret (v := .tuple #[.agg #[.int .i64 0, .int .i64 0, .int .u8 0, .int .i64 0, .slice none 0 0, .slice none 0 0], .int .i64 200]) (by simp [results, Tryd.results17, go_sem, t0, t1, t2, t3, t4, t5]) rfl ⟨_, _, rfl, Kd.R_nil _ _ _ _ _, Kd.R_nil _ _ _ _ _, entry_Parse.putB (pw_below_drewN B8.out nd) (Nat.le_refl _) (.int .i64 0) (.int .i64 0) (.int .u8 0) (.int .i64 0) (.slice none 0 0) (.slice none 0 0)⟩
          · rw [if_neg (fun c => h2 c.2.1)] at hf
            have hn2 : (o2 != 0) = true := by rw [bne_iff_ne]; exact h2
            simp only [Prod.mk.injEq] at hf
            obtain ⟨rfl, rfl, rfl, rfl, rfl, rfl, rfl⟩ := hf
            go_enter Tryd.func17, Tryd.ntmps17
            go_wp2_with (first | ((fail_if_success (have h_ := w1)); go_at_call 36; (refine (entry_reader_number.calls k (w.heap.size + 1) w.heap.size A0 c0 l0 0 false 1 _ _ (by omega) (show ERd _ (w.heap.size + 1) A0 l0.length c0 0 false from ?s0) (Kd.C_alloc (Kd.C_alloc HR.out _) _) HC.out HP.out).mono ?_); (case s0 => have h_ := blk_new (w.alloc (.cells #[.int .i64 0, .int .i64 0, .int .u8 0, .int .i64 0, .slice none 0 0, .slice none 0 0] 45)) (.cells #[.slice A0 l0.length c0, .int .i64 0, .bool false] 71); rw [World.size_alloc] at h_; exact h_); rintro e w1 ⟨rfl, hm, hk, hb⟩; have M1 := Aside0.mk hm; have K1 := Aside0.mk hk; have B1 := Aside0.mk ((below_alloc (below_alloc (Below.refl w.heap.size w) _) _).trans hb); clear hm hk hb) | ((fail_if_success (have h_ := w2)); go_at_call 36; (refine (entry_reader_number.calls k (w.heap.size + 1) w.heap.size A0 c0 l0 p2 p3 6 _ _ (by omega) M1.out (Kd.C_below HR.out B1.out) HC.out HS.out).mono ?_); rintro e w2 ⟨rfl, hm, hk, hb⟩; have M2 := Aside0.mk hm; have K2 := Aside0.mk (K1.out.trans hk (.inl rfl)); have B2 := Aside0.mk (B1.out.trans hb); clear hm hk hb) | ((fail_if_success (have h_ := w3)); go_at_call 36; (refine (entry_reader_number.calls k (w.heap.size + 1) w.heap.size A0 c0 l0 s2 s3 1 _ _ (by omega) (blk_alloc M2.out _) (Kd.C_below HR.out (below_alloc B2.out _)) HC.out HQ.out).mono ?_); rintro e w3 ⟨rfl, hm, hk, hb⟩; have M3 := Aside0.mk hm; have hE := hk.blk (blk_new w2 _) (Nat.ne_of_gt (blk_lt M2.out)) (by simp); have E3 := Aside0.mk hE; have c30 := blk_cell hE 0; have c31 := blk_cell hE 1; have c32 := blk_cell hE 2; have c33 := blk_cell hE 3; have c34 := blk_cell hE 4; have c35 := blk_cell hE 5; have f32 := blk_frozen hE 2; have K3 := Aside0.mk ((keep_alloc K2.out _).trans hk (.inl rfl)); have B3 := Aside0.mk ((below_alloc B2.out _).trans hb); have r31 := blk_cell (blk_far M3.out (p := ⟨w2.heap.size, 2, none⟩) (Nat.ne_of_lt (blk_lt M2.out)) (.int .u8 2)) 1; clear hm hk hb hE) | (go_at_call 37; (refine (octet_GetRow.calls k A0 c0 l0 q2 g1 g2 0 _ (Kd.C_below HR.out (B3.out.setCell (p := ⟨w2.heap.size, 2, none⟩) B2.out.size _)) HC.out HGR.out).mono ?_); rintro e w4 ⟨v0, rfl, ho, hb⟩; obtain ⟨Ar, cr, rfl⟩ := Kd.R_slice ho; have hM := (hb.block (w.heap.size + 1) (by simp; exact Nat.lt_trans (blk_lt M2.out) (blk_lt E3.out))).trans (blk_far M3.out (p := ⟨w2.heap.size, 2, none⟩) (Nat.ne_of_lt (blk_lt M2.out)) _); have r42 := blk_cell hM 2; have s42 := blk_frozen hM 2; have M4 := Aside0.mk hM; have E4 := Aside0.mk ((hb.block w2.heap.size (by simp; exact blk_lt E3.out)).trans (blk_put E3.out 2 (.int .u8 2) rfl)); have Z4 := Aside0.mk ((hb.block w.heap.size (by simp; exact Nat.lt_of_le_of_lt (Nat.le_succ _) (Nat.lt_trans (blk_lt M2.out) (blk_lt E3.out)))).trans (blk_far (HZ.out _ K3.out) (p := ⟨w2.heap.size, 2, none⟩) (by have := blk_lt M2.out; show w.heap.size ≠ w2.heap.size; omega) (.int .u8 2))); have B4 := Aside0.mk ((B3.out.setCell (p := ⟨w2.heap.size, 2, none⟩) B2.out.size _).trans (hb.mono (B3.out.setCell (p := ⟨w2.heap.size, 2, none⟩) B2.out.size _).size)); have RO4 := Aside0.mk (Kd.R_far (p := ⟨w.heap.size + 1, 2, none⟩) (Kd.R_mono (ok' := fun k_ => k_ ≠ w.heap.size + 1) (Kd.R_bound ho) (fun k_ hk => by have h1_ := hk.2.1; have h2_ := blk_lt M2.out; have h3_ := blk_lt E3.out; simp at h1_; omega)) (fun _ hk => hk) (.bool false)); clear ho hb hM c30 c31 c32 c33 c34 c35 f32 r31) | (go_at_call 38; (refine (bytes_Clone.calls Ar cr g1 cl _ (Kd.R_reads' RO4.out).2.2 (Kd.R_reads' RO4.out).2.1 HCL.out).mono ?_); rintro e w5 ⟨v1, rfl, ho, hb⟩; obtain ⟨Ac, cc, rfl⟩ := Kd.R_slice ho; have M5 := Aside0.mk ((hb.block (w.heap.size + 1) (by simp; exact blk_lt M4.out)).trans (blk_put M4.out 2 (.bool false) rfl)); have hE := (hb.block w2.heap.size (by simp; exact blk_lt E4.out)).trans (blk_far E4.out (p := ⟨w.heap.size + 1, 2, none⟩) (Nat.ne_of_gt (blk_lt M2.out)) (.bool false)); have E5 := Aside0.mk hE; have f55 := blk_frozen hE 5; have c50 := blk_cell hE 0; have c51 := blk_cell hE 1; have c52 := blk_cell hE 2; have c53 := blk_cell hE 3; have c54 := blk_cell hE 4; have c55 := blk_cell hE 5; have Z5 := Aside0.mk ((hb.block w.heap.size (by simp; exact blk_lt Z4.out)).trans (blk_far Z4.out (p := ⟨w.heap.size + 1, 2, none⟩) (by show w.heap.size ≠ w.heap.size + 1; omega) (.bool false))); have B5 := Aside0.mk ((B4.out.setCell (p := ⟨w.heap.size + 1, 2, none⟩) (Nat.le_succ _) _).trans (hb.mono (B4.out.setCell (p := ⟨w.heap.size + 1, 2, none⟩) (Nat.le_succ _) _).size)); have RB5 := Aside0.mk (Kd.R_mono (ok' := (fun k_ => k_ ≠ w.heap.size ∧ k_ ≠ w.heap.size + 1 ∧ k_ ≠ w2.heap.size)) (Kd.R_lower (base' := w.heap.size) (Kd.R_bound ho) (by simp; exact B4.out.size)) (fun k_ hk => by have h1_ := hk.2.1; have h2_ := blk_lt M2.out; have h3_ := blk_lt E4.out; simp at h1_; refine ⟨by omega, by omega, by omega⟩)); clear ho hb hE r42 s42) | (have TM := Aside0.mk (show ERd (w5.setCell ⟨w2.heap.size, 5, none⟩ (.slice Ac cl.length cc)) (w.heap.size + 1) A0 l0.length c0 q2 false from blk_far M5.out (p := ⟨w2.heap.size, 5, none⟩) (Nat.ne_of_lt (blk_lt M2.out)) _); have TE := Aside0.mk (blk_put E5.out 5 (.slice Ac cl.length cc) rfl); have TZ := Aside0.mk (blk_far Z5.out (p := ⟨w2.heap.size, 5, none⟩) (by have := blk_lt M2.out; show w.heap.size ≠ w2.heap.size; omega) (.slice Ac cl.length cc)); have TBel := Aside0.mk (B5.out.setCell (p := ⟨w2.heap.size, 5, none⟩) B2.out.size (.slice Ac cl.length cc)); have TA := Aside0.mk (Kd.R_nil k37 37 (w5.setCell ⟨w2.heap.size, 5, none⟩ (.slice Ac cl.length cc)) w.heap.size (fun k_ => k_ ≠ w.heap.size ∧ k_ ≠ w.heap.size + 1 ∧ k_ ≠ w2.heap.size)); have TB := Aside0.mk (Kd.R_far (p := ⟨w2.heap.size, 5, none⟩) RB5.out (fun _ hk => hk.2.2) (.slice Ac cl.length cc)); go_at_call 22; (refine (entry_Bytes.calls k p1 s1 2 0 none 0 [] Ac cc cl o1 o2 _ (Kd.C_nil _ _) (Nat.le_refl _) (Kd.R_reads' TB.out).2.2 (Kd.R_reads' TB.out).2.1 HO.out).mono ?_); rintro e w8 ⟨v0, rfl, hv, hb⟩; obtain ⟨Ao, co, rfl⟩ := Kd.V_slice hv; have TM8 := (hb.block (w.heap.size + 1) (blk_lt TM.out)).trans TM.out; have u2 := blk_cell TM8 2; have TE8 := (hb.block w2.heap.size (blk_lt TE.out)).trans TE.out; have y0 := blk_cell TE8 0; have y1 := blk_cell TE8 1; have y2 := blk_cell TE8 2; have y3 := blk_cell TE8 3; have y4 := blk_cell TE8 4; have y5 := blk_cell TE8 5; have TZ8 := (hb.block w.heap.size (blk_lt TZ.out)).trans TZ.out; have v0 := blk_cell TZ8 0; have v1 := blk_cell TZ8 1; have v2 := blk_cell TZ8 2; have v3 := blk_cell TZ8 3; have v4 := blk_cell TZ8 4; have v5 := blk_cell TZ8 5; have g0 := blk_frozen TZ8 0; have g1 := blk_frozen TZ8 1; have g2 := blk_frozen TZ8 2; have g3 := blk_frozen TZ8 3; have g4 := blk_frozen TZ8 4; have g5 := blk_frozen TZ8 5; have HV := Aside0.mk hv; have TZ9 := Aside0.mk TZ8; have TA8 := Aside0.mk (Kd.R_below TA.out hb); have TB8 := Aside0.mk (Kd.R_below TB.out hb); have B8 := Aside0.mk (TBel.out.trans (hb.mono TBel.out.size)); clear hv hb TM8 TE8 TZ8))
            have hfin := entry_Parse.put6 TZ9.out (.int .i64 0) (.int .i64 0) (.int .u8 0) (.int .i64 0) (.slice none 0 0) (.slice none 0 0)
            have t0 := blk_cell hfin 0
            have t1 := blk_cell hfin 1
            have t2 := blk_cell hfin 2
            have t3 := blk_cell hfin 3
            have t4 := blk_cell hfin 4
            have t5 := blk_cell hfin 5
            clear hfin
            refine bodyPost_ret (v := .tuple #[.agg #[.int .i64 0, .int .i64 0, .int .u8 0, .int .i64 0, .slice none 0 0, .slice none 0 0], .int .i64 200]) (by simp [results, Tryd.results17, go_sem, t0, t1, t2, t3, t4, t5]) rfl ⟨_, _, rfl, Kd.R_nil _ _ _ _ _, Kd.R_nil _ _ _ _ _, entry_Parse.putB B8.out (Nat.le_refl _) (.int .i64 0) (.int .i64 0) (.int .u8 0) (.int .i64 0) (.slice none 0 0) (.slice none 0 0)⟩
        · have hn3 : (g3 != 0) = true := by rw [bne_iff_ne]; exact h3
          dsimp only at HF
          rw [hn3] at HF
          have hf := HF.out
          unfold entry_Parse.fin at hf
          obtain ⟨⟨o1, o2⟩, ho, hf⟩ := Option.bind_eq_some_iff.mp hf
          rw [Option.some.injEq] at hf
          have HO := Aside0.mk ho
          clear ho HF
          rw [if_neg (by simp)] at hf
          simp only [Prod.mk.injEq] at hf
          obtain ⟨rfl, rfl, rfl, rfl, rfl, rfl, rfl⟩ := hf
          go_enter Tryd.func17, Tryd.ntmps17
          go_wp2_with (first | ((fail_if_success (have h_ := w1)); go_at_call 36; (refine (entry_reader_number.calls k (w.heap.size + 1) w.heap.size A0 c0 l0 0 false 1 _ _ (by omega) (show ERd _ (w.heap.size + 1) A0 l0.length c0 0 false from ?s0) (Kd.C_alloc (Kd.C_alloc HR.out _) _) HC.out HP.out).mono ?_); (case s0 => have h_ := blk_new (w.alloc (.cells #[.int .i64 0, .int .i64 0, .int .u8 0, .int .i64 0, .slice none 0 0, .slice none 0 0] 45)) (.cells #[.slice A0 l0.length c0, .int .i64 0, .bool false] 71); rw [World.size_alloc] at h_; exact h_); rintro e w1 ⟨rfl, hm, hk, hb⟩; have M1 := Aside0.mk hm; have K1 := Aside0.mk hk; have B1 := Aside0.mk ((below_alloc (below_alloc (Below.refl w.heap.size w) _) _).trans hb); clear hm hk hb) | ((fail_if_success (have h_ := w2)); go_at_call 36; (refine (entry_reader_number.calls k (w.heap.size + 1) w.heap.size A0 c0 l0 p2 p3 6 _ _ (by omega) M1.out (Kd.C_below HR.out B1.out) HC.out HS.out).mono ?_); rintro e w2 ⟨rfl, hm, hk, hb⟩; have M2 := Aside0.mk hm; have K2 := Aside0.mk (K1.out.trans hk (.inl rfl)); have B2 := Aside0.mk (B1.out.trans hb); clear hm hk hb) | ((fail_if_success (have h_ := w3)); go_at_call 36; (refine (entry_reader_number.calls k (w.heap.size + 1) w.heap.size A0 c0 l0 s2 s3 1 _ _ (by omega) (blk_alloc M2.out _) (Kd.C_below HR.out (below_alloc B2.out _)) HC.out HQ.out).mono ?_); rintro e w3 ⟨rfl, hm, hk, hb⟩; have M3 := Aside0.mk hm; have hE := hk.blk (blk_new w2 _) (Nat.ne_of_gt (blk_lt M2.out)) (by simp); have E3 := Aside0.mk hE; have c30 := blk_cell hE 0; have c31 := blk_cell hE 1; have c32 := blk_cell hE 2; have c33 := blk_cell hE 3; have c34 := blk_cell hE 4; have c35 := blk_cell hE 5; have f32 := blk_frozen hE 2; have K3 := Aside0.mk ((keep_alloc K2.out _).trans hk (.inl rfl)); have B3 := Aside0.mk ((below_alloc B2.out _).trans hb); have r31 := blk_cell (blk_far M3.out (p := ⟨w2.heap.size, 2, none⟩) (Nat.ne_of_lt (blk_lt M2.out)) (.int .u8 2)) 1; clear hm hk hb hE) | (go_at_call 37; (refine (octet_GetRow.calls k A0 c0 l0 q2 g1 g2 g3 _ (Kd.C_below HR.out (B3.out.setCell (p := ⟨w2.heap.size, 2, none⟩) B2.out.size _)) HC.out HGR.out).mono ?_); rintro e w4 ⟨v0, rfl, ho, hb⟩; obtain ⟨Ar, cr, rfl⟩ := Kd.R_slice ho; have hM := (hb.block (w.heap.size + 1) (by simp; exact Nat.lt_trans (blk_lt M2.out) (blk_lt E3.out))).trans (blk_far M3.out (p := ⟨w2.heap.size, 2, none⟩) (Nat.ne_of_lt (blk_lt M2.out)) _); have r42 := blk_cell hM 2; have s42 := blk_frozen hM 2; have M4 := Aside0.mk hM; have E4 := Aside0.mk ((hb.block w2.heap.size (by simp; exact blk_lt E3.out)).trans (blk_put E3.out 2 (.int .u8 2) rfl)); have Z4 := Aside0.mk ((hb.block w.heap.size (by simp; exact Nat.lt_of_le_of_lt (Nat.le_succ _) (Nat.lt_trans (blk_lt M2.out) (blk_lt E3.out)))).trans (blk_far (HZ.out _ K3.out) (p := ⟨w2.heap.size, 2, none⟩) (by have := blk_lt M2.out; show w.heap.size ≠ w2.heap.size; omega) (.int .u8 2))); have B4 := Aside0.mk ((B3.out.setCell (p := ⟨w2.heap.size, 2, none⟩) B2.out.size _).trans (hb.mono (B3.out.setCell (p := ⟨w2.heap.size, 2, none⟩) B2.out.size _).size)); have RO4 := Aside0.mk (Kd.R_far (p := ⟨w.heap.size + 1, 2, none⟩) (Kd.R_mono (ok' := fun k_ => k_ ≠ w.heap.size + 1) (Kd.R_bound ho) (fun k_ hk => by have h1_ := hk.2.1; have h2_ := blk_lt M2.out; have h3_ := blk_lt E3.out; simp at h1_; omega)) (fun _ hk => hk) (.bool true)); clear ho hb hM c30 c31 c32 c33 c34 c35 f32 r31) | (go_at_call 38; (refine (bytes_Clone.calls Ar cr g1 cl _ (Kd.R_reads' RO4.out).2.2 (Kd.R_reads' RO4.out).2.1 HCL.out).mono ?_); rintro e w5 ⟨v1, rfl, ho, hb⟩; obtain ⟨Ac, cc, rfl⟩ := Kd.R_slice ho; have M5 := Aside0.mk ((hb.block (w.heap.size + 1) (by simp; exact blk_lt M4.out)).trans (blk_put M4.out 2 (.bool true) rfl)); have hE := (hb.block w2.heap.size (by simp; exact blk_lt E4.out)).trans (blk_far E4.out (p := ⟨w.heap.size + 1, 2, none⟩) (Nat.ne_of_gt (blk_lt M2.out)) (.bool true)); have E5 := Aside0.mk hE; have f55 := blk_frozen hE 5; have c50 := blk_cell hE 0; have c51 := blk_cell hE 1; have c52 := blk_cell hE 2; have c53 := blk_cell hE 3; have c54 := blk_cell hE 4; have c55 := blk_cell hE 5; have Z5 := Aside0.mk ((hb.block w.heap.size (by simp; exact blk_lt Z4.out)).trans (blk_far Z4.out (p := ⟨w.heap.size + 1, 2, none⟩) (by show w.heap.size ≠ w.heap.size + 1; omega) (.bool true))); have B5 := Aside0.mk ((B4.out.setCell (p := ⟨w.heap.size + 1, 2, none⟩) (Nat.le_succ _) _).trans (hb.mono (B4.out.setCell (p := ⟨w.heap.size + 1, 2, none⟩) (Nat.le_succ _) _).size)); have RB5 := Aside0.mk (Kd.R_mono (ok' := (fun k_ => k_ ≠ w.heap.size ∧ k_ ≠ w.heap.size + 1 ∧ k_ ≠ w2.heap.size)) (Kd.R_lower (base' := w.heap.size) (Kd.R_bound ho) (by simp; exact B4.out.size)) (fun k_ hk => by have h1_ := hk.2.1; have h2_ := blk_lt M2.out; have h3_ := blk_lt E4.out; simp at h1_; refine ⟨by omega, by omega, by omega⟩)); clear ho hb hE r42 s42) | (have TM := Aside0.mk (show ERd (w5.setCell ⟨w2.heap.size, 5, none⟩ (.slice Ac cl.length cc)) (w.heap.size + 1) A0 l0.length c0 q2 true from blk_far M5.out (p := ⟨w2.heap.size, 5, none⟩) (Nat.ne_of_lt (blk_lt M2.out)) _); have TE := Aside0.mk (blk_put E5.out 5 (.slice Ac cl.length cc) rfl); have TZ := Aside0.mk (blk_far Z5.out (p := ⟨w2.heap.size, 5, none⟩) (by have := blk_lt M2.out; show w.heap.size ≠ w2.heap.size; omega) (.slice Ac cl.length cc)); have TBel := Aside0.mk (B5.out.setCell (p := ⟨w2.heap.size, 5, none⟩) B2.out.size (.slice Ac cl.length cc)); have TA := Aside0.mk (Kd.R_nil k37 37 (w5.setCell ⟨w2.heap.size, 5, none⟩ (.slice Ac cl.length cc)) w.heap.size (fun k_ => k_ ≠ w.heap.size ∧ k_ ≠ w.heap.size + 1 ∧ k_ ≠ w2.heap.size)); have TB := Aside0.mk (Kd.R_far (p := ⟨w2.heap.size, 5, none⟩) RB5.out (fun _ hk => hk.2.2) (.slice Ac cl.length cc)); go_at_call 22; (refine (entry_Bytes.calls k p1 s1 2 0 none 0 [] Ac cc cl o1 o2 _ (Kd.C_nil _ _) (Nat.le_refl _) (Kd.R_reads' TB.out).2.2 (Kd.R_reads' TB.out).2.1 HO.out).mono ?_); rintro e w8 ⟨v0, rfl, hv, hb⟩; obtain ⟨Ao, co, rfl⟩ := Kd.V_slice hv; have TM8 := (hb.block (w.heap.size + 1) (blk_lt TM.out)).trans TM.out; have u2 := blk_cell TM8 2; have TE8 := (hb.block w2.heap.size (blk_lt TE.out)).trans TE.out; have y0 := blk_cell TE8 0; have y1 := blk_cell TE8 1; have y2 := blk_cell TE8 2; have y3 := blk_cell TE8 3; have y4 := blk_cell TE8 4; have y5 := blk_cell TE8 5; have TZ8 := (hb.block w.heap.size (blk_lt TZ.out)).trans TZ.out; have v0 := blk_cell TZ8 0; have v1 := blk_cell TZ8 1; have v2 := blk_cell TZ8 2; have v3 := blk_cell TZ8 3; have v4 := blk_cell TZ8 4; have v5 := blk_cell TZ8 5; have g0 := blk_frozen TZ8 0; have g1 := blk_frozen TZ8 1; have g2 := blk_frozen TZ8 2; have g3 := blk_frozen TZ8 3; have g4 := blk_frozen TZ8 4; have g5 := blk_frozen TZ8 5; have HV := Aside0.mk hv; have TZ9 := Aside0.mk TZ8; have TA8 := Aside0.mk (Kd.R_below TA.out hb); have TB8 := Aside0.mk (Kd.R_below TB.out hb); have B8 := Aside0.mk (TBel.out.trans (hb.mono TBel.out.size)); clear hv hb TM8 TE8 TZ8))
          have hfin := entry_Parse.put6 TZ9.out (.int .i64 0) (.int .i64 0) (.int .u8 0) (.int .i64 0) (.slice none 0 0) (.slice none 0 0)
          have t0 := blk_cell hfin 0
          have t1 := blk_cell hfin 1
          have t2 := blk_cell hfin 2
          have t3 := blk_cell hfin 3
          have t4 := blk_cell hfin 4
          have t5 := blk_cell hfin 5
          clear hfin
          refine bodyPost_ret (v := .tuple #[.agg #[.int .i64 0, .int .i64 0, .int .u8 0, .int .i64 0, .slice none 0 0, .slice none 0 0], .int .i64 200]) (by simp [results, Tryd.results17, go_sem, t0, t1, t2, t3, t4, t5]) rfl ⟨_, _, rfl, Kd.R_nil _ _ _ _ _, Kd.R_nil _ _ _ _ _, entry_Parse.putB B8.out (Nat.le_refl _) (.int .i64 0) (.int .i64 0) (.int .u8 0) (.int .i64 0) (.slice none 0 0) (.slice none 0 0)⟩
    · have hh := HH.out
      rw [if_neg k1, if_neg k2] at hh
      have HF := Aside0.mk hh
      clear hh HH
      have e1 : ((q1 % 256) == 1) = false := beq_eq_false_iff_ne.mpr k1
      have e2 : ((q1 % 256) == 2) = false := beq_eq_false_iff_ne.mpr k2
      have hf := HF.out
      unfold entry_Parse.fin at hf
      obtain ⟨⟨o1, o2⟩, ho, hf⟩ := Option.bind_eq_some_iff.mp hf
      rw [Option.some.injEq] at hf
      have HO := Aside0.mk ho
      clear ho HF
      cases hbad : q3 with
      | true =>
        rw [if_neg (by simp [hbad])] at hf
        simp only [Prod.mk.injEq] at hf
        obtain ⟨rfl, rfl, rfl, rfl, rfl, rfl, rfl⟩ := hf
        subst hbad
        go_enter Tryd.func17, Tryd.ntmps17
        go_wp2_with (first | ((fail_if_success (have h_ := w1)); go_at_call 36; (refine (entry_reader_number.calls k (w.heap.size + 1) w.heap.size A0 c0 l0 0 false 1 _ _ (by omega) (show ERd _ (w.heap.size + 1) A0 l0.length c0 0 false from ?s0) (Kd.C_alloc (Kd.C_alloc HR.out _) _) HC.out HP.out).mono ?_); (case s0 => have h_ := blk_new (w.alloc (.cells #[.int .i64 0, .int .i64 0, .int .u8 0, .int .i64 0, .slice none 0 0, .slice none 0 0] 45)) (.cells #[.slice A0 l0.length c0, .int .i64 0, .bool false] 71); rw [World.size_alloc] at h_; exact h_); rintro e w1 ⟨rfl, hm, hk, hb⟩; have M1 := Aside0.mk hm; have K1 := Aside0.mk hk; have B1 := Aside0.mk ((below_alloc (below_alloc (Below.refl w.heap.size w) _) _).trans hb); clear hm hk hb) | ((fail_if_success (have h_ := w2)); go_at_call 36; (refine (entry_reader_number.calls k (w.heap.size + 1) w.heap.size A0 c0 l0 p2 p3 6 _ _ (by omega) M1.out (Kd.C_below HR.out B1.out) HC.out HS.out).mono ?_); rintro e w2 ⟨rfl, hm, hk, hb⟩; have M2 := Aside0.mk hm; have K2 := Aside0.mk (K1.out.trans hk (.inl rfl)); have B2 := Aside0.mk (B1.out.trans hb); clear hm hk hb) | ((fail_if_success (have h_ := w3)); go_at_call 36; (refine (entry_reader_number.calls k (w.heap.size + 1) w.heap.size A0 c0 l0 s2 s3 1 _ _ (by omega) (blk_alloc M2.out _) (Kd.C_below HR.out (below_alloc B2.out _)) HC.out HQ.out).mono ?_); rintro e w3 ⟨rfl, hm, hk, hb⟩; have M3 := Aside0.mk hm; have hE := hk.blk (blk_new w2 _) (Nat.ne_of_gt (blk_lt M2.out)) (by simp); have E3 := Aside0.mk hE; have c30 := blk_cell hE 0; have c31 := blk_cell hE 1; have c32 := blk_cell hE 2; have c33 := blk_cell hE 3; have c34 := blk_cell hE 4; have c35 := blk_cell hE 5; have f32 := blk_frozen hE 2; have K3 := Aside0.mk ((keep_alloc K2.out _).trans hk (.inl rfl)); have B3 := Aside0.mk ((below_alloc B2.out _).trans hb); clear hm hk hb hE) | (have TM := Aside0.mk (show ERd (w3.setCell ⟨w2.heap.size, 2, none⟩ (.int .u8 (q1 % 256))) (w.heap.size + 1) A0 l0.length c0 q2 true from blk_far M3.out (p := ⟨w2.heap.size, 2, none⟩) (Nat.ne_of_lt (blk_lt M2.out)) _); have TE := Aside0.mk (blk_put E3.out 2 (.int .u8 (q1 % 256)) rfl); have TZ := Aside0.mk (blk_far (HZ.out _ K3.out) (p := ⟨w2.heap.size, 2, none⟩) (by have := blk_lt M2.out; show w.heap.size ≠ w2.heap.size; omega) (.int .u8 (q1 % 256))); have TBel := Aside0.mk (B3.out.setCell (p := ⟨w2.heap.size, 2, none⟩) B2.out.size (.int .u8 (q1 % 256))); have TA := Aside0.mk (Kd.R_nil k37 37 (w3.setCell ⟨w2.heap.size, 2, none⟩ (.int .u8 (q1 % 256))) w.heap.size (fun k_ => k_ ≠ w.heap.size ∧ k_ ≠ w.heap.size + 1 ∧ k_ ≠ w2.heap.size)); have TB := Aside0.mk (Kd.R_nil (Kd.int .u8) 5 (w3.setCell ⟨w2.heap.size, 2, none⟩ (.int .u8 (q1 % 256))) w.heap.size (fun k_ => k_ ≠ w.heap.size ∧ k_ ≠ w.heap.size + 1 ∧ k_ ≠ w2.heap.size)); go_at_call 22; (refine (entry_Bytes.calls k p1 s1 (q1 % 256) 0 none 0 [] none 0 [] o1 o2 _ (Kd.C_nil _ _) (Nat.le_refl _) (Kd.C_nil _ _) (Nat.le_refl _) HO.out).mono ?_); rintro e w8 ⟨v0, rfl, hv, hb⟩; obtain ⟨Ao, co, rfl⟩ := Kd.V_slice hv; have TM8 := (hb.block (w.heap.size + 1) (blk_lt TM.out)).trans TM.out; have u2 := blk_cell TM8 2; have TE8 := (hb.block w2.heap.size (blk_lt TE.out)).trans TE.out; have y0 := blk_cell TE8 0; have y1 := blk_cell TE8 1; have y2 := blk_cell TE8 2; have y3 := blk_cell TE8 3; have y4 := blk_cell TE8 4; have y5 := blk_cell TE8 5; have TZ8 := (hb.block w.heap.size (blk_lt TZ.out)).trans TZ.out; have v0 := blk_cell TZ8 0; have v1 := blk_cell TZ8 1; have v2 := blk_cell TZ8 2; have v3 := blk_cell TZ8 3; have v4 := blk_cell TZ8 4; have v5 := blk_cell TZ8 5; have g0 := blk_frozen TZ8 0; have g1 := blk_frozen TZ8 1; have g2 := blk_frozen TZ8 2; have g3 := blk_frozen TZ8 3; have g4 := blk_frozen TZ8 4; have g5 := blk_frozen TZ8 5; have HV := Aside0.mk hv; have TZ9 := Aside0.mk TZ8; have TA8 := Aside0.mk (Kd.R_below TA.out hb); have TB8 := Aside0.mk (Kd.R_below TB.out hb); have B8 := Aside0.mk (TBel.out.trans (hb.mono TBel.out.size)); clear hv hb TM8 TE8 TZ8))
        have hfin := entry_Parse.put6 TZ9.out (.int .i64 0) (.int .i64 0) (.int .u8 0) (.int .i64 0) (.slice none 0 0) (.slice none 0 0)
        have t0 := blk_cell hfin 0
        have t1 := blk_cell hfin 1
        have t2 := blk_cell hfin 2
        have t3 := blk_cell hfin 3
        have t4 := blk_cell hfin 4
        have t5 := blk_cell hfin 5
        clear hfin
        refine bodyPost_ret (v := .tuple #[.agg #[.int .i64 0, .int .i64 0, .int .u8 0, .int .i64 0, .slice none 0 0, .slice none 0 0], .int .i64 200]) (by simp [results, Tryd.results17, go_sem, t0, t1, t2, t3, t4, t5]) rfl ⟨_, _, rfl, Kd.R_nil _ _ _ _ _, Kd.R_nil _ _ _ _ _, entry_Parse.putB B8.out (Nat.le_refl _) (.int .i64 0) (.int .i64 0) (.int .u8 0) (.int .i64 0) (.slice none 0 0) (.slice none 0 0)⟩
      | false =>
        by_cases h2 : o2 = 0
        · subst h2
          cases heq : ((strOfNums o1).toList == (strOfNums l0).toList) with
          | true =>
            rw [if_pos ⟨hbad, rfl, heq⟩] at hf
            simp only [Prod.mk.injEq] at hf
            obtain ⟨rfl, rfl, rfl, rfl, rfl, rfl, rfl⟩ := hf
            subst hbad
            go_enter Tryd.func17, Tryd.ntmps17
            go_wp2_with (first | ((fail_if_success (have h_ := w1)); go_at_call 36; (refine (entry_reader_number.calls k (w.heap.size + 1) w.heap.size A0 c0 l0 0 false 1 _ _ (by omega) (show ERd _ (w.heap.size + 1) A0 l0.length c0 0 false from ?s0) (Kd.C_alloc (Kd.C_alloc HR.out _) _) HC.out HP.out).mono ?_); (case s0 => have h_ := blk_new (w.alloc (.cells #[.int .i64 0, .int .i64 0, .int .u8 0, .int .i64 0, .slice none 0 0, .slice none 0 0] 45)) (.cells #[.slice A0 l0.length c0, .int .i64 0, .bool false] 71); rw [World.size_alloc] at h_; exact h_); rintro e w1 ⟨rfl, hm, hk, hb⟩; have M1 := Aside0.mk hm; have K1 := Aside0.mk hk; have B1 := Aside0.mk ((below_alloc (below_alloc (Below.refl w.heap.size w) _) _).trans hb); clear hm hk hb) | ((fail_if_success (have h_ := w2)); go_at_call 36; (refine (entry_reader_number.calls k (w.heap.size + 1) w.heap.size A0 c0 l0 p2 p3 6 _ _ (by omega) M1.out (Kd.C_below HR.out B1.out) HC.out HS.out).mono ?_); rintro e w2 ⟨rfl, hm, hk, hb⟩; have M2 := Aside0.mk hm; have K2 := Aside0.mk (K1.out.trans hk (.inl rfl)); have B2 := Aside0.mk (B1.out.trans hb); clear hm hk hb) | ((fail_if_success (have h_ := w3)); go_at_call 36; (refine (entry_reader_number.calls k (w.heap.size + 1) w.heap.size A0 c0 l0 s2 s3 1 _ _ (by omega) (blk_alloc M2.out _) (Kd.C_below HR.out (below_alloc B2.out _)) HC.out HQ.out).mono ?_); rintro e w3 ⟨rfl, hm, hk, hb⟩; have M3 := Aside0.mk hm; have hE := hk.blk (blk_new w2 _) (Nat.ne_of_gt (blk_lt M2.out)) (by simp); have E3 := Aside0.mk hE; have c30 := blk_cell hE 0; have c31 := blk_cell hE 1; have c32 := blk_cell hE 2; have c33 := blk_cell hE 3; have c34 := blk_cell hE 4; have c35 := blk_cell hE 5; have f32 := blk_frozen hE 2; have K3 := Aside0.mk ((keep_alloc K2.out _).trans hk (.inl rfl)); have B3 := Aside0.mk ((below_alloc B2.out _).trans hb); clear hm hk hb hE) | (have TM := Aside0.mk (show ERd (w3.setCell ⟨w2.heap.size, 2, none⟩ (.int .u8 (q1 % 256))) (w.heap.size + 1) A0 l0.length c0 q2 false from blk_far M3.out (p := ⟨w2.heap.size, 2, none⟩) (Nat.ne_of_lt (blk_lt M2.out)) _); have TE := Aside0.mk (blk_put E3.out 2 (.int .u8 (q1 % 256)) rfl); have TZ := Aside0.mk (blk_far (HZ.out _ K3.out) (p := ⟨w2.heap.size, 2, none⟩) (by have := blk_lt M2.out; show w.heap.size ≠ w2.heap.size; omega) (.int .u8 (q1 % 256))); have TBel := Aside0.mk (B3.out.setCell (p := ⟨w2.heap.size, 2, none⟩) B2.out.size (.int .u8 (q1 % 256))); have TA := Aside0.mk (Kd.R_nil k37 37 (w3.setCell ⟨w2.heap.size, 2, none⟩ (.int .u8 (q1 % 256))) w.heap.size (fun k_ => k_ ≠ w.heap.size ∧ k_ ≠ w.heap.size + 1 ∧ k_ ≠ w2.heap.size)); have TB := Aside0.mk (Kd.R_nil (Kd.int .u8) 5 (w3.setCell ⟨w2.heap.size, 2, none⟩ (.int .u8 (q1 % 256))) w.heap.size (fun k_ => k_ ≠ w.heap.size ∧ k_ ≠ w.heap.size + 1 ∧ k_ ≠ w2.heap.size)); go_at_call 22; (refine (entry_Bytes.calls k p1 s1 (q1 % 256) 0 none 0 [] none 0 [] o1 0 _ (Kd.C_nil _ _) (Nat.le_refl _) (Kd.C_nil _ _) (Nat.le_refl _) HO.out).mono ?_); rintro e w8 ⟨v0, rfl, hv, hb⟩; obtain ⟨Ao, co, rfl⟩ := Kd.V_slice hv; have TM8 := (hb.block (w.heap.size + 1) (blk_lt TM.out)).trans TM.out; have u2 := blk_cell TM8 2; have TE8 := (hb.block w2.heap.size (blk_lt TE.out)).trans TE.out; have y0 := blk_cell TE8 0; have y1 := blk_cell TE8 1; have y2 := blk_cell TE8 2; have y3 := blk_cell TE8 3; have y4 := blk_cell TE8 4; have y5 := blk_cell TE8 5; have TZ8 := (hb.block w.heap.size (blk_lt TZ.out)).trans TZ.out; have v0 := blk_cell TZ8 0; have v1 := blk_cell TZ8 1; have v2 := blk_cell TZ8 2; have v3 := blk_cell TZ8 3; have v4 := blk_cell TZ8 4; have v5 := blk_cell TZ8 5; have g0 := blk_frozen TZ8 0; have g1 := blk_frozen TZ8 1; have g2 := blk_frozen TZ8 2; have g3 := blk_frozen TZ8 3; have g4 := blk_frozen TZ8 4; have g5 := blk_frozen TZ8 5; have HV := Aside0.mk hv; have TZ9 := Aside0.mk TZ8; have TA8 := Aside0.mk (Kd.R_below TA.out hb); have TB8 := Aside0.mk (Kd.R_below TB.out hb); have B8 := Aside0.mk (TBel.out.trans (hb.mono TBel.out.size)); clear hv hb TM8 TE8 TZ8) | (go_at_call 27; (refine (bytes_Equal.calls Ao co o1 A0 c0 l0 true _ (Kd.V_reads' HV.out).2.2 (Kd.V_reads' HV.out).2.1 (Kd.C_below HR.out B8.out) HC.out (show bytes_Equal.f o1 l0 = some true from by unfold bytes_Equal.f; rw [heq])).mono ?_); rintro e w9 ⟨rfl, ⟨nd, rfl⟩⟩))
            have hfin := entry_Parse.put6 (blk_drewN TZ9.out nd) (.int .i64 p1) (.int .i64 s1) (.int .u8 (q1 % 256)) (.int .i64 0) (.slice none 0 0) (.slice none 0 0)
            have t0 := blk_cell hfin 0
            have t1 := blk_cell hfin 1
            have t2 := blk_cell hfin 2
            have t3 := blk_cell hfin 3
            have t4 := blk_cell hfin 4
            have t5 := blk_cell hfin 5
            clear hfin
            refine bodyPost_ret (v := .tuple #[.agg #[.int .i64 p1, .int .i64 s1, .int .u8 (q1 % 256), .int .i64 0, .slice none 0 0, .slice none 0 0], .int .i64 0]) (by simp [results, Tryd.results17, go_sem, t0, t1, t2, t3, t4, t5]) rfl ⟨_, _, rfl, Kd.R_mono (entry_Parse.putR (Kd.R_drewN TA8.out nd) (fun _ hk => hk.1) (.int .i64 p1) (.int .i64 s1) (.int .u8 (q1 % 256)) (.int .i64 0) (.slice none 0 0) (.slice none 0 0)) (fun _ _ => trivial), Kd.R_mono (entry_Parse.putR (Kd.R_drewN TB8.out nd) (fun _ hk => hk.1) (.int .i64 p1) (.int .i64 s1) (.int .u8 (q1 % 256)) (.int .i64 0) (.slice none 0 0) (.slice none 0 0)) (fun _ _ => trivial), entry_Parse.putB (pw_below_drewN B8.out nd) (Nat.le_refl _) (.int .i64 p1) (.int .i64 s1) (.int .u8 (q1 % 256)) (.int .i64 0) (.slice none 0 0) (.slice none 0 0)⟩
          | false =>
            rw [if_neg (fun c => by rw [heq] at c; exact absurd c.2.2 (by decide))] at hf
            simp only [Prod.mk.injEq] at hf
            obtain ⟨rfl, rfl, rfl, rfl, rfl, rfl, rfl⟩ := hf
            subst hbad
            go_enter Tryd.func17, Tryd.ntmps17
            go_wp2_with (first | ((fail_if_success (have h_ := w1)); go_at_call 36; (refine (entry_reader_number.calls k (w.heap.size + 1) w.heap.size A0 c0 l0 0 false 1 _ _ (by omega) (show ERd _ (w.heap.size + 1) A0 l0.length c0 0 false from ?s0) (Kd.C_alloc (Kd.C_alloc HR.out _) _) HC.out HP.out).mono ?_); (case s0 => have h_ := blk_new (w.alloc (.cells #[.int .i64 0, .int .i64 0, .int .u8 0, .int .i64 0, .slice none 0 0, .slice none 0 0] 45)) (.cells #[.slice A0 l0.length c0, .int .i64 0, .bool false] 71); rw [World.size_alloc] at h_; exact h_); rintro e w1 ⟨rfl, hm, hk, hb⟩; have M1 := Aside0.mk hm; have K1 := Aside0.mk hk; have B1 := Aside0.mk ((below_alloc (below_alloc (Below.refl w.heap.size w) _) _).trans hb); clear hm hk hb) | ((fail_if_success (have h_ := w2)); go_at_call 36; (refine (entry_reader_number.calls k (w.heap.size + 1) w.heap.size A0 c0 l0 p2 p3 6 _ _ (by omega) M1.out (Kd.C_below HR.out B1.out) HC.out HS.out).mono ?_); rintro e w2 ⟨rfl, hm, hk, hb⟩; have M2 := Aside0.mk hm; have K2 := Aside0.mk (K1.out.trans hk (.inl rfl)); have B2 := Aside0.mk (B1.out.trans hb); clear hm hk hb) | ((fail_if_success (have h_ := w3)); go_at_call 36; (refine (entry_reader_number.calls k (w.heap.size + 1) w.heap.size A0 c0 l0 s2 s3 1 _ _ (by omega) (blk_alloc M2.out _) (Kd.C_below HR.out (below_alloc B2.out _)) HC.out HQ.out).mono ?_); rintro e w3 ⟨rfl, hm, hk, hb⟩; have M3 := Aside0.mk hm; have hE := hk.blk (blk_new w2 _) (Nat.ne_of_gt (blk_lt M2.out)) (by simp); have E3 := Aside0.mk hE; have c30 := blk_cell hE 0; have c31 := blk_cell hE 1; have c32 := blk_cell hE 2; have c33 := blk_cell hE 3; have c34 := blk_cell hE 4; have c35 := blk_cell hE 5; have f32 := blk_frozen hE 2; have K3 := Aside0.mk ((keep_alloc K2.out _).trans hk (.inl rfl)); have B3 := Aside0.mk ((below_alloc B2.out _).trans hb); clear hm hk hb hE) | (have TM := Aside0.mk (show ERd (w3.setCell ⟨w2.heap.size, 2, none⟩ (.int .u8 (q1 % 256))) (w.heap.size + 1) A0 l0.length c0 q2 false from blk_far M3.out (p := ⟨w2.heap.size, 2, none⟩) (Nat.ne_of_lt (blk_lt M2.out)) _); have TE := Aside0.mk (blk_put E3.out 2 (.int .u8 (q1 % 256)) rfl); have TZ := Aside0.mk (blk_far (HZ.out _ K3.out) (p := ⟨w2.heap.size, 2, none⟩) (by have := blk_lt M2.out; show w.heap.size ≠ w2.heap.size; omega) (.int .u8 (q1 % 256))); have TBel := Aside0.mk (B3.out.setCell (p := ⟨w2.heap.size, 2, none⟩) B2.out.size (.int .u8 (q1 % 256))); have TA := Aside0.mk (Kd.R_nil k37 37 (w3.setCell ⟨w2.heap.size, 2, none⟩ (.int .u8 (q1 % 256))) w.heap.size (fun k_ => k_ ≠ w.heap.size ∧ k_ ≠ w.heap.size + 1 ∧ k_ ≠ w2.heap.size)); have TB := Aside0.mk (Kd.R_nil (Kd.int .u8) 5 (w3.setCell ⟨w2.heap.size, 2, none⟩ (.int .u8 (q1 % 256))) w.heap.size (fun k_ => k_ ≠ w.heap.size ∧ k_ ≠ w.heap.size + 1 ∧ k_ ≠ w2.heap.size)); go_at_call 22; (refine (entry_Bytes.calls k p1 s1 (q1 % 256) 0 none 0 [] none 0 [] o1 0 _ (Kd.C_nil _ _) (Nat.le_refl _) (Kd.C_nil _ _) (Nat.le_refl _) HO.out).mono ?_); rintro e w8 ⟨v0, rfl, hv, hb⟩; obtain ⟨Ao, co, rfl⟩ := Kd.V_slice hv; have TM8 := (hb.block (w.heap.size + 1) (blk_lt TM.out)).trans TM.out; have u2 := blk_cell TM8 2; have TE8 := (hb.block w2.heap.size (blk_lt TE.out)).trans TE.out; have y0 := blk_cell TE8 0; have y1 := blk_cell TE8 1; have y2 := blk_cell TE8 2; have y3 := blk_cell TE8 3; have y4 := blk_cell TE8 4; have y5 := blk_cell TE8 5; have TZ8 := (hb.block w.heap.size (blk_lt TZ.out)).trans TZ.out; have v0 := blk_cell TZ8 0; have v1 := blk_cell TZ8 1; have v2 := blk_cell TZ8 2; have v3 := blk_cell TZ8 3; have v4 := blk_cell TZ8 4; have v5 := blk_cell TZ8 5; have g0 := blk_frozen TZ8 0; have g1 := blk_frozen TZ8 1; have g2 := blk_frozen TZ8 2; have g3 := blk_frozen TZ8 3; have g4 := blk_frozen TZ8 4; have g5 := blk_frozen TZ8 5; have HV := Aside0.mk hv; have TZ9 := Aside0.mk TZ8; have TA8 := Aside0.mk (Kd.R_below TA.out hb); have TB8 := Aside0.mk (Kd.R_below TB.out hb); have B8 := Aside0.mk (TBel.out.trans (hb.mono TBel.out.size)); clear hv hb TM8 TE8 TZ8) | (go_at_call 27; (refine (bytes_Equal.calls Ao co o1 A0 c0 l0 false _ (Kd.V_reads' HV.out).2.2 (Kd.V_reads' HV.out).2.1 (Kd.C_below HR.out B8.out) HC.out (show bytes_Equal.f o1 l0 = some false from by unfold bytes_Equal.f; rw [heq])).mono ?_); rintro e w9 ⟨rfl, ⟨nd, rfl⟩⟩))
            have hfin := entry_Parse.put6 (blk_drewN TZ9.out nd) (.int .i64 0) (.int .i64 0) (.int .u8 0) (.int .i64 0) (.slice none 0 0) (.slice none 0 0)
            have t0 := blk_cell hfin 0
            have t1 := blk_cell hfin 1
            have t2 := blk_cell hfin 2
            have t3 := blk_cell hfin 3
            have t4 := blk_cell hfin 4
            have t5 := blk_cell hfin 5
            clear hfin
            refine bodyPost_ret (v := .tuple #[.agg #[.int .i64 0, .int .i64 0, .int .u8 0, .int .i64 0, .slice none 0 0, .slice none 0 0], .int .i64 200]) (by simp [results, Tryd.results17, go_sem, t0, t1, t2, t3, t4, t5]) rfl ⟨_, _, rfl, Kd.R_nil _ _ _ _ _, Kd.R_nil _ _ _ _ _, entry_Parse.putB (pw_below_drewN B8.out nd) (Nat.le_refl _) (.int .i64 0) (.int .i64 0) (.int .u8 0) (.int .i64 0) (.slice none 0 0) (.slice none 0 0)⟩
        · rw [if_neg (fun c => h2 c.2.1)] at hf
          have hn2 : (o2 != 0) = true := by rw [bne_iff_ne]; exact h2
          simp only [Prod.mk.injEq] at hf
          obtain ⟨rfl, rfl, rfl, rfl, rfl, rfl, rfl⟩ := hf
          subst hbad
          go_enter Tryd.func17, Tryd.ntmps17
          go_wp2_with (first | ((fail_if_success (have h_ := w1)); go_at_call 36; (refine (entry_reader_number.calls k (w.heap.size + 1) w.heap.size A0 c0 l0 0 false 1 _ _ (by omega) (show ERd _ (w.heap.size + 1) A0 l0.length c0 0 false from ?s0) (Kd.C_alloc (Kd.C_alloc HR.out _) _) HC.out HP.out).mono ?_); (case s0 => have h_ := blk_new (w.alloc (.cells #[.int .i64 0, .int .i64 0, .int .u8 0, .int .i64 0, .slice none 0 0, .slice none 0 0] 45)) (.cells #[.slice A0 l0.length c0, .int .i64 0, .bool false] 71); rw [World.size_alloc] at h_; exact h_); rintro e w1 ⟨rfl, hm, hk, hb⟩; have M1 := Aside0.mk hm; have K1 := Aside0.mk hk; have B1 := Aside0.mk ((below_alloc (below_alloc (Below.refl w.heap.size w) _) _).trans hb); clear hm hk hb) | ((fail_if_success (have h_ := w2)); go_at_call 36; (refine (entry_reader_number.calls k (w.heap.size + 1) w.heap.size A0 c0 l0 p2 p3 6 _ _ (by omega) M1.out (Kd.C_below HR.out B1.out) HC.out HS.out).mono ?_); rintro e w2 ⟨rfl, hm, hk, hb⟩; have M2 := Aside0.mk hm; have K2 := Aside0.mk (K1.out.trans hk (.inl rfl)); have B2 := Aside0.mk (B1.out.trans hb); clear hm hk hb) | ((fail_if_success (have h_ := w3)); go_at_call 36; (refine (entry_reader_number.calls k (w.heap.size + 1) w.heap.size A0 c0 l0 s2 s3 1 _ _ (by omega) (blk_alloc M2.out _) (Kd.C_below HR.out (below_alloc B2.out _)) HC.out HQ.out).mono ?_); rintro e w3 ⟨rfl, hm, hk, hb⟩; have M3 := Aside0.mk hm; have hE := hk.blk (blk_new w2 _) (Nat.ne_of_gt (blk_lt M2.out)) (by simp); have E3 := Aside0.mk hE; have c30 := blk_cell hE 0; have c31 := blk_cell hE 1; have c32 := blk_cell hE 2; have c33 := blk_cell hE 3; have c34 := blk_cell hE 4; have c35 := blk_cell hE 5; have f32 := blk_frozen hE 2; have K3 := Aside0.mk ((keep_alloc K2.out _).trans hk (.inl rfl)); have B3 := Aside0.mk ((below_alloc B2.out _).trans hb); clear hm hk hb hE) | (have TM := Aside0.mk (show ERd (w3.setCell ⟨w2.heap.size, 2, none⟩ (.int .u8 (q1 % 256))) (w.heap.size + 1) A0 l0.length c0 q2 false from blk_far M3.out (p := ⟨w2.heap.size, 2, none⟩) (Nat.ne_of_lt (blk_lt M2.out)) _); have TE := Aside0.mk (blk_put E3.out 2 (.int .u8 (q1 % 256)) rfl); have TZ := Aside0.mk (blk_far (HZ.out _ K3.out) (p := ⟨w2.heap.size, 2, none⟩) (by have := blk_lt M2.out; show w.heap.size ≠ w2.heap.size; omega) (.int .u8 (q1 % 256))); have TBel := Aside0.mk (B3.out.setCell (p := ⟨w2.heap.size, 2, none⟩) B2.out.size (.int .u8 (q1 % 256))); have TA := Aside0.mk (Kd.R_nil k37 37 (w3.setCell ⟨w2.heap.size, 2, none⟩ (.int .u8 (q1 % 256))) w.heap.size (fun k_ => k_ ≠ w.heap.size ∧ k_ ≠ w.heap.size + 1 ∧ k_ ≠ w2.heap.size)); have TB := Aside0.mk (Kd.R_nil (Kd.int .u8) 5 (w3.setCell ⟨w2.heap.size, 2, none⟩ (.int .u8 (q1 % 256))) w.heap.size (fun k_ => k_ ≠ w.heap.size ∧ k_ ≠ w.heap.size + 1 ∧ k_ ≠ w2.heap.size)); go_at_call 22; (refine (entry_Bytes.calls k p1 s1 (q1 % 256) 0 none 0 [] none 0 [] o1 o2 _ (Kd.C_nil _ _) (Nat.le_refl _) (Kd.C_nil _ _) (Nat.le_refl _) HO.out).mono ?_); rintro e w8 ⟨v0, rfl, hv, hb⟩; obtain ⟨Ao, co, rfl⟩ := Kd.V_slice hv; have TM8 := (hb.block (w.heap.size + 1) (blk_lt TM.out)).trans TM.out; have u2 := blk_cell TM8 2; have TE8 := (hb.block w2.heap.size (blk_lt TE.out)).trans TE.out; have y0 := blk_cell TE8 0; have y1 := blk_cell TE8 1; have y2 := blk_cell TE8 2; have y3 := blk_cell TE8 3; have y4 := blk_cell TE8 4; have y5 := blk_cell TE8 5; have TZ8 := (hb.block w.heap.size (blk_lt TZ.out)).trans TZ.out; have v0 := blk_cell TZ8 0; have v1 := blk_cell TZ8 1; have v2 := blk_cell TZ8 2; have v3 := blk_cell TZ8 3; have v4 := blk_cell TZ8 4; have v5 := blk_cell TZ8 5; have g0 := blk_frozen TZ8 0; have g1 := blk_frozen TZ8 1; have g2 := blk_frozen TZ8 2; have g3 := blk_frozen TZ8 3; have g4 := blk_frozen TZ8 4; have g5 := blk_frozen TZ8 5; have HV := Aside0.mk hv; have TZ9 := Aside0.mk TZ8; have TA8 := Aside0.mk (Kd.R_below TA.out hb); have TB8 := Aside0.mk (Kd.R_below TB.out hb); have B8 := Aside0.mk (TBel.out.trans (hb.mono TBel.out.size)); clear hv hb TM8 TE8 TZ8))
          have hfin := entry_Parse.put6 TZ9.out (.int .i64 0) (.int .i64 0) (.int .u8 0) (.int .i64 0) (.slice none 0 0) (.slice none 0 0)
          have t0 := blk_cell hfin 0
          have t1 := blk_cell hfin 1
          have t2 := blk_cell hfin 2
          have t3 := blk_cell hfin 3
          have t4 := blk_cell hfin 4
          have t5 := blk_cell hfin 5
          clear hfin
          refine bodyPost_ret (v := .tuple #[.agg #[.int .i64 0, .int .i64 0, .int .u8 0, .int .i64 0, .slice none 0 0, .slice none 0 0], .int .i64 200]) (by simp [results, Tryd.results17, go_sem, t0, t1, t2, t3, t4, t5]) rfl ⟨_, _, rfl, Kd.R_nil _ _ _ _ _, Kd.R_nil _ _ _ _ _, entry_Parse.putB B8.out (Nat.le_refl _) (.int .i64 0) (.int .i64 0) (.int .u8 0) (.int .i64 0) (.slice none 0 0) (.slice none 0 0)⟩

/-! ### capstanref18_number: function 50 -/
def capstanref18_number.l0 : Nat → List Int → Int → Int → Option (Int)
 | 0, _, _, _ => none
 | k + 1, x0, x3, x4 => if x4 ≥ 0 then (if 0 ≤ x4 then (if x4 < (x0.length : Int) then (capstanref18_number.l0 k x0 (IntKind.u64.wrap ((IntKind.u64.wrap (256 * x3)) + (IntKind.u64.wrap (rd x0 x4)))) (wrap64 (x4 - 1))) else (none)) else (none)) else (some x3)
def capstanref18_number.f (k : Nat) (l0 : List Int) : Option (Int) := capstanref18_number.l0 k l0 0 (wrap64 ((l0.length : Int) - 1))
theorem capstanref18_number.mono_l : ∀ k, (∀ y0 y1 y2, LeO (capstanref18_number.l0 k y0 y1 y2) (capstanref18_number.l0 (k + 1) y0 y1 y2))
 | 0 => fun _ _ _ r h => by simp [capstanref18_number.l0] at h
 | k + 1 => by
  have ih0 := capstanref18_number.mono_l k
  ·
   intro y0 y1 y2
   unfold capstanref18_number.l0
   repeat' first
   | (with_reducible exact ih0 _ _ _)
   | (with_reducible exact LeO.refl _)
   | (with_reducible exact LeO.none _)
   | (with_reducible refine LeO.ite ?_ ?_)
   | (with_reducible refine LeO.bind ?_ (fun _ => ?_))
   | exact ih0 _ _ _
   | exact LeO.none _
   | refine LeO.ite ?_ ?_
   | refine LeO.bind ?_ (fun _ => ?_)
theorem capstanref18_number.mono : ∀ a0 k, LeO (capstanref18_number.f k a0) (capstanref18_number.f (k + 1) a0) := by
 intro a0 k
 have ih0 := capstanref18_number.mono_l k
 unfold capstanref18_number.f
 repeat' first
   | (with_reducible exact ih0 _ _ _)
   | (with_reducible exact LeO.refl _)
   | (with_reducible exact LeO.none _)
   | (with_reducible refine LeO.ite ?_ ?_)
   | (with_reducible refine LeO.bind ?_ (fun _ => ?_))
   | exact ih0 _ _ _
   | exact LeO.none _
   | refine LeO.ite ?_ ?_
   | refine LeO.bind ?_ (fun _ => ?_)
set_option maxHeartbeats 8000000 in
set_option maxRecDepth 100000 in
theorem capstanref18_number.calls (k : Nat) (A0 : Option Addr) (c0 : Nat) (l0 : List Int) (r : Int) (w : World) (hr0 : Kd.C (Kd.int .u8) w A0 l0.length l0) (hc0 : l0.length ≤ c0) (h : capstanref18_number.f k l0 = some r) :
  Calls Tryd.prog 50 #[.slice A0 l0.length c0] w fun e w' => e = .returned (.int .u64 r) ∧ Drawn0 w w' := by
 have HR0 := Aside0.mk hr0
 have HC0 := Aside0.mk hc0
 clear hr0 hc0
 have H : (capstanref18_number.l0 k l0 0 (wrap64 ((l0.length : Int) - 1))) = some r := h
 clear h
 have H' := Aside0.mk H
 clear H
 go_enter Tryd.func50, Tryd.ntmps50
 go_wp2
 go_loopg [3, 4] k (fun kq v3 v4 w' => ∃ (x3_1 : Int) (x4_1 : Int), v3 = .int .u64 x3_1 ∧ v4 = .int .i64 x4_1 ∧ Aside0 (capstanref18_number.l0 kq l0 x3_1 x4_1 = some r) ∧ Aside0 (kq ≤ k) ∧ Drawn0 w w')
 case atStart => exact ⟨(0), (wrap64 ((l0.length : Int) - 1)), (by first | rfl | (simp; done) | (simp [*]; done)), (by first | rfl | (simp; done) | (simp [*]; done)), H', ⟨Nat.le_refl _⟩, by repeat (first | exact Drawn0.refl _ | apply Drawn0.step)⟩
 case round =>
  clear H'
  obtain ⟨x3_1, x4_1, rfl, rfl, HA, HK1, ⟨m1, rfl⟩⟩ := hrel
  cases gk with
  | zero => exact absurd HA.out (by simp [capstanref18_number.l0])
  | succ k1 =>
   have H := HA.out
   clear HA
   simp only [capstanref18_number.l0] at H
   by_cases c2 : x4_1 ≥ 0
   ·
    rw [if_pos c2] at H
    have c2b0 : decide (0 ≤ x4_1) = true := decide_eq_true c2
    clear c2
    by_cases c3 : 0 ≤ x4_1
    ·
     rw [if_pos c3] at H
     have c3b0 : decide (0 ≤ x4_1) = true := decide_eq_true c3
     clear c3
     by_cases c4 : x4_1 < (l0.length : Int)
     ·
      rw [if_pos c4] at H
      have c4b0 : decide (x4_1 < (l0.length : Int)) = true := decide_eq_true c4
      clear c4
      have H' := Aside0.mk H
      clear H
      have p179 : 0 ≤ (x4_1 : Int) := of_decide_eq_true (by first | (with_reducible assumption) | assumption)
      have q179 : x4_1 < (l0.length : Int) := of_decide_eq_true (by first | (with_reducible assumption) | assumption)
      obtain ⟨ad179, e179, hx179_0⟩ := Kd.at_int HR0.out x4_1 p179 q179
      cases e179
      replace p179 := eq_true p179
      replace q179 := eq_true q179
      go_wp2
      go_roundg k1
      case measure => have := HK1.out; omega
      case rel => exact ⟨(IntKind.u64.wrap ((IntKind.u64.wrap (256 * x3_1)) + (IntKind.u64.wrap (rd l0 x4_1)))), (wrap64 (x4_1 - 1)), (by first | rfl | (simp; done) | (simp [*]; done)), (by first | rfl | (simp; done) | (simp [*]; done)), H', ⟨by have := HK1.out; omega⟩, by repeat (first | exact Drawn0.refl _ | apply Drawn0.step)⟩
     ·
      rw [if_neg c4] at H
      exact absurd H (by simp)
    ·
     rw [if_neg c3] at H
     exact absurd H (by simp)
   ·
    rw [if_neg c2] at H
    have c2b0 : decide (0 ≤ x4_1) = false := decide_eq_false c2
    clear c2
    obtain rfl := Option.some.inj H
    go_wp2
    go_ret
    exact ⟨by first | rfl | (simp; done) | (simp [*]; done), by repeat (first | exact Drawn0.refl _ | apply Drawn0.step)⟩

/-! ### capstanref17_Part: function 63 -/
def capstanref17_Part.f (a0 : Int) : Option (Bool) := if a0 ≥ (-1048576) then (some (decide (a0 ≤ 1048576))) else (some false)
set_option maxHeartbeats 8000000 in
set_option maxRecDepth 100000 in
theorem capstanref17_Part.calls (a0 : Int) (r : Bool) (w : World) (h : capstanref17_Part.f a0 = some r) :
  Calls Tryd.prog 63 #[.int .i64 a0] w fun e w' => e = .returned (.bool r) ∧ Drawn0 w w' := by
 have H : (if a0 ≥ (-1048576) then (some (decide (a0 ≤ 1048576))) else (some false)) = some r := h
 clear h
 by_cases c2 : a0 ≥ (-1048576)
 ·
  rw [if_pos c2] at H
  have c2b0 : decide ((-1048576) ≤ a0) = true := decide_eq_true c2
  clear c2
  obtain rfl := Option.some.inj H
  go_enter Tryd.func63, Tryd.ntmps63
  go_wp2
  go_ret
  exact ⟨by first | rfl | (simp; done) | (simp [*]; done), by repeat (first | exact Drawn0.refl _ | apply Drawn0.step)⟩
 ·
  rw [if_neg c2] at H
  have c2b0 : decide ((-1048576) ≤ a0) = false := decide_eq_false c2
  clear c2
  obtain rfl := Option.some.inj H
  go_enter Tryd.func63, Tryd.ntmps63
  go_wp2
  go_ret
  exact ⟨by first | rfl | (simp; done) | (simp [*]; done), by repeat (first | exact Drawn0.refl _ | apply Drawn0.step)⟩

/-! ### capstanref17_Outside: function 51 -/
def capstanref17_Outside.f (a0_0 : Int) (a0_1 : Int) (a0_2 : Int) : Option (Bool) := if a0_0 = 1 then (if a0_2 = 0 then (some true) else (if a0_0 = 2 then ((capstanref17_Part.f a0_1).bind fun t181 => (if t181 = true then ((capstanref17_Part.f a0_2).bind fun t182 => (some t182)) else (some false))) else (some false))) else (if a0_0 = 2 then ((capstanref17_Part.f a0_1).bind fun t183 => (if t183 = true then ((capstanref17_Part.f a0_2).bind fun t184 => (some t184)) else (some false))) else (some false))
set_option maxHeartbeats 8000000 in
set_option maxRecDepth 100000 in
theorem capstanref17_Outside.calls (a0_0 : Int) (a0_1 : Int) (a0_2 : Int) (r : Bool) (w : World) (h : capstanref17_Outside.f a0_0 a0_1 a0_2 = some r) :
  Calls Tryd.prog 51 #[.agg #[.int .u8 a0_0, .int .i64 a0_1, .int .i64 a0_2]] w fun e w' => e = .returned (.bool r) ∧ Below w.heap.size w w' := by
 have hu37 := Tryd.underlying37
 have HB := Aside0.mk (Below.refl w.heap.size w)
 have H : (if a0_0 = 1 then (if a0_2 = 0 then (some true) else (if a0_0 = 2 then ((capstanref17_Part.f a0_1).bind fun t181 => (if t181 = true then ((capstanref17_Part.f a0_2).bind fun t182 => (some t182)) else (some false))) else (some false))) else (if a0_0 = 2 then ((capstanref17_Part.f a0_1).bind fun t183 => (if t183 = true then ((capstanref17_Part.f a0_2).bind fun t184 => (some t184)) else (some false))) else (some false))) = some r := h
 clear h
 by_cases c2 : a0_0 = 1
 ·
  rw [if_pos c2] at H
  have c2b0 : (a0_0 == 1) = true := beq_iff_eq.mpr c2
  have c2b1 : (a0_0 != 1) = false := bne_eq_false_iff_eq.mpr c2
  clear c2
  by_cases c3 : a0_2 = 0
  ·
   rw [if_pos c3] at H
   have c3b0 : (a0_2 == 0) = true := beq_iff_eq.mpr c3
   have c3b1 : (a0_2 != 0) = false := bne_eq_false_iff_eq.mpr c3
   clear c3
   obtain rfl := Option.some.inj H
   go_enter Tryd.func51, Tryd.ntmps51
   go_wp2_with (first | ((with_reducible refine gate_dst (N := 1) rfl ?_); refine box_event ?hg (N := 1) ?hd (cs := #[.int .u8 a0_0, .int .i64 a0_1, .int .i64 a0_2]) (t := 37) ?hr ?_; (case hd => rfl); (case hg => rfl); (case hr => first | (go_simp; done) | (go_simp; rfl)); intro gb180 hg w4 hbox hb; have n0_ := Aside0.mk (below_step (by repeat (first | (with_reducible first | exact HB.out | apply below_alloc | apply pw_below_drewN | apply below_drew1) | exact HB.out | exact ⟨HB.out.os, HB.out.tape, HB.out.output, HB.out.size, HB.out.block⟩)) hb); have n1_ := Aside0.mk (hbox); have n2_ := Aside0.mk ((by rw [hg]; exact (below_size (by repeat (first | (with_reducible first | exact HB.out | apply below_alloc | apply pw_below_drewN | apply below_drew1) | exact HB.out | exact ⟨HB.out.os, HB.out.tape, HB.out.output, HB.out.size, HB.out.block⟩))) : w.heap.size ≤ gb180)); have n3_ := Aside0.mk ((by rw [hg]; exact (below_size (by repeat (first | (with_reducible first | exact HB.out | apply below_alloc | apply pw_below_drewN | apply below_drew1) | exact HB.out | exact ⟨HB.out.os, HB.out.tape, HB.out.output, HB.out.size, HB.out.block⟩))) : w.heap.size ≤ gb180)); clear HB; have HB := n0_; have BK180 := n1_; have GW180 := n2_; have GE180 := n3_; clear n0_ n1_ n2_ n3_; clear hb hbox hg; have hcz5_0 : w4.cell? ⟨gb180, 0, none⟩ = some (.int .u8 a0_0) := (blk_cell BK180.out 0).trans rfl; have hcz5_1 : w4.cell? ⟨gb180, 1, none⟩ = some (.int .i64 a0_1) := (blk_cell BK180.out 1).trans rfl; have hcz5_2 : w4.cell? ⟨gb180, 2, none⟩ = some (.int .i64 a0_2) := (blk_cell BK180.out 2).trans rfl; have hfz5_0 := blk_frozen BK180.out 0; have hfz5_1 := blk_frozen BK180.out 1; have hfz5_2 := blk_frozen BK180.out 2))
   go_ret
   exact ⟨by first | rfl | (simp [errW_none, errW_some] <;> rfl) | (simp [*, errW_none, errW_some] <;> rfl), by repeat (first | (with_reducible first | exact HB.out | apply below_alloc | apply pw_below_drewN | apply below_drew1 | refine below_set ?_ GE180.out) | exact HB.out | exact ⟨HB.out.os, HB.out.tape, HB.out.output, HB.out.size, HB.out.block⟩)⟩
  ·
   rw [if_neg c3] at H
   have c3b0 : (a0_2 == 0) = false := beq_eq_false_iff_ne.mpr c3
   have c3b1 : (a0_2 != 0) = true := bne_iff_ne.mpr c3
   by_cases c6 : a0_0 = 2
   ·
    rw [if_pos c6] at H
    have c6b0 : (a0_0 == 2) = true := beq_iff_eq.mpr c6
    have c6b1 : (a0_0 != 2) = false := bne_eq_false_iff_eq.mpr c6
    clear c6
    replace H := Option.bind_eq_some_iff.mp H
    obtain ⟨t181, A70, H⟩ := H
    replace H : (if t181 = true then ((capstanref17_Part.f a0_2).bind fun t182 => (some t182)) else (some false)) = some r := H
    have A7 := Aside0.mk A70
    clear A70
    by_cases c8 : t181 = true
    ·
     subst c8
     have H1 : ((capstanref17_Part.f a0_2).bind fun t182 => (some t182)) = some r := by rw [if_pos rfl] at H; exact H
     clear H
     have H := H1
     clear H1
     replace H := Option.bind_eq_some_iff.mp H
     obtain ⟨t182, A90, H⟩ := H
     replace H : (some t182) = some r := H
     have A9 := Aside0.mk A90
     clear A90
     obtain rfl := Option.some.inj H
     go_enter Tryd.func51, Tryd.ntmps51
     go_wp2_with (first | ((with_reducible refine gate_dst (N := 1) rfl ?_); refine box_event ?hg (N := 1) ?hd (cs := #[.int .u8 a0_0, .int .i64 a0_1, .int .i64 a0_2]) (t := 37) ?hr ?_; (case hd => rfl); (case hg => rfl); (case hr => first | (go_simp; done) | (go_simp; rfl)); intro gb180 hg w10 hbox hb; have n0_ := Aside0.mk (below_step (by repeat (first | (with_reducible first | exact HB.out | apply below_alloc | apply pw_below_drewN | apply below_drew1) | exact HB.out | exact ⟨HB.out.os, HB.out.tape, HB.out.output, HB.out.size, HB.out.block⟩)) hb); have n1_ := Aside0.mk (hbox); have n2_ := Aside0.mk ((by rw [hg]; exact (below_size (by repeat (first | (with_reducible first | exact HB.out | apply below_alloc | apply pw_below_drewN | apply below_drew1) | exact HB.out | exact ⟨HB.out.os, HB.out.tape, HB.out.output, HB.out.size, HB.out.block⟩))) : w.heap.size ≤ gb180)); have n3_ := Aside0.mk ((by rw [hg]; exact (below_size (by repeat (first | (with_reducible first | exact HB.out | apply below_alloc | apply pw_below_drewN | apply below_drew1) | exact HB.out | exact ⟨HB.out.os, HB.out.tape, HB.out.output, HB.out.size, HB.out.block⟩))) : w.heap.size ≤ gb180)); clear HB; have HB := n0_; have BK180 := n1_; have GW180 := n2_; have GE180 := n3_; clear n0_ n1_ n2_ n3_; clear hb hbox hg; have hcz11_0 : w10.cell? ⟨gb180, 0, none⟩ = some (.int .u8 a0_0) := (blk_cell BK180.out 0).trans rfl; have hcz11_1 : w10.cell? ⟨gb180, 1, none⟩ = some (.int .i64 a0_1) := (blk_cell BK180.out 1).trans rfl; have hcz11_2 : w10.cell? ⟨gb180, 2, none⟩ = some (.int .i64 a0_2) := (blk_cell BK180.out 2).trans rfl; have hfz11_0 := blk_frozen BK180.out 0; have hfz11_1 := blk_frozen BK180.out 1; have hfz11_2 := blk_frozen BK180.out 2) | (go_at_call 63; (with_reducible refine (capstanref17_Part.calls a0_1 true _ A7.out).mono ?_); rintro e w' ⟨rfl, ⟨nd, rfl⟩⟩) | (go_at_call 63; (with_reducible refine (capstanref17_Part.calls a0_2 t182 _ A9.out).mono ?_); rintro e w' ⟨rfl, ⟨nd, rfl⟩⟩))
     go_ret
     exact ⟨by first | rfl | (simp [errW_none, errW_some] <;> rfl) | (simp [*, errW_none, errW_some] <;> rfl), by repeat (first | (with_reducible first | exact HB.out | apply below_alloc | apply pw_below_drewN | apply below_drew1 | refine below_set ?_ GE180.out) | exact HB.out | exact ⟨HB.out.os, HB.out.tape, HB.out.output, HB.out.size, HB.out.block⟩)⟩
    ·
     replace c8 := Bool.eq_false_iff.mpr c8
     subst c8
     have H1 : (some false) = some r := by rw [if_neg (show ¬ (false = true) by decide)] at H; exact H
     clear H
     have H := H1
     clear H1
     obtain rfl := Option.some.inj H
     go_enter Tryd.func51, Tryd.ntmps51
     go_wp2_with (first | ((with_reducible refine gate_dst (N := 1) rfl ?_); refine box_event ?hg (N := 1) ?hd (cs := #[.int .u8 a0_0, .int .i64 a0_1, .int .i64 a0_2]) (t := 37) ?hr ?_; (case hd => rfl); (case hg => rfl); (case hr => first | (go_simp; done) | (go_simp; rfl)); intro gb180 hg w12 hbox hb; have n0_ := Aside0.mk (below_step (by repeat (first | (with_reducible first | exact HB.out | apply below_alloc | apply pw_below_drewN | apply below_drew1) | exact HB.out | exact ⟨HB.out.os, HB.out.tape, HB.out.output, HB.out.size, HB.out.block⟩)) hb); have n1_ := Aside0.mk (hbox); have n2_ := Aside0.mk ((by rw [hg]; exact (below_size (by repeat (first | (with_reducible first | exact HB.out | apply below_alloc | apply pw_below_drewN | apply below_drew1) | exact HB.out | exact ⟨HB.out.os, HB.out.tape, HB.out.output, HB.out.size, HB.out.block⟩))) : w.heap.size ≤ gb180)); have n3_ := Aside0.mk ((by rw [hg]; exact (below_size (by repeat (first | (with_reducible first | exact HB.out | apply below_alloc | apply pw_below_drewN | apply below_drew1) | exact HB.out | exact ⟨HB.out.os, HB.out.tape, HB.out.output, HB.out.size, HB.out.block⟩))) : w.heap.size ≤ gb180)); clear HB; have HB := n0_; have BK180 := n1_; have GW180 := n2_; have GE180 := n3_; clear n0_ n1_ n2_ n3_; clear hb hbox hg; have hcz13_0 : w12.cell? ⟨gb180, 0, none⟩ = some (.int .u8 a0_0) := (blk_cell BK180.out 0).trans rfl; have hcz13_1 : w12.cell? ⟨gb180, 1, none⟩ = some (.int .i64 a0_1) := (blk_cell BK180.out 1).trans rfl; have hcz13_2 : w12.cell? ⟨gb180, 2, none⟩ = some (.int .i64 a0_2) := (blk_cell BK180.out 2).trans rfl; have hfz13_0 := blk_frozen BK180.out 0; have hfz13_1 := blk_frozen BK180.out 1; have hfz13_2 := blk_frozen BK180.out 2) | (go_at_call 63; (with_reducible refine (capstanref17_Part.calls a0_1 false _ A7.out).mono ?_); rintro e w' ⟨rfl, ⟨nd, rfl⟩⟩))
     go_ret
     exact ⟨by first | rfl | (simp [errW_none, errW_some] <;> rfl) | (simp [*, errW_none, errW_some] <;> rfl), by repeat (first | (with_reducible first | exact HB.out | apply below_alloc | apply pw_below_drewN | apply below_drew1 | refine below_set ?_ GE180.out) | exact HB.out | exact ⟨HB.out.os, HB.out.tape, HB.out.output, HB.out.size, HB.out.block⟩)⟩
   ·
    rw [if_neg c6] at H
    have c6b0 : (a0_0 == 2) = false := beq_eq_false_iff_ne.mpr c6
    have c6b1 : (a0_0 != 2) = true := bne_iff_ne.mpr c6
    obtain rfl := Option.some.inj H
    go_enter Tryd.func51, Tryd.ntmps51
    go_wp2_with (first | ((with_reducible refine gate_dst (N := 1) rfl ?_); refine box_event ?hg (N := 1) ?hd (cs := #[.int .u8 a0_0, .int .i64 a0_1, .int .i64 a0_2]) (t := 37) ?hr ?_; (case hd => rfl); (case hg => rfl); (case hr => first | (go_simp; done) | (go_simp; rfl)); intro gb180 hg w14 hbox hb; have n0_ := Aside0.mk (below_step (by repeat (first | (with_reducible first | exact HB.out | apply below_alloc | apply pw_below_drewN | apply below_drew1) | exact HB.out | exact ⟨HB.out.os, HB.out.tape, HB.out.output, HB.out.size, HB.out.block⟩)) hb); have n1_ := Aside0.mk (hbox); have n2_ := Aside0.mk ((by rw [hg]; exact (below_size (by repeat (first | (with_reducible first | exact HB.out | apply below_alloc | apply pw_below_drewN | apply below_drew1) | exact HB.out | exact ⟨HB.out.os, HB.out.tape, HB.out.output, HB.out.size, HB.out.block⟩))) : w.heap.size ≤ gb180)); have n3_ := Aside0.mk ((by rw [hg]; exact (below_size (by repeat (first | (with_reducible first | exact HB.out | apply below_alloc | apply pw_below_drewN | apply below_drew1) | exact HB.out | exact ⟨HB.out.os, HB.out.tape, HB.out.output, HB.out.size, HB.out.block⟩))) : w.heap.size ≤ gb180)); clear HB; have HB := n0_; have BK180 := n1_; have GW180 := n2_; have GE180 := n3_; clear n0_ n1_ n2_ n3_; clear hb hbox hg; have hcz15_0 : w14.cell? ⟨gb180, 0, none⟩ = some (.int .u8 a0_0) := (blk_cell BK180.out 0).trans rfl; have hcz15_1 : w14.cell? ⟨gb180, 1, none⟩ = some (.int .i64 a0_1) := (blk_cell BK180.out 1).trans rfl; have hcz15_2 : w14.cell? ⟨gb180, 2, none⟩ = some (.int .i64 a0_2) := (blk_cell BK180.out 2).trans rfl; have hfz15_0 := blk_frozen BK180.out 0; have hfz15_1 := blk_frozen BK180.out 1; have hfz15_2 := blk_frozen BK180.out 2))
    go_ret
    exact ⟨by first | rfl | (simp [errW_none, errW_some] <;> rfl) | (simp [*, errW_none, errW_some] <;> rfl), by repeat (first | (with_reducible first | exact HB.out | apply below_alloc | apply pw_below_drewN | apply below_drew1 | refine below_set ?_ GE180.out) | exact HB.out | exact ⟨HB.out.os, HB.out.tape, HB.out.output, HB.out.size, HB.out.block⟩)⟩
 ·
  rw [if_neg c2] at H
  have c2b0 : (a0_0 == 1) = false := beq_eq_false_iff_ne.mpr c2
  have c2b1 : (a0_0 != 1) = true := bne_iff_ne.mpr c2
  by_cases c16 : a0_0 = 2
  ·
   rw [if_pos c16] at H
   have c16b0 : (a0_0 == 2) = true := beq_iff_eq.mpr c16
   have c16b1 : (a0_0 != 2) = false := bne_eq_false_iff_eq.mpr c16
   clear c16
   replace H := Option.bind_eq_some_iff.mp H
   obtain ⟨t183, A170, H⟩ := H
   replace H : (if t183 = true then ((capstanref17_Part.f a0_2).bind fun t184 => (some t184)) else (some false)) = some r := H
   have A17 := Aside0.mk A170
   clear A170
   by_cases c18 : t183 = true
   ·
    subst c18
    have H1 : ((capstanref17_Part.f a0_2).bind fun t184 => (some t184)) = some r := by rw [if_pos rfl] at H; exact H
    clear H
    have H := H1
    clear H1
    replace H := Option.bind_eq_some_iff.mp H
    obtain ⟨t184, A190, H⟩ := H
    replace H : (some t184) = some r := H
    have A19 := Aside0.mk A190
    clear A190
    obtain rfl := Option.some.inj H
    go_enter Tryd.func51, Tryd.ntmps51
    go_wp2_with (first | ((with_reducible refine gate_dst (N := 1) rfl ?_); refine box_event ?hg (N := 1) ?hd (cs := #[.int .u8 a0_0, .int .i64 a0_1, .int .i64 a0_2]) (t := 37) ?hr ?_; (case hd => rfl); (case hg => rfl); (case hr => first | (go_simp; done) | (go_simp; rfl)); intro gb180 hg w20 hbox hb; have n0_ := Aside0.mk (below_step (by repeat (first | (with_reducible first | exact HB.out | apply below_alloc | apply pw_below_drewN | apply below_drew1) | exact HB.out | exact ⟨HB.out.os, HB.out.tape, HB.out.output, HB.out.size, HB.out.block⟩)) hb); have n1_ := Aside0.mk (hbox); have n2_ := Aside0.mk ((by rw [hg]; exact (below_size (by repeat (first | (with_reducible first | exact HB.out | apply below_alloc | apply pw_below_drewN | apply below_drew1) | exact HB.out | exact ⟨HB.out.os, HB.out.tape, HB.out.output, HB.out.size, HB.out.block⟩))) : w.heap.size ≤ gb180)); have n3_ := Aside0.mk ((by rw [hg]; exact (below_size (by repeat (first | (with_reducible first | exact HB.out | apply below_alloc | apply pw_below_drewN | apply below_drew1) | exact HB.out | exact ⟨HB.out.os, HB.out.tape, HB.out.output, HB.out.size, HB.out.block⟩))) : w.heap.size ≤ gb180)); clear HB; have HB := n0_; have BK180 := n1_; have GW180 := n2_; have GE180 := n3_; clear n0_ n1_ n2_ n3_; clear hb hbox hg; have hcz21_0 : w20.cell? ⟨gb180, 0, none⟩ = some (.int .u8 a0_0) := (blk_cell BK180.out 0).trans rfl; have hcz21_1 : w20.cell? ⟨gb180, 1, none⟩ = some (.int .i64 a0_1) := (blk_cell BK180.out 1).trans rfl; have hcz21_2 : w20.cell? ⟨gb180, 2, none⟩ = some (.int .i64 a0_2) := (blk_cell BK180.out 2).trans rfl; have hfz21_0 := blk_frozen BK180.out 0; have hfz21_1 := blk_frozen BK180.out 1; have hfz21_2 := blk_frozen BK180.out 2) | (go_at_call 63; (with_reducible refine (capstanref17_Part.calls a0_1 true _ A17.out).mono ?_); rintro e w' ⟨rfl, ⟨nd, rfl⟩⟩) | (go_at_call 63; (with_reducible refine (capstanref17_Part.calls a0_2 t184 _ A19.out).mono ?_); rintro e w' ⟨rfl, ⟨nd, rfl⟩⟩))
    go_ret
    exact ⟨by first | rfl | (simp [errW_none, errW_some] <;> rfl) | (simp [*, errW_none, errW_some] <;> rfl), by repeat (first | (with_reducible first | exact HB.out | apply below_alloc | apply pw_below_drewN | apply below_drew1 | refine below_set ?_ GE180.out) | exact HB.out | exact ⟨HB.out.os, HB.out.tape, HB.out.output, HB.out.size, HB.out.block⟩)⟩
   ·
    replace c18 := Bool.eq_false_iff.mpr c18
    subst c18
    have H1 : (some false) = some r := by rw [if_neg (show ¬ (false = true) by decide)] at H; exact H
    clear H
    have H := H1
    clear H1
    obtain rfl := Option.some.inj H
    go_enter Tryd.func51, Tryd.ntmps51
    go_wp2_with (first | ((with_reducible refine gate_dst (N := 1) rfl ?_); refine box_event ?hg (N := 1) ?hd (cs := #[.int .u8 a0_0, .int .i64 a0_1, .int .i64 a0_2]) (t := 37) ?hr ?_; (case hd => rfl); (case hg => rfl); (case hr => first | (go_simp; done) | (go_simp; rfl)); intro gb180 hg w22 hbox hb; have n0_ := Aside0.mk (below_step (by repeat (first | (with_reducible first | exact HB.out | apply below_alloc | apply pw_below_drewN | apply below_drew1) | exact HB.out | exact ⟨HB.out.os, HB.out.tape, HB.out.output, HB.out.size, HB.out.block⟩)) hb); have n1_ := Aside0.mk (hbox); have n2_ := Aside0.mk ((by rw [hg]; exact (below_size (by repeat (first | (with_reducible first | exact HB.out | apply below_alloc | apply pw_below_drewN | apply below_drew1) | exact HB.out | exact ⟨HB.out.os, HB.out.tape, HB.out.output, HB.out.size, HB.out.block⟩))) : w.heap.size ≤ gb180)); have n3_ := Aside0.mk ((by rw [hg]; exact (below_size (by repeat (first | (with_reducible first | exact HB.out | apply below_alloc | apply pw_below_drewN | apply below_drew1) | exact HB.out | exact ⟨HB.out.os, HB.out.tape, HB.out.output, HB.out.size, HB.out.block⟩))) : w.heap.size ≤ gb180)); clear HB; have HB := n0_; have BK180 := n1_; have GW180 := n2_; have GE180 := n3_; clear n0_ n1_ n2_ n3_; clear hb hbox hg; have hcz23_0 : w22.cell? ⟨gb180, 0, none⟩ = some (.int .u8 a0_0) := (blk_cell BK180.out 0).trans rfl; have hcz23_1 : w22.cell? ⟨gb180, 1, none⟩ = some (.int .i64 a0_1) := (blk_cell BK180.out 1).trans rfl; have hcz23_2 : w22.cell? ⟨gb180, 2, none⟩ = some (.int .i64 a0_2) := (blk_cell BK180.out 2).trans rfl; have hfz23_0 := blk_frozen BK180.out 0; have hfz23_1 := blk_frozen BK180.out 1; have hfz23_2 := blk_frozen BK180.out 2) | (go_at_call 63; (with_reducible refine (capstanref17_Part.calls a0_1 false _ A17.out).mono ?_); rintro e w' ⟨rfl, ⟨nd, rfl⟩⟩))
    go_ret
    exact ⟨by first | rfl | (simp [errW_none, errW_some] <;> rfl) | (simp [*, errW_none, errW_some] <;> rfl), by repeat (first | (with_reducible first | exact HB.out | apply below_alloc | apply pw_below_drewN | apply below_drew1 | refine below_set ?_ GE180.out) | exact HB.out | exact ⟨HB.out.os, HB.out.tape, HB.out.output, HB.out.size, HB.out.block⟩)⟩
  ·
   rw [if_neg c16] at H
   have c16b0 : (a0_0 == 2) = false := beq_eq_false_iff_ne.mpr c16
   have c16b1 : (a0_0 != 2) = true := bne_iff_ne.mpr c16
   obtain rfl := Option.some.inj H
   go_enter Tryd.func51, Tryd.ntmps51
   go_wp2_with (first | ((with_reducible refine gate_dst (N := 1) rfl ?_); refine box_event ?hg (N := 1) ?hd (cs := #[.int .u8 a0_0, .int .i64 a0_1, .int .i64 a0_2]) (t := 37) ?hr ?_; (case hd => rfl); (case hg => rfl); (case hr => first | (go_simp; done) | (go_simp; rfl)); intro gb180 hg w24 hbox hb; have n0_ := Aside0.mk (below_step (by repeat (first | (with_reducible first | exact HB.out | apply below_alloc | apply pw_below_drewN | apply below_drew1) | exact HB.out | exact ⟨HB.out.os, HB.out.tape, HB.out.output, HB.out.size, HB.out.block⟩)) hb); have n1_ := Aside0.mk (hbox); have n2_ := Aside0.mk ((by rw [hg]; exact (below_size (by repeat (first | (with_reducible first | exact HB.out | apply below_alloc | apply pw_below_drewN | apply below_drew1) | exact HB.out | exact ⟨HB.out.os, HB.out.tape, HB.out.output, HB.out.size, HB.out.block⟩))) : w.heap.size ≤ gb180)); have n3_ := Aside0.mk ((by rw [hg]; exact (below_size (by repeat (first | (with_reducible first | exact HB.out | apply below_alloc | apply pw_below_drewN | apply below_drew1) | exact HB.out | exact ⟨HB.out.os, HB.out.tape, HB.out.output, HB.out.size, HB.out.block⟩))) : w.heap.size ≤ gb180)); clear HB; have HB := n0_; have BK180 := n1_; have GW180 := n2_; have GE180 := n3_; clear n0_ n1_ n2_ n3_; clear hb hbox hg; have hcz25_0 : w24.cell? ⟨gb180, 0, none⟩ = some (.int .u8 a0_0) := (blk_cell BK180.out 0).trans rfl; have hcz25_1 : w24.cell? ⟨gb180, 1, none⟩ = some (.int .i64 a0_1) := (blk_cell BK180.out 1).trans rfl; have hcz25_2 : w24.cell? ⟨gb180, 2, none⟩ = some (.int .i64 a0_2) := (blk_cell BK180.out 2).trans rfl; have hfz25_0 := blk_frozen BK180.out 0; have hfz25_1 := blk_frozen BK180.out 1; have hfz25_2 := blk_frozen BK180.out 2))
   go_ret
   exact ⟨by first | rfl | (simp [errW_none, errW_some] <;> rfl) | (simp [*, errW_none, errW_some] <;> rfl), by repeat (first | (with_reducible first | exact HB.out | apply below_alloc | apply pw_below_drewN | apply below_drew1 | refine below_set ?_ GE180.out) | exact HB.out | exact ⟨HB.out.os, HB.out.tape, HB.out.output, HB.out.size, HB.out.block⟩)⟩

end Go.Proofs.YtjidhcepdjdceaaDoor.E
