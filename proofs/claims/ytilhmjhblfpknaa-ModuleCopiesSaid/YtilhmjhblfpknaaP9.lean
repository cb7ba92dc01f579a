/- Contracts of the functions of this seat (each: the call of the function does what the plain Lean function of the same name tells; the conditions stand in each statement). Written by a program of this session and by hand; checked by Lean. -/
import Derived.Test.YtilhmjhblfpknaaP0
import Derived.Test.YtilhmjhblfpknaaP3
import Derived.Test.YtilhmjhblfpknaaP4
import Derived.Test.YtilhmjhblfpknaaP5
import Derived.Test.YtilhmjhblfpknaaP7
import Derived.Test.YtilhmjhblfpknaaP8
namespace Go.Proofs.Ytilhmjhblfpknaa.P
open Go.RowKit Go.Proofs.YtilhmjhblfpknaaW.PrintWords Go.Proofs.YtilhmjhblfpknaaW.PrintLast Go.Proofs.YtilhmjhblfpknaaW.PrintMore
attribute [local go_sem] max2_int min2_int max_two min_two max_three min_three max_four min_four   -- for this text's walks alone
set_option linter.unusedVariables false
set_option linter.unusedSimpArgs false

/-! ### capstanlaw08_ModuleCopies: function 3 -/
section copies
/-- A module of one's own: where its blocks lie. -/
structure MV (W : World) (lo hi : Nat) (v0 v1 v2 : Value) (l0 l1 : List S38) (l2 : List S34) : Prop where
  r0 : Kd.R k38 38 W lo (fun k => lo ≤ k ∧ k < hi) v0 l0
  r1 : Kd.R k38 38 W lo (fun k => lo ≤ k ∧ k < hi) v1 l1
  r2 : Kd.R k34 34 W lo (fun k => lo ≤ k ∧ k < hi) v2 l2
theorem MV.told {W : World} {lo : Nat} {v0 v1 v2 : Value} {l0 l1 : List S38} {l2 : List S34} {ok0 ok1 ok2 : Nat → Prop} (h0 : Kd.R k38 38 W lo ok0 v0 l0) (h1 : Kd.R k38 38 W lo ok1 v1 l1) (h2 : Kd.S k34 34 W lo ok2 v2 l2) : MV W lo W.heap.size v0 v1 v2 l0 l1 l2 :=
  ⟨Kd.R_mono (Kd.R_bound h0) fun k hk => ⟨hk.2.1, hk.2.2.1⟩, Kd.R_mono (Kd.R_bound h1) fun k hk => ⟨hk.2.1, hk.2.2.1⟩, Kd.R_mono (Kd.R_bound (Kd.S_R h2)) fun k hk => ⟨hk.2.1, hk.2.2.1⟩⟩
theorem MV.step {W W1 : World} {lo hi : Nat} {v0 v1 v2 : Value} {l0 l1 : List S38} {l2 : List S34} (h : MV W lo hi v0 v1 v2 l0 l1 l2) (hs : ∀ k, lo ≤ k → k < hi → k < W.heap.size → W1.heap[k]? = W.heap[k]?) : MV W1 lo hi v0 v1 v2 l0 l1 l2 :=
  ⟨Kd.R_step h.r0 fun k hk hl => hs k hk.1 hk.2 hl, Kd.R_step h.r1 fun k hk hl => hs k hk.1 hk.2 hl, Kd.R_step h.r2 fun k hk hl => hs k hk.1 hk.2 hl⟩
theorem MV.below {W W1 : World} {lo hi : Nat} {v0 v1 v2 : Value} {l0 l1 : List S38} {l2 : List S34} (h : MV W lo hi v0 v1 v2 l0 l1 l2) (hb : Below W.heap.size W W1) : MV W1 lo hi v0 v1 v2 l0 l1 l2 := h.step fun k _ _ hl => hb.block k hl
theorem MV.set {W : World} {lo hi : Nat} {v0 v1 v2 : Value} {l0 l1 : List S38} {l2 : List S34} (h : MV W lo hi v0 v1 v2 l0 l1 l2) (g i : Nat) (u : Value) (hg : ¬ (lo ≤ g ∧ g < hi)) : MV (W.setCell ⟨g, i, none⟩ u) lo hi v0 v1 v2 l0 l1 l2 := h.step fun k h1 h2 _ => Below.heap_setCell W ⟨g, i, none⟩ u k (fun e => hg (by have e' : k = g := e; omega))
theorem MV.kept {W W1 : World} {lo hi a b : Nat} {v0 v1 v2 : Value} {l0 l1 : List S38} {l2 : List S34} (h : MV W lo hi v0 v1 v2 l0 l1 l2) (hk : Kept W W1 fun k => (a ≤ k ∧ k < b) ∨ (a ≤ k ∧ k < b) ∨ (a ≤ k ∧ k < b)) (hd : hi ≤ a ∨ b ≤ lo) : MV W1 lo hi v0 v1 v2 l0 l1 l2 := h.step fun k h1 h2 hl => hk.2 k hl (by omega)
theorem blk_kept' {W W1 : World} {a b g : Nat} {o : Obj} (h : W.heap[g]? = some o) (hk : Kept W W1 fun k => (a ≤ k ∧ k < b) ∨ (a ≤ k ∧ k < b) ∨ (a ≤ k ∧ k < b)) (hd : g < a ∨ b ≤ g) : W1.heap[g]? = some o := (hk.2 g (blk_lt h) (by omega)).trans h
end copies
section copieslaw
set_option maxRecDepth 100000
/-- Behind the two copies. -/
structure JJ (w W : World) (lm hm gm gn : Nat) (n0 n1 n2 : Value) (bm0 : Array Value) (l0 l1 : List S38) (l2 : List S34) (a3 : Int) (a0 a1 a2 b0 b1 b2 : Value) (la ha lb hb g4 g5 : Nat) : Prop where
  hb0 : Below w.heap.size w W
  bm : W.heap[gm]? = some (.cells bm0 25 (0, 0))
  bn : W.heap[gn]? = some (.cells #[n0, n1, n2, .int .i64 a3] 25 (0, 0))
  mm : MV W lm hm n0 n1 n2 l0 l1 l2
  ma : MV W la ha a0 a1 a2 l0 l1 l2
  mb : MV W lb hb b0 b1 b2 l0 l1 l2
  x4 : W.heap[g4]? = some (.cells #[.slice none 0 0, .slice none 0 0, .slice none 0 0, .int .i64 0] 25 (0, 0))
  x5 : W.heap[g5]? = some (.cells #[.slice none 0 0, .slice none 0 0, .slice none 0 0, .int .i64 0] 25 (0, 0))
  o1 : gn < la
  o2 : ha ≤ lb ∧ la ≤ ha ∧ lb ≤ hb
  o3 : g4 < la ∨ ha ≤ g4
  o4 : g4 < lb ∨ hb ≤ g4
  o5 : g5 < la ∨ ha ≤ g5
  o6 : g5 < lb ∨ hb ≤ g5
  o7 : gn < g4 ∧ gn < g5
  n45 : g4 ≠ g5
set_option maxHeartbeats 8000000 in
theorem capstanlaw08_ModuleCopies.great (k : Nat) (A0_0 : Option Addr) (c0_0 : Nat) (l0_0 : List (S38)) (A0_1 : Option Addr) (c0_1 : Nat) (l0_1 : List (S38)) (A0_2 : Option Addr) (c0_2 : Nat) (l0_2 : List (S34)) (a0_3 : Int) (w : World) (hr0_0 : Kd.C k38 w A0_0 l0_0.length l0_0) (hc0_0 : l0_0.length ≤ c0_0) (hr0_1 : Kd.C k38 w A0_1 l0_1.length l0_1) (hc0_1 : l0_1.length ≤ c0_1) (hr0_2 : Kd.C k34 w A0_2 l0_2.length l0_2) (hc0_2 : l0_2.length ≤ c0_2) (hgt : capstanlaw08_Great.f k l0_0 l0_1 l0_2 a0_3 = some true) :
    Calls Try.prog 3 #[.agg #[.slice A0_0 l0_0.length c0_0, .slice A0_1 l0_1.length c0_1, .slice A0_2 l0_2.length c0_2, .int .i64 a0_3]] w fun e w' => e = .returned (.bool true) ∧ Below w.heap.size w w' := by
  have HR0 := Aside0.mk hr0_0
  have HR1 := Aside0.mk hr0_1
  have HR2 := Aside0.mk hr0_2
  have HC0 := Aside0.mk hc0_0
  have HC1 := Aside0.mk hc0_1
  have HC2 := Aside0.mk hc0_2
  have HGT := Aside0.mk hgt
  clear hr0_0 hr0_1 hr0_2 hc0_0 hc0_1 hc0_2 hgt
  go_enter Try.func3, Try.ntmps3
  go_wp2_with (first | ((with_reducible refine gate_dst (N := 1) rfl ?_); refine box_event ?hg (N := 1) ?hd (cs := #[.slice A0_0 l0_0.length c0_0, .slice A0_1 l0_1.length c0_1, .slice A0_2 l0_2.length c0_2, .int .i64 a0_3]) (t := 25) ?hr ?_; (case hd => rfl); (case hg => rfl); (case hr => first | (go_simp; done) | (go_simp; rfl)); intro gm hg_ w1 hbox hb_; have HGM := Aside0.mk hg_; have HB1 := Aside0.mk hb_; have BM1 := Aside0.mk hbox; clear hg_ hb_ hbox; have hm1_0 : w1.cell? ⟨gm, 0, none⟩ = some (.slice A0_0 l0_0.length c0_0) := (blk_cell BM1.out 0).trans rfl; have hm1_1 : w1.cell? ⟨gm, 1, none⟩ = some (.slice A0_1 l0_1.length c0_1) := (blk_cell BM1.out 1).trans rfl; have hm1_2 : w1.cell? ⟨gm, 2, none⟩ = some (.slice A0_2 l0_2.length c0_2) := (blk_cell BM1.out 2).trans rfl; have hm1_3 : w1.cell? ⟨gm, 3, none⟩ = some (.int .i64 a0_3) := (blk_cell BM1.out 3).trans rfl) | (go_at_call 4; (refine (capstanlaw08_Great.calls k A0_0 c0_0 l0_0 A0_1 c0_1 l0_1 A0_2 c0_2 l0_2 a0_3 true _ (Kd.C_below HR0.out HB1.out) HC0.out (Kd.C_below HR1.out HB1.out) HC1.out (Kd.C_below HR2.out HB1.out) HC2.out HGT.out).mono ?_); rintro e w2 ⟨rfl, hb_⟩; have HB2 := Aside0.mk (HB1.out.trans (hb_.mono HB1.out.size)); have BM2 := Aside0.mk (blk_below BM1.out hb_); have SZ2 := Aside0.mk hb_.size; clear hb_; clear hm1_0 hm1_1 hm1_2 hm1_3; have hm2_0 : w2.cell? ⟨gm, 0, none⟩ = some (.slice A0_0 l0_0.length c0_0) := (blk_cell BM2.out 0).trans rfl; have hm2_1 : w2.cell? ⟨gm, 1, none⟩ = some (.slice A0_1 l0_1.length c0_1) := (blk_cell BM2.out 1).trans rfl; have hm2_2 : w2.cell? ⟨gm, 2, none⟩ = some (.slice A0_2 l0_2.length c0_2) := (blk_cell BM2.out 2).trans rfl; have hm2_3 : w2.cell? ⟨gm, 3, none⟩ = some (.int .i64 a0_3) := (blk_cell BM2.out 3).trans rfl))
  go_ret
  exact ⟨rfl, HB2.out⟩
set_option maxHeartbeats 8000000 in
theorem capstanlaw08_ModuleCopies.small (k : Nat) (A0_0 : Option Addr) (c0_0 : Nat) (l0_0 : List (S38)) (A0_1 : Option Addr) (c0_1 : Nat) (l0_1 : List (S38)) (A0_2 : Option Addr) (c0_2 : Nat) (l0_2 : List (S34)) (a0_3 : Int) (w : World) (hr0_0 : Kd.C k38 w A0_0 l0_0.length l0_0) (hc0_0 : l0_0.length ≤ c0_0) (hr0_1 : Kd.C k38 w A0_1 l0_1.length l0_1) (hc0_1 : l0_1.length ≤ c0_1) (hr0_2 : Kd.C k34 w A0_2 l0_2.length l0_2) (hc0_2 : l0_2.length ≤ c0_2) (hgt : capstanlaw08_Great.f k l0_0 l0_1 l0_2 a0_3 = some false) (hcp : capstanref08_Copy.f k l0_0 l0_1 l0_2 a0_3 = some (l0_0, l0_1, l0_2, a0_3)) (hsm : capstanref08_Same.f k l0_0 l0_1 l0_2 a0_3 l0_0 l0_1 l0_2 a0_3 = some true) (hl0 : l0_0.length ≤ 10000) (hl1 : l0_1.length ≤ 10000) (hl2 : l0_2.length ≤ 10000) (hgd : mcGood l0_2 = true) :
    Calls Try.prog 3 #[.agg #[.slice A0_0 l0_0.length c0_0, .slice A0_1 l0_1.length c0_1, .slice A0_2 l0_2.length c0_2, .int .i64 a0_3]] w fun e w' => e = .returned (.bool true) ∧ Below w.heap.size w w' := by
  have HR0 := Aside0.mk hr0_0
  have HR1 := Aside0.mk hr0_1
  have HR2 := Aside0.mk hr0_2
  have HC0 := Aside0.mk hc0_0
  have HC1 := Aside0.mk hc0_1
  have HC2 := Aside0.mk hc0_2
  have HGT := Aside0.mk hgt
  clear hr0_0 hr0_1 hr0_2 hc0_0 hc0_1 hc0_2 hgt
  have HCP := Aside0.mk hcp
  have HSM := Aside0.mk hsm
  have HL0 := Aside0.mk hl0
  have HL1 := Aside0.mk hl1
  have HL2 := Aside0.mk hl2
  have HGD := Aside0.mk hgd
  have HMC : Aside0 (module_Copy.f l0_0 l0_1 l0_2 a0_3 = some (l0_0, l0_1, l0_2, a0_3)) := ⟨by unfold module_Copy.f; rw [if_pos ⟨hl0, hl1, hl2, hgd⟩]⟩
  have hmix : Try.prog.follows .mixedOrders = true := by kernel_rfl
  clear hcp hsm hl0 hl1 hl2 hgd
  go_enter Try.func3, Try.ntmps3
  go_upto_region 4 with (first | ((with_reducible refine gate_dst (N := 1) rfl ?_); refine box_event ?hg (N := 1) ?hd (cs := #[.slice A0_0 l0_0.length c0_0, .slice A0_1 l0_1.length c0_1, .slice A0_2 l0_2.length c0_2, .int .i64 a0_3]) (t := 25) ?hr ?_; (case hd => rfl); (case hg => rfl); (case hr => first | (go_simp; done) | (go_simp; rfl)); intro gm hg_ w1 hbox hb_; have HGM := Aside0.mk hg_; have HB1 := Aside0.mk hb_; have BM1 := Aside0.mk hbox; clear hg_ hb_ hbox; have hm1_0 : w1.cell? ⟨gm, 0, none⟩ = some (.slice A0_0 l0_0.length c0_0) := (blk_cell BM1.out 0).trans rfl; have hm1_1 : w1.cell? ⟨gm, 1, none⟩ = some (.slice A0_1 l0_1.length c0_1) := (blk_cell BM1.out 1).trans rfl; have hm1_2 : w1.cell? ⟨gm, 2, none⟩ = some (.slice A0_2 l0_2.length c0_2) := (blk_cell BM1.out 2).trans rfl; have hm1_3 : w1.cell? ⟨gm, 3, none⟩ = some (.int .i64 a0_3) := (blk_cell BM1.out 3).trans rfl) | (go_at_call 4; (refine (capstanlaw08_Great.calls k A0_0 c0_0 l0_0 A0_1 c0_1 l0_1 A0_2 c0_2 l0_2 a0_3 false _ (Kd.C_below HR0.out HB1.out) HC0.out (Kd.C_below HR1.out HB1.out) HC1.out (Kd.C_below HR2.out HB1.out) HC2.out HGT.out).mono ?_); rintro e w2 ⟨rfl, hb_⟩; have HB2 := Aside0.mk (HB1.out.trans (hb_.mono HB1.out.size)); have BM2 := Aside0.mk (blk_below BM1.out hb_); have SZ2 := Aside0.mk hb_.size; clear hb_; clear hm1_0 hm1_1 hm1_2 hm1_3; have hm2_0 : w2.cell? ⟨gm, 0, none⟩ = some (.slice A0_0 l0_0.length c0_0) := (blk_cell BM2.out 0).trans rfl; have hm2_1 : w2.cell? ⟨gm, 1, none⟩ = some (.slice A0_1 l0_1.length c0_1) := (blk_cell BM2.out 1).trans rfl; have hm2_2 : w2.cell? ⟨gm, 2, none⟩ = some (.slice A0_2 l0_2.length c0_2) := (blk_cell BM2.out 2).trans rfl; have hm2_3 : w2.cell? ⟨gm, 3, none⟩ = some (.int .i64 a0_3) := (blk_cell BM2.out 3).trans rfl) | (go_at_call 5; (refine (capstanref08_Copy.calls k A0_0 c0_0 l0_0 A0_1 c0_1 l0_1 A0_2 c0_2 l0_2 a0_3 l0_0 l0_1 l0_2 a0_3 _ (Kd.C_below HR0.out HB2.out) HC0.out (Kd.C_below HR1.out HB2.out) HC1.out (Kd.C_below HR2.out HB2.out) HC2.out HCP.out).mono ?_); rintro e w4 ⟨n0, n1, n2, rfl, hq0, hq1, hq2, hb_⟩; have MM4 := Aside0.mk (MV.told hq0 hq1 hq2); obtain ⟨N0, cn0, rfl⟩ := Kd.R_slice hq0; obtain ⟨N1, cn1, rfl⟩ := Kd.R_slice hq1; obtain ⟨N2, cn2, rfl⟩ := Kd.S_slice hq2; have HB4 := Aside0.mk (HB2.out.trans (hb_.mono HB2.out.size)); have BM4 := Aside0.mk (blk_below BM2.out hb_); have SZ4 := Aside0.mk hb_.size; clear hq0 hq1 hq2 hb_ hm2_0 hm2_1 hm2_2 hm2_3) | ((with_reducible refine gate_dst (N := 3) rfl ?_); refine box_event ?hg (N := 3) ?hd (cs := #[.slice none 0 0, .slice none 0 0, .slice none 0 0, .int .i64 0]) (t := 25) ?hr ?_; (case hd => rfl); (case hg => rfl); (case hr => first | (go_simp; done) | (go_simp; rfl)); intro gn hg_ w5 hbox hb_; have HGN := Aside0.mk hg_; have HB5 := Aside0.mk hb_; have BN5 := Aside0.mk hbox; clear hg_ hb_ hbox; have hn5_0 : w5.cell? ⟨gn, 0, none⟩ = some (.slice none 0 0) := (blk_cell BN5.out 0).trans rfl; have hn5_1 : w5.cell? ⟨gn, 1, none⟩ = some (.slice none 0 0) := (blk_cell BN5.out 1).trans rfl; have hn5_2 : w5.cell? ⟨gn, 2, none⟩ = some (.slice none 0 0) := (blk_cell BN5.out 2).trans rfl; have hn5_3 : w5.cell? ⟨gn, 3, none⟩ = some (.int .i64 0) := (blk_cell BN5.out 3).trans rfl; have hnf0 := blk_frozen BN5.out 0; have hnf1 := blk_frozen BN5.out 1; have hnf2 := blk_frozen BN5.out 2; have hnf3 := blk_frozen BN5.out 3))
  have OGM : Aside0 (w.heap.size ≤ gm ∧ gm < w2.heap.size ∧ w2.heap.size ≤ w4.heap.size ∧ w4.heap.size ≤ gn) := ⟨⟨Nat.le_of_eq HGM.out.symm, blk_lt BM2.out, SZ4.out, Nat.le_of_eq HGN.out.symm⟩⟩
  have hgn0 : w.heap.size ≤ gn := by have h := OGM.out; omega
  have hne1 : gm ≠ gn := by have h := OGM.out; omega
  have nin : ¬ (w2.heap.size ≤ gn ∧ gn < w4.heap.size) := by have h := OGM.out; omega
  have HB6 := Aside0.mk (((((HB4.out.trans (HB5.out.mono HB4.out.size)).setCell (p := ⟨gn, 0, none⟩) hgn0 (.slice N0 l0_0.length cn0)).setCell (p := ⟨gn, 1, none⟩) hgn0 (.slice N1 l0_1.length cn1)).setCell (p := ⟨gn, 2, none⟩) hgn0 (.slice N2 l0_2.length cn2)).setCell (p := ⟨gn, 3, none⟩) hgn0 (.int .i64 a0_3))
  have BM6 := Aside0.mk (blk_far (blk_far (blk_far (blk_far (blk_below BM4.out HB5.out) (p := ⟨gn, 0, none⟩) hne1 (.slice N0 l0_0.length cn0)) (p := ⟨gn, 1, none⟩) hne1 (.slice N1 l0_1.length cn1)) (p := ⟨gn, 2, none⟩) hne1 (.slice N2 l0_2.length cn2)) (p := ⟨gn, 3, none⟩) hne1 (.int .i64 a0_3))
  have BN6 := Aside0.mk (blk_put (blk_put (blk_put (blk_put BN5.out 0 (.slice N0 l0_0.length cn0) rfl) 1 (.slice N1 l0_1.length cn1) rfl) 2 (.slice N2 l0_2.length cn2) rfl) 3 (.int .i64 a0_3) rfl)
  have MM6 := Aside0.mk (MV.set (MV.set (MV.set (MV.set (MM4.out.below HB5.out) gn 0 (.slice N0 l0_0.length cn0) nin) gn 1 (.slice N1 l0_1.length cn1) nin) gn 2 (.slice N2 l0_2.length cn2) nin) gn 3 (.int .i64 a0_3) nin)
  clear hn5_0 hn5_1 hn5_2 hn5_3 hnf0 hnf1 hnf2 hnf3 hgn0 hne1 nin HB5 BN5 MM4 BM4 HB4 HB2 BM2 HB1 BM1 HGM HGN SZ2 SZ4
  generalize hW6 : ((((w5.setCell ⟨gn, 0, none⟩ (.slice N0 l0_0.length cn0)).setCell ⟨gn, 1, none⟩ (.slice N1 l0_1.length cn1)).setCell ⟨gn, 2, none⟩ (.slice N2 l0_2.length cn2)).setCell ⟨gn, 3, none⟩ (.int .i64 a0_3)) = w6 at *
  clear hW6
  have HB : Aside0 (Below w.heap.size w w6.drew) := ⟨HB6.out.drew⟩
  have BM : Aside0 (w6.drew.heap[gm]? = some (.cells #[.slice A0_0 l0_0.length c0_0, .slice A0_1 l0_1.length c0_1, .slice A0_2 l0_2.length c0_2, .int .i64 a0_3] 25 (0, 0))) := ⟨blk_drew BM6.out⟩
  have BN : Aside0 (w6.drew.heap[gn]? = some (.cells #[.slice N0 l0_0.length cn0, .slice N1 l0_1.length cn1, .slice N2 l0_2.length cn2, .int .i64 a0_3] 25 (0, 0))) := ⟨blk_drew BN6.out⟩
  have MM : Aside0 (MV w6.drew w2.heap.size w4.heap.size (.slice N0 l0_0.length cn0) (.slice N1 l0_1.length cn1) (.slice N2 l0_2.length cn2) l0_0 l0_1 l0_2) := ⟨MM6.out.step fun _ _ _ _ => rfl⟩
  have LGN := Aside0.mk (blk_lt BN.out)
  clear HB6 BM6 BN6 MM6
  refine start_ (n := 8) (S := fun w' => w'.cell? ⟨gn, 0, none⟩ = some (.slice N0 l0_0.length cn0) ∧ w'.cell? ⟨gn, 1, none⟩ = some (.slice N1 l0_1.length cn1) ∧ w'.cell? ⟨gn, 2, none⟩ = some (.slice N2 l0_2.length cn2) ∧ w'.cell? ⟨gn, 3, none⟩ = some (.int .i64 a0_3)) (ds := [6, 7]) #[false, false, false, false, false, false, false, false] (by kernel_rfl) rfl rfl ⟨(blk_cell BN.out 0).trans rfl, (blk_cell BN.out 1).trans rfl, (blk_cell BN.out 2).trans rfl, (blk_cell BN.out 3).trans rfl⟩ (fun hHeld => ?_)
  generalize w6.drew = wd at *
  refine take_ (i := 0) (N := some 10) (v := ?_) (a' := ?_) #[true, false, false, false, false, false, false, false] rfl rfl (by kernel_rfl) (fun _ _ _ h => h) (Or.inl ⟨by rfl, ?_⟩) hHeld ?_ ?_
  rotate_left
  · rintro w' ⟨s0, s1, s2, s3⟩
    go_simp
    with_reducible rfl
  rotate_left
  · simp only [Act.put, List.setIfInBounds_toArray, List.set_cons_zero, List.set_cons_succ, i64_w, i32_w]
    rfl
  refine take_ (i := 2) (N := some 12) (v := ?_) (a' := ?_) #[true, false, true, false, false, false, false, false] rfl rfl (by kernel_rfl) (fun _ _ _ h => h) (Or.inl ⟨by rfl, ?_⟩) hHeld ?_ ?_
  rotate_left
  · rintro w' ⟨s0, s1, s2, s3⟩
    go_simp
    with_reducible rfl
  rotate_left
  · simp only [Act.put, List.setIfInBounds_toArray, List.set_cons_zero, List.set_cons_succ, i64_w, i32_w]
    rfl
  refine join_ (σ := Value × Value × Value × Value × Value × Value × Nat × Nat × Nat × Nat × Nat × Nat) 2 #[true, true, true, true, true, true, false, false] (fun s_ => [(11, .agg #[s_.1, s_.2.1, s_.2.2.1, .int .i64 a0_3]), (13, .agg #[s_.2.2.2.1, s_.2.2.2.2.1, s_.2.2.2.2.2.1, .int .i64 a0_3]), (4, .pointer (some ⟨s_.2.2.2.2.2.2.2.2.2.2.1, 0, none⟩)), (5, .pointer (some ⟨s_.2.2.2.2.2.2.2.2.2.2.2, 0, none⟩))]) (fun s_ w' => JJ w w' w2.heap.size w4.heap.size gm gn (.slice N0 l0_0.length cn0) (.slice N1 l0_1.length cn1) (.slice N2 l0_2.length cn2) #[.slice A0_0 l0_0.length c0_0, .slice A0_1 l0_1.length c0_1, .slice A0_2 l0_2.length c0_2, .int .i64 a0_3] l0_0 l0_1 l0_2 a0_3 s_.1 s_.2.1 s_.2.2.1 s_.2.2.2.1 s_.2.2.2.2.1 s_.2.2.2.2.2.1 s_.2.2.2.2.2.2.1 s_.2.2.2.2.2.2.2.1 s_.2.2.2.2.2.2.2.2.1 s_.2.2.2.2.2.2.2.2.2.1 s_.2.2.2.2.2.2.2.2.2.2.1 s_.2.2.2.2.2.2.2.2.2.2.2) ?_ ?_
  rotate_left
  · intro hCont
    refine three_ (i := 1) (j := 4) (k := 5) (Ni := some 11) (Nj := some 4) (Nk := some 5) #[true, true, true, false, false, false, false, false] #[true, false, true, false, true, false, false, false] #[true, false, true, false, false, true, false, false] rfl rfl rfl rfl rfl rfl (by kernel_rfl) (by decide) (by decide) (by decide) (fun K hK => ?_) (fun K hK => ?_) (fun K hK => ?_)
    · skip
      refine goes_ Try.func6 (by kernel_rfl) rfl #[.agg #[.slice N0 l0_0.length cn0, .slice N1 l0_1.length cn1, .slice N2 l0_2.length cn2, .int .i64 a0_3]] (by rfl) rfl rfl (by simp only [List.map_toArray, List.map_cons, List.map_nil]; rfl) ?_
      refine (module_Copy.calls N0 cn0 l0_0 N1 cn1 l0_1 N2 cn2 l0_2 a0_3 l0_0 l0_1 l0_2 a0_3 wd (Kd.R_reads' MM.out.r0).2.2 (Kd.R_reads' MM.out.r0).2.1 (Kd.R_reads' MM.out.r1).2.2 (Kd.R_reads' MM.out.r1).2.1 (Kd.R_reads' MM.out.r2).2.2 (Kd.R_reads' MM.out.r2).2.1 HMC.out).mono ?_
      rintro e y1 ⟨a0, a1, a2, rfl, hq0, hq1, hq2, hb_⟩
      refine ⟨_, rfl, ?_⟩
      have MV1_1 := Aside0.mk (MV.told hq0 hq1 hq2)
      have HB1 := Aside0.mk (HB.out.trans (hb_.mono HB.out.size))
      have BM1 := Aside0.mk (blk_below BM.out hb_)
      have BN1 := Aside0.mk (blk_below BN.out hb_)
      have MM1 := Aside0.mk (MM.out.below hb_)
      have SZ1 := Aside0.mk hb_.size
      clear hq0 hq1 hq2 hb_
      refine hK.out _ _ ⟨(blk_cell BN1.out 0).trans rfl, (blk_cell BN1.out 1).trans rfl, (blk_cell BN1.out 2).trans rfl, (blk_cell BN1.out 3).trans rfl⟩ (fun hHeld => ?_)
      clear hK K
      refine norm_ (a' := ?_) ?_ ?_
      rotate_left
      · show Act.put _ (some 11) _ = _
        simp only [Act.put, List.setIfInBounds_toArray, List.set_cons_zero, List.set_cons_succ, i64_w, i32_w]
        rfl
      refine three_ (i := 3) (j := 4) (k := 5) (Ni := some 13) (Nj := some 4) (Nk := some 5) #[true, true, true, true, false, false, false, false] #[true, true, true, false, true, false, false, false] #[true, true, true, false, false, true, false, false] rfl rfl rfl rfl rfl rfl (by kernel_rfl) (by decide) (by decide) (by decide) (fun K hK => ?_) (fun K hK => ?_) (fun K hK => ?_)
      · skip
        refine goes_ Try.func6 (by kernel_rfl) rfl #[.agg #[.slice N0 l0_0.length cn0, .slice N1 l0_1.length cn1, .slice N2 l0_2.length cn2, .int .i64 a0_3]] (by rfl) rfl rfl (by simp only [List.map_toArray, List.map_cons, List.map_nil]; rfl) ?_
        refine (module_Copy.calls N0 cn0 l0_0 N1 cn1 l0_1 N2 cn2 l0_2 a0_3 l0_0 l0_1 l0_2 a0_3 y1 (Kd.R_reads' MM1.out.r0).2.2 (Kd.R_reads' MM1.out.r0).2.1 (Kd.R_reads' MM1.out.r1).2.2 (Kd.R_reads' MM1.out.r1).2.1 (Kd.R_reads' MM1.out.r2).2.2 (Kd.R_reads' MM1.out.r2).2.1 HMC.out).mono ?_
        rintro e y13 ⟨b0, b1, b2, rfl, hq0, hq1, hq2, hb_⟩
        refine ⟨_, rfl, ?_⟩
        have MV3_13 := Aside0.mk (MV.told hq0 hq1 hq2)
        have HB13 := Aside0.mk (HB1.out.trans (hb_.mono HB1.out.size))
        have BM13 := Aside0.mk (blk_below BM1.out hb_)
        have BN13 := Aside0.mk (blk_below BN1.out hb_)
        have MM13 := Aside0.mk (MM1.out.below hb_)
        have SZ13 := Aside0.mk hb_.size
        have MV1_13 := Aside0.mk (MV1_1.out.below hb_)
        clear hq0 hq1 hq2 hb_
        refine hK.out _ _ ⟨(blk_cell BN13.out 0).trans rfl, (blk_cell BN13.out 1).trans rfl, (blk_cell BN13.out 2).trans rfl, (blk_cell BN13.out 3).trans rfl⟩ (fun hHeld => ?_)
        clear hK K
        refine norm_ (a' := ?_) ?_ ?_
        rotate_left
        · show Act.put _ (some 13) _ = _
          simp only [Act.put, List.setIfInBounds_toArray, List.set_cons_zero, List.set_cons_succ, i64_w, i32_w]
          rfl
        refine two_ (i := 4) (j := 5) (Ni := some 4) (Nj := some 5) #[true, true, true, true, true, false, false, false] #[true, true, true, true, false, true, false, false] rfl rfl rfl rfl (by kernel_rfl) (by decide) (by decide) (fun K hK => ?_) (fun K hK => ?_)
        · skip
          refine value_ (w1 := ?_) (v := ?_) (by rfl) rfl ?_ ?_
          rotate_left 2
          · go_simp
            constructor
            · rfl
            · rfl
          obtain ⟨y134, hy_⟩ : ∃ y_, y_ = y13.alloc (.cells #[.slice none 0 0, .slice none 0 0, .slice none 0 0, .int .i64 0] 25) := ⟨_, rfl⟩
          have hb_ : Below y13.heap.size y13 y134 := by rw [hy_]; exact below_alloc (Below.refl _ _) _
          have BX4_134 : Aside0 (y134.heap[y13.heap.size]? = some (.cells #[.slice none 0 0, .slice none 0 0, .slice none 0 0, .int .i64 0] 25 (0, 0))) := ⟨by rw [hy_]; exact blk_new _ _⟩
          have LX4_134 := Aside0.mk (blk_lt BX4_134.out)
          have HB134 := Aside0.mk (HB13.out.trans (hb_.mono HB13.out.size))
          have BM134 := Aside0.mk (blk_below BM13.out hb_)
          have BN134 := Aside0.mk (blk_below BN13.out hb_)
          have MM134 := Aside0.mk (MM13.out.below hb_)
          have SZ134 := Aside0.mk hb_.size
          have MV1_134 := Aside0.mk (MV1_13.out.below hb_)
          have MV3_134 := Aside0.mk (MV3_13.out.below hb_)
          rw [← hy_]
          clear hy_ hb_
          refine hK.out _ _ ⟨(blk_cell BN134.out 0).trans rfl, (blk_cell BN134.out 1).trans rfl, (blk_cell BN134.out 2).trans rfl, (blk_cell BN134.out 3).trans rfl⟩ (fun hHeld => ?_)
          clear hK K
          refine norm_ (a' := ?_) ?_ ?_
          rotate_left
          · show Act.put _ (some 4) _ = _
            simp only [Act.put, List.setIfInBounds_toArray, List.set_cons_zero, List.set_cons_succ, i64_w, i32_w]
            rfl
          refine one_ (i := 5) (N := some 5) #[true, true, true, true, true, true, false, false] rfl rfl (by kernel_rfl) (by decide) (fun K hK => ?_)
          refine value_ (w1 := ?_) (v := ?_) (by rfl) rfl ?_ ?_
          rotate_left 2
          · go_simp
            constructor
            · rfl
            · rfl
          obtain ⟨y1345, hy_⟩ : ∃ y_, y_ = y134.alloc (.cells #[.slice none 0 0, .slice none 0 0, .slice none 0 0, .int .i64 0] 25) := ⟨_, rfl⟩
          have hb_ : Below y134.heap.size y134 y1345 := by rw [hy_]; exact below_alloc (Below.refl _ _) _
          have BX5_1345 : Aside0 (y1345.heap[y134.heap.size]? = some (.cells #[.slice none 0 0, .slice none 0 0, .slice none 0 0, .int .i64 0] 25 (0, 0))) := ⟨by rw [hy_]; exact blk_new _ _⟩
          have LX5_1345 := Aside0.mk (blk_lt BX5_1345.out)
          have HB1345 := Aside0.mk (HB134.out.trans (hb_.mono HB134.out.size))
          have BM1345 := Aside0.mk (blk_below BM134.out hb_)
          have BN1345 := Aside0.mk (blk_below BN134.out hb_)
          have MM1345 := Aside0.mk (MM134.out.below hb_)
          have SZ1345 := Aside0.mk hb_.size
          have MV1_1345 := Aside0.mk (MV1_134.out.below hb_)
          have MV3_1345 := Aside0.mk (MV3_134.out.below hb_)
          have BX4_1345 := Aside0.mk (blk_below BX4_134.out hb_)
          rw [← hy_]
          clear hy_ hb_
          refine hK.out _ _ ⟨(blk_cell BN1345.out 0).trans rfl, (blk_cell BN1345.out 1).trans rfl, (blk_cell BN1345.out 2).trans rfl, (blk_cell BN1345.out 3).trans rfl⟩ (fun hHeld => ?_)
          clear hK K
          refine norm_ (a' := ?_) ?_ ?_
          rotate_left
          · show Act.put _ (some 5) _ = _
            simp only [Act.put, List.setIfInBounds_toArray, List.set_cons_zero, List.set_cons_succ, i64_w, i32_w]
            rfl
          exact norm_ (by simp only [putAll, Act.put, List.setIfInBounds_toArray, List.set_cons_zero, List.set_cons_succ]) (hCont (a0, a1, a2, b0, b1, b2, wd.heap.size, y1.heap.size, y1.heap.size, y13.heap.size, y13.heap.size, y134.heap.size) _ (by dsimp only; have z0 := SZ1.out; have z1 := SZ13.out; have z2 := SZ134.out; have z3 := SZ1345.out; have l4 := LX4_134.out;  have l5 := LX5_1345.out; have h0 := LGN.out; exact ⟨HB1345.out, BM1345.out, BN1345.out, MM1345.out, MV1_1345.out, MV3_1345.out, BX4_1345.out, BX5_1345.out, by omega, by omega, by omega, by omega, by omega, by omega, by omega, by omega⟩))
        · skip
          refine value_ (w1 := ?_) (v := ?_) (by rfl) rfl ?_ ?_
          rotate_left 2
          · go_simp
            constructor
            · rfl
            · rfl
          obtain ⟨y135, hy_⟩ : ∃ y_, y_ = y13.alloc (.cells #[.slice none 0 0, .slice none 0 0, .slice none 0 0, .int .i64 0] 25) := ⟨_, rfl⟩
          have hb_ : Below y13.heap.size y13 y135 := by rw [hy_]; exact below_alloc (Below.refl _ _) _
          have BX5_135 : Aside0 (y135.heap[y13.heap.size]? = some (.cells #[.slice none 0 0, .slice none 0 0, .slice none 0 0, .int .i64 0] 25 (0, 0))) := ⟨by rw [hy_]; exact blk_new _ _⟩
          have LX5_135 := Aside0.mk (blk_lt BX5_135.out)
          have HB135 := Aside0.mk (HB13.out.trans (hb_.mono HB13.out.size))
          have BM135 := Aside0.mk (blk_below BM13.out hb_)
          have BN135 := Aside0.mk (blk_below BN13.out hb_)
          have MM135 := Aside0.mk (MM13.out.below hb_)
          have SZ135 := Aside0.mk hb_.size
          have MV1_135 := Aside0.mk (MV1_13.out.below hb_)
          have MV3_135 := Aside0.mk (MV3_13.out.below hb_)
          rw [← hy_]
          clear hy_ hb_
          refine hK.out _ _ ⟨(blk_cell BN135.out 0).trans rfl, (blk_cell BN135.out 1).trans rfl, (blk_cell BN135.out 2).trans rfl, (blk_cell BN135.out 3).trans rfl⟩ (fun hHeld => ?_)
          clear hK K
          refine norm_ (a' := ?_) ?_ ?_
          rotate_left
          · show Act.put _ (some 5) _ = _
            simp only [Act.put, List.setIfInBounds_toArray, List.set_cons_zero, List.set_cons_succ, i64_w, i32_w]
            rfl
          refine one_ (i := 4) (N := some 4) #[true, true, true, true, true, true, false, false] rfl rfl (by kernel_rfl) (by decide) (fun K hK => ?_)
          refine value_ (w1 := ?_) (v := ?_) (by rfl) rfl ?_ ?_
          rotate_left 2
          · go_simp
            constructor
            · rfl
            · rfl
          obtain ⟨y1354, hy_⟩ : ∃ y_, y_ = y135.alloc (.cells #[.slice none 0 0, .slice none 0 0, .slice none 0 0, .int .i64 0] 25) := ⟨_, rfl⟩
          have hb_ : Below y135.heap.size y135 y1354 := by rw [hy_]; exact below_alloc (Below.refl _ _) _
          have BX4_1354 : Aside0 (y1354.heap[y135.heap.size]? = some (.cells #[.slice none 0 0, .slice none 0 0, .slice none 0 0, .int .i64 0] 25 (0, 0))) := ⟨by rw [hy_]; exact blk_new _ _⟩
          have LX4_1354 := Aside0.mk (blk_lt BX4_1354.out)
          have HB1354 := Aside0.mk (HB135.out.trans (hb_.mono HB135.out.size))
          have BM1354 := Aside0.mk (blk_below BM135.out hb_)
          have BN1354 := Aside0.mk (blk_below BN135.out hb_)
          have MM1354 := Aside0.mk (MM135.out.below hb_)
          have SZ1354 := Aside0.mk hb_.size
          have MV1_1354 := Aside0.mk (MV1_135.out.below hb_)
          have MV3_1354 := Aside0.mk (MV3_135.out.below hb_)
          have BX5_1354 := Aside0.mk (blk_below BX5_135.out hb_)
          rw [← hy_]
          clear hy_ hb_
          refine hK.out _ _ ⟨(blk_cell BN1354.out 0).trans rfl, (blk_cell BN1354.out 1).trans rfl, (blk_cell BN1354.out 2).trans rfl, (blk_cell BN1354.out 3).trans rfl⟩ (fun hHeld => ?_)
          clear hK K
          refine norm_ (a' := ?_) ?_ ?_
          rotate_left
          · show Act.put _ (some 4) _ = _
            simp only [Act.put, List.setIfInBounds_toArray, List.set_cons_zero, List.set_cons_succ, i64_w, i32_w]
            rfl
          exact norm_ (by simp only [putAll, Act.put, List.setIfInBounds_toArray, List.set_cons_zero, List.set_cons_succ]) (hCont (a0, a1, a2, b0, b1, b2, wd.heap.size, y1.heap.size, y1.heap.size, y13.heap.size, y135.heap.size, y13.heap.size) _ (by dsimp only; have z0 := SZ1.out; have z1 := SZ13.out; have z2 := SZ135.out; have z3 := SZ1354.out; have l4 := LX4_1354.out;  have l5 := LX5_135.out; have h0 := LGN.out; exact ⟨HB1354.out, BM1354.out, BN1354.out, MM1354.out, MV1_1354.out, MV3_1354.out, BX4_1354.out, BX5_1354.out, by omega, by omega, by omega, by omega, by omega, by omega, by omega, by omega⟩))
      · skip
        refine value_ (w1 := ?_) (v := ?_) (by rfl) rfl ?_ ?_
        rotate_left 2
        · go_simp
          constructor
          · rfl
          · rfl
        obtain ⟨y14, hy_⟩ : ∃ y_, y_ = y1.alloc (.cells #[.slice none 0 0, .slice none 0 0, .slice none 0 0, .int .i64 0] 25) := ⟨_, rfl⟩
        have hb_ : Below y1.heap.size y1 y14 := by rw [hy_]; exact below_alloc (Below.refl _ _) _
        have BX4_14 : Aside0 (y14.heap[y1.heap.size]? = some (.cells #[.slice none 0 0, .slice none 0 0, .slice none 0 0, .int .i64 0] 25 (0, 0))) := ⟨by rw [hy_]; exact blk_new _ _⟩
        have LX4_14 := Aside0.mk (blk_lt BX4_14.out)
        have HB14 := Aside0.mk (HB1.out.trans (hb_.mono HB1.out.size))
        have BM14 := Aside0.mk (blk_below BM1.out hb_)
        have BN14 := Aside0.mk (blk_below BN1.out hb_)
        have MM14 := Aside0.mk (MM1.out.below hb_)
        have SZ14 := Aside0.mk hb_.size
        have MV1_14 := Aside0.mk (MV1_1.out.below hb_)
        rw [← hy_]
        clear hy_ hb_
        refine hK.out _ _ ⟨(blk_cell BN14.out 0).trans rfl, (blk_cell BN14.out 1).trans rfl, (blk_cell BN14.out 2).trans rfl, (blk_cell BN14.out 3).trans rfl⟩ (fun hHeld => ?_)
        clear hK K
        refine norm_ (a' := ?_) ?_ ?_
        rotate_left
        · show Act.put _ (some 4) _ = _
          simp only [Act.put, List.setIfInBounds_toArray, List.set_cons_zero, List.set_cons_succ, i64_w, i32_w]
          rfl
        refine two_ (i := 3) (j := 5) (Ni := some 13) (Nj := some 5) #[true, true, true, true, true, false, false, false] #[true, true, true, false, true, true, false, false] rfl rfl rfl rfl (by kernel_rfl) (by decide) (by decide) (fun K hK => ?_) (fun K hK => ?_)
        · skip
          refine goes_ Try.func6 (by kernel_rfl) rfl #[.agg #[.slice N0 l0_0.length cn0, .slice N1 l0_1.length cn1, .slice N2 l0_2.length cn2, .int .i64 a0_3]] (by rfl) rfl rfl (by simp only [List.map_toArray, List.map_cons, List.map_nil]; rfl) ?_
          refine (module_Copy.calls N0 cn0 l0_0 N1 cn1 l0_1 N2 cn2 l0_2 a0_3 l0_0 l0_1 l0_2 a0_3 y14 (Kd.R_reads' MM14.out.r0).2.2 (Kd.R_reads' MM14.out.r0).2.1 (Kd.R_reads' MM14.out.r1).2.2 (Kd.R_reads' MM14.out.r1).2.1 (Kd.R_reads' MM14.out.r2).2.2 (Kd.R_reads' MM14.out.r2).2.1 HMC.out).mono ?_
          rintro e y143 ⟨b0, b1, b2, rfl, hq0, hq1, hq2, hb_⟩
          refine ⟨_, rfl, ?_⟩
          have MV3_143 := Aside0.mk (MV.told hq0 hq1 hq2)
          have HB143 := Aside0.mk (HB14.out.trans (hb_.mono HB14.out.size))
          have BM143 := Aside0.mk (blk_below BM14.out hb_)
          have BN143 := Aside0.mk (blk_below BN14.out hb_)
          have MM143 := Aside0.mk (MM14.out.below hb_)
          have SZ143 := Aside0.mk hb_.size
          have MV1_143 := Aside0.mk (MV1_14.out.below hb_)
          have BX4_143 := Aside0.mk (blk_below BX4_14.out hb_)
          clear hq0 hq1 hq2 hb_
          refine hK.out _ _ ⟨(blk_cell BN143.out 0).trans rfl, (blk_cell BN143.out 1).trans rfl, (blk_cell BN143.out 2).trans rfl, (blk_cell BN143.out 3).trans rfl⟩ (fun hHeld => ?_)
          clear hK K
          refine norm_ (a' := ?_) ?_ ?_
          rotate_left
          · show Act.put _ (some 13) _ = _
            simp only [Act.put, List.setIfInBounds_toArray, List.set_cons_zero, List.set_cons_succ, i64_w, i32_w]
            rfl
          refine one_ (i := 5) (N := some 5) #[true, true, true, true, true, true, false, false] rfl rfl (by kernel_rfl) (by decide) (fun K hK => ?_)
          refine value_ (w1 := ?_) (v := ?_) (by rfl) rfl ?_ ?_
          rotate_left 2
          · go_simp
            constructor
            · rfl
            · rfl
          obtain ⟨y1435, hy_⟩ : ∃ y_, y_ = y143.alloc (.cells #[.slice none 0 0, .slice none 0 0, .slice none 0 0, .int .i64 0] 25) := ⟨_, rfl⟩
          have hb_ : Below y143.heap.size y143 y1435 := by rw [hy_]; exact below_alloc (Below.refl _ _) _
          have BX5_1435 : Aside0 (y1435.heap[y143.heap.size]? = some (.cells #[.slice none 0 0, .slice none 0 0, .slice none 0 0, .int .i64 0] 25 (0, 0))) := ⟨by rw [hy_]; exact blk_new _ _⟩
          have LX5_1435 := Aside0.mk (blk_lt BX5_1435.out)
          have HB1435 := Aside0.mk (HB143.out.trans (hb_.mono HB143.out.size))
          have BM1435 := Aside0.mk (blk_below BM143.out hb_)
          have BN1435 := Aside0.mk (blk_below BN143.out hb_)
          have MM1435 := Aside0.mk (MM143.out.below hb_)
          have SZ1435 := Aside0.mk hb_.size
          have MV1_1435 := Aside0.mk (MV1_143.out.below hb_)
          have BX4_1435 := Aside0.mk (blk_below BX4_143.out hb_)
          have MV3_1435 := Aside0.mk (MV3_143.out.below hb_)
          rw [← hy_]
          clear hy_ hb_
          refine hK.out _ _ ⟨(blk_cell BN1435.out 0).trans rfl, (blk_cell BN1435.out 1).trans rfl, (blk_cell BN1435.out 2).trans rfl, (blk_cell BN1435.out 3).trans rfl⟩ (fun hHeld => ?_)
          clear hK K
          refine norm_ (a' := ?_) ?_ ?_
          rotate_left
          · show Act.put _ (some 5) _ = _
            simp only [Act.put, List.setIfInBounds_toArray, List.set_cons_zero, List.set_cons_succ, i64_w, i32_w]
            rfl
          exact norm_ (by simp only [putAll, Act.put, List.setIfInBounds_toArray, List.set_cons_zero, List.set_cons_succ]) (hCont (a0, a1, a2, b0, b1, b2, wd.heap.size, y1.heap.size, y14.heap.size, y143.heap.size, y1.heap.size, y143.heap.size) _ (by dsimp only; have z0 := SZ1.out; have z1 := SZ14.out; have z2 := SZ143.out; have z3 := SZ1435.out; have l4 := LX4_14.out;  have l5 := LX5_1435.out; have h0 := LGN.out; exact ⟨HB1435.out, BM1435.out, BN1435.out, MM1435.out, MV1_1435.out, MV3_1435.out, BX4_1435.out, BX5_1435.out, by omega, by omega, by omega, by omega, by omega, by omega, by omega, by omega⟩))
        · skip
          refine value_ (w1 := ?_) (v := ?_) (by rfl) rfl ?_ ?_
          rotate_left 2
          · go_simp
            constructor
            · rfl
            · rfl
          obtain ⟨y145, hy_⟩ : ∃ y_, y_ = y14.alloc (.cells #[.slice none 0 0, .slice none 0 0, .slice none 0 0, .int .i64 0] 25) := ⟨_, rfl⟩
          have hb_ : Below y14.heap.size y14 y145 := by rw [hy_]; exact below_alloc (Below.refl _ _) _
          have BX5_145 : Aside0 (y145.heap[y14.heap.size]? = some (.cells #[.slice none 0 0, .slice none 0 0, .slice none 0 0, .int .i64 0] 25 (0, 0))) := ⟨by rw [hy_]; exact blk_new _ _⟩
          have LX5_145 := Aside0.mk (blk_lt BX5_145.out)
          have HB145 := Aside0.mk (HB14.out.trans (hb_.mono HB14.out.size))
          have BM145 := Aside0.mk (blk_below BM14.out hb_)
          have BN145 := Aside0.mk (blk_below BN14.out hb_)
          have MM145 := Aside0.mk (MM14.out.below hb_)
          have SZ145 := Aside0.mk hb_.size
          have MV1_145 := Aside0.mk (MV1_14.out.below hb_)
          have BX4_145 := Aside0.mk (blk_below BX4_14.out hb_)
          rw [← hy_]
          clear hy_ hb_
          refine hK.out _ _ ⟨(blk_cell BN145.out 0).trans rfl, (blk_cell BN145.out 1).trans rfl, (blk_cell BN145.out 2).trans rfl, (blk_cell BN145.out 3).trans rfl⟩ (fun hHeld => ?_)
          clear hK K
          refine norm_ (a' := ?_) ?_ ?_
          rotate_left
          · show Act.put _ (some 5) _ = _
            simp only [Act.put, List.setIfInBounds_toArray, List.set_cons_zero, List.set_cons_succ, i64_w, i32_w]
            rfl
          refine one_ (i := 3) (N := some 13) #[true, true, true, true, true, true, false, false] rfl rfl (by kernel_rfl) (by decide) (fun K hK => ?_)
          refine goes_ Try.func6 (by kernel_rfl) rfl #[.agg #[.slice N0 l0_0.length cn0, .slice N1 l0_1.length cn1, .slice N2 l0_2.length cn2, .int .i64 a0_3]] (by rfl) rfl rfl (by simp only [List.map_toArray, List.map_cons, List.map_nil]; rfl) ?_
          refine (module_Copy.calls N0 cn0 l0_0 N1 cn1 l0_1 N2 cn2 l0_2 a0_3 l0_0 l0_1 l0_2 a0_3 y145 (Kd.R_reads' MM145.out.r0).2.2 (Kd.R_reads' MM145.out.r0).2.1 (Kd.R_reads' MM145.out.r1).2.2 (Kd.R_reads' MM145.out.r1).2.1 (Kd.R_reads' MM145.out.r2).2.2 (Kd.R_reads' MM145.out.r2).2.1 HMC.out).mono ?_
          rintro e y1453 ⟨b0, b1, b2, rfl, hq0, hq1, hq2, hb_⟩
          refine ⟨_, rfl, ?_⟩
          have MV3_1453 := Aside0.mk (MV.told hq0 hq1 hq2)
          have HB1453 := Aside0.mk (HB145.out.trans (hb_.mono HB145.out.size))
          have BM1453 := Aside0.mk (blk_below BM145.out hb_)
          have BN1453 := Aside0.mk (blk_below BN145.out hb_)
          have MM1453 := Aside0.mk (MM145.out.below hb_)
          have SZ1453 := Aside0.mk hb_.size
          have MV1_1453 := Aside0.mk (MV1_145.out.below hb_)
          have BX4_1453 := Aside0.mk (blk_below BX4_145.out hb_)
          have BX5_1453 := Aside0.mk (blk_below BX5_145.out hb_)
          clear hq0 hq1 hq2 hb_
          refine hK.out _ _ ⟨(blk_cell BN1453.out 0).trans rfl, (blk_cell BN1453.out 1).trans rfl, (blk_cell BN1453.out 2).trans rfl, (blk_cell BN1453.out 3).trans rfl⟩ (fun hHeld => ?_)
          clear hK K
          refine norm_ (a' := ?_) ?_ ?_
          rotate_left
          · show Act.put _ (some 13) _ = _
            simp only [Act.put, List.setIfInBounds_toArray, List.set_cons_zero, List.set_cons_succ, i64_w, i32_w]
            rfl
          exact norm_ (by simp only [putAll, Act.put, List.setIfInBounds_toArray, List.set_cons_zero, List.set_cons_succ]) (hCont (a0, a1, a2, b0, b1, b2, wd.heap.size, y1.heap.size, y145.heap.size, y1453.heap.size, y1.heap.size, y14.heap.size) _ (by dsimp only; have z0 := SZ1.out; have z1 := SZ14.out; have z2 := SZ145.out; have z3 := SZ1453.out; have l4 := LX4_14.out;  have l5 := LX5_145.out; have h0 := LGN.out; exact ⟨HB1453.out, BM1453.out, BN1453.out, MM1453.out, MV1_1453.out, MV3_1453.out, BX4_1453.out, BX5_1453.out, by omega, by omega, by omega, by omega, by omega, by omega, by omega, by omega⟩))
      · skip
        refine value_ (w1 := ?_) (v := ?_) (by rfl) rfl ?_ ?_
        rotate_left 2
        · go_simp
          constructor
          · rfl
          · rfl
        obtain ⟨y15, hy_⟩ : ∃ y_, y_ = y1.alloc (.cells #[.slice none 0 0, .slice none 0 0, .slice none 0 0, .int .i64 0] 25) := ⟨_, rfl⟩
        have hb_ : Below y1.heap.size y1 y15 := by rw [hy_]; exact below_alloc (Below.refl _ _) _
        have BX5_15 : Aside0 (y15.heap[y1.heap.size]? = some (.cells #[.slice none 0 0, .slice none 0 0, .slice none 0 0, .int .i64 0] 25 (0, 0))) := ⟨by rw [hy_]; exact blk_new _ _⟩
        have LX5_15 := Aside0.mk (blk_lt BX5_15.out)
        have HB15 := Aside0.mk (HB1.out.trans (hb_.mono HB1.out.size))
        have BM15 := Aside0.mk (blk_below BM1.out hb_)
        have BN15 := Aside0.mk (blk_below BN1.out hb_)
        have MM15 := Aside0.mk (MM1.out.below hb_)
        have SZ15 := Aside0.mk hb_.size
        have MV1_15 := Aside0.mk (MV1_1.out.below hb_)
        rw [← hy_]
        clear hy_ hb_
        refine hK.out _ _ ⟨(blk_cell BN15.out 0).trans rfl, (blk_cell BN15.out 1).trans rfl, (blk_cell BN15.out 2).trans rfl, (blk_cell BN15.out 3).trans rfl⟩ (fun hHeld => ?_)
        clear hK K
        refine norm_ (a' := ?_) ?_ ?_
        rotate_left
        · show Act.put _ (some 5) _ = _
          simp only [Act.put, List.setIfInBounds_toArray, List.set_cons_zero, List.set_cons_succ, i64_w, i32_w]
          rfl
        refine two_ (i := 3) (j := 4) (Ni := some 13) (Nj := some 4) #[true, true, true, true, false, true, false, false] #[true, true, true, false, true, true, false, false] rfl rfl rfl rfl (by kernel_rfl) (by decide) (by decide) (fun K hK => ?_) (fun K hK => ?_)
        · skip
          refine goes_ Try.func6 (by kernel_rfl) rfl #[.agg #[.slice N0 l0_0.length cn0, .slice N1 l0_1.length cn1, .slice N2 l0_2.length cn2, .int .i64 a0_3]] (by rfl) rfl rfl (by simp only [List.map_toArray, List.map_cons, List.map_nil]; rfl) ?_
          refine (module_Copy.calls N0 cn0 l0_0 N1 cn1 l0_1 N2 cn2 l0_2 a0_3 l0_0 l0_1 l0_2 a0_3 y15 (Kd.R_reads' MM15.out.r0).2.2 (Kd.R_reads' MM15.out.r0).2.1 (Kd.R_reads' MM15.out.r1).2.2 (Kd.R_reads' MM15.out.r1).2.1 (Kd.R_reads' MM15.out.r2).2.2 (Kd.R_reads' MM15.out.r2).2.1 HMC.out).mono ?_
          rintro e y153 ⟨b0, b1, b2, rfl, hq0, hq1, hq2, hb_⟩
          refine ⟨_, rfl, ?_⟩
          have MV3_153 := Aside0.mk (MV.told hq0 hq1 hq2)
          have HB153 := Aside0.mk (HB15.out.trans (hb_.mono HB15.out.size))
          have BM153 := Aside0.mk (blk_below BM15.out hb_)
          have BN153 := Aside0.mk (blk_below BN15.out hb_)
          have MM153 := Aside0.mk (MM15.out.below hb_)
          have SZ153 := Aside0.mk hb_.size
          have MV1_153 := Aside0.mk (MV1_15.out.below hb_)
          have BX5_153 := Aside0.mk (blk_below BX5_15.out hb_)
          clear hq0 hq1 hq2 hb_
          refine hK.out _ _ ⟨(blk_cell BN153.out 0).trans rfl, (blk_cell BN153.out 1).trans rfl, (blk_cell BN153.out 2).trans rfl, (blk_cell BN153.out 3).trans rfl⟩ (fun hHeld => ?_)
          clear hK K
          refine norm_ (a' := ?_) ?_ ?_
          rotate_left
          · show Act.put _ (some 13) _ = _
            simp only [Act.put, List.setIfInBounds_toArray, List.set_cons_zero, List.set_cons_succ, i64_w, i32_w]
            rfl
          refine one_ (i := 4) (N := some 4) #[true, true, true, true, true, true, false, false] rfl rfl (by kernel_rfl) (by decide) (fun K hK => ?_)
          refine value_ (w1 := ?_) (v := ?_) (by rfl) rfl ?_ ?_
          rotate_left 2
          · go_simp
            constructor
            · rfl
            · rfl
          obtain ⟨y1534, hy_⟩ : ∃ y_, y_ = y153.alloc (.cells #[.slice none 0 0, .slice none 0 0, .slice none 0 0, .int .i64 0] 25) := ⟨_, rfl⟩
          have hb_ : Below y153.heap.size y153 y1534 := by rw [hy_]; exact below_alloc (Below.refl _ _) _
          have BX4_1534 : Aside0 (y1534.heap[y153.heap.size]? = some (.cells #[.slice none 0 0, .slice none 0 0, .slice none 0 0, .int .i64 0] 25 (0, 0))) := ⟨by rw [hy_]; exact blk_new _ _⟩
          have LX4_1534 := Aside0.mk (blk_lt BX4_1534.out)
          have HB1534 := Aside0.mk (HB153.out.trans (hb_.mono HB153.out.size))
          have BM1534 := Aside0.mk (blk_below BM153.out hb_)
          have BN1534 := Aside0.mk (blk_below BN153.out hb_)
          have MM1534 := Aside0.mk (MM153.out.below hb_)
          have SZ1534 := Aside0.mk hb_.size
          have MV1_1534 := Aside0.mk (MV1_153.out.below hb_)
          have BX5_1534 := Aside0.mk (blk_below BX5_153.out hb_)
          have MV3_1534 := Aside0.mk (MV3_153.out.below hb_)
          rw [← hy_]
          clear hy_ hb_
          refine hK.out _ _ ⟨(blk_cell BN1534.out 0).trans rfl, (blk_cell BN1534.out 1).trans rfl, (blk_cell BN1534.out 2).trans rfl, (blk_cell BN1534.out 3).trans rfl⟩ (fun hHeld => ?_)
          clear hK K
          refine norm_ (a' := ?_) ?_ ?_
          rotate_left
          · show Act.put _ (some 4) _ = _
            simp only [Act.put, List.setIfInBounds_toArray, List.set_cons_zero, List.set_cons_succ, i64_w, i32_w]
            rfl
          exact norm_ (by simp only [putAll, Act.put, List.setIfInBounds_toArray, List.set_cons_zero, List.set_cons_succ]) (hCont (a0, a1, a2, b0, b1, b2, wd.heap.size, y1.heap.size, y15.heap.size, y153.heap.size, y153.heap.size, y1.heap.size) _ (by dsimp only; have z0 := SZ1.out; have z1 := SZ15.out; have z2 := SZ153.out; have z3 := SZ1534.out; have l4 := LX4_1534.out;  have l5 := LX5_15.out; have h0 := LGN.out; exact ⟨HB1534.out, BM1534.out, BN1534.out, MM1534.out, MV1_1534.out, MV3_1534.out, BX4_1534.out, BX5_1534.out, by omega, by omega, by omega, by omega, by omega, by omega, by omega, by omega⟩))
        · skip
          refine value_ (w1 := ?_) (v := ?_) (by rfl) rfl ?_ ?_
          rotate_left 2
          · go_simp
            constructor
            · rfl
            · rfl
          obtain ⟨y154, hy_⟩ : ∃ y_, y_ = y15.alloc (.cells #[.slice none 0 0, .slice none 0 0, .slice none 0 0, .int .i64 0] 25) := ⟨_, rfl⟩
          have hb_ : Below y15.heap.size y15 y154 := by rw [hy_]; exact below_alloc (Below.refl _ _) _
          have BX4_154 : Aside0 (y154.heap[y15.heap.size]? = some (.cells #[.slice none 0 0, .slice none 0 0, .slice none 0 0, .int .i64 0] 25 (0, 0))) := ⟨by rw [hy_]; exact blk_new _ _⟩
          have LX4_154 := Aside0.mk (blk_lt BX4_154.out)
          have HB154 := Aside0.mk (HB15.out.trans (hb_.mono HB15.out.size))
          have BM154 := Aside0.mk (blk_below BM15.out hb_)
          have BN154 := Aside0.mk (blk_below BN15.out hb_)
          have MM154 := Aside0.mk (MM15.out.below hb_)
          have SZ154 := Aside0.mk hb_.size
          have MV1_154 := Aside0.mk (MV1_15.out.below hb_)
          have BX5_154 := Aside0.mk (blk_below BX5_15.out hb_)
          rw [← hy_]
          clear hy_ hb_
          refine hK.out _ _ ⟨(blk_cell BN154.out 0).trans rfl, (blk_cell BN154.out 1).trans rfl, (blk_cell BN154.out 2).trans rfl, (blk_cell BN154.out 3).trans rfl⟩ (fun hHeld => ?_)
          clear hK K
          refine norm_ (a' := ?_) ?_ ?_
          rotate_left
          · show Act.put _ (some 4) _ = _
            simp only [Act.put, List.setIfInBounds_toArray, List.set_cons_zero, List.set_cons_succ, i64_w, i32_w]
            rfl
          refine one_ (i := 3) (N := some 13) #[true, true, true, true, true, true, false, false] rfl rfl (by kernel_rfl) (by decide) (fun K hK => ?_)
          refine goes_ Try.func6 (by kernel_rfl) rfl #[.agg #[.slice N0 l0_0.length cn0, .slice N1 l0_1.length cn1, .slice N2 l0_2.length cn2, .int .i64 a0_3]] (by rfl) rfl rfl (by simp only [List.map_toArray, List.map_cons, List.map_nil]; rfl) ?_
          refine (module_Copy.calls N0 cn0 l0_0 N1 cn1 l0_1 N2 cn2 l0_2 a0_3 l0_0 l0_1 l0_2 a0_3 y154 (Kd.R_reads' MM154.out.r0).2.2 (Kd.R_reads' MM154.out.r0).2.1 (Kd.R_reads' MM154.out.r1).2.2 (Kd.R_reads' MM154.out.r1).2.1 (Kd.R_reads' MM154.out.r2).2.2 (Kd.R_reads' MM154.out.r2).2.1 HMC.out).mono ?_
          rintro e y1543 ⟨b0, b1, b2, rfl, hq0, hq1, hq2, hb_⟩
          refine ⟨_, rfl, ?_⟩
          have MV3_1543 := Aside0.mk (MV.told hq0 hq1 hq2)
          have HB1543 := Aside0.mk (HB154.out.trans (hb_.mono HB154.out.size))
          have BM1543 := Aside0.mk (blk_below BM154.out hb_)
          have BN1543 := Aside0.mk (blk_below BN154.out hb_)
          have MM1543 := Aside0.mk (MM154.out.below hb_)
          have SZ1543 := Aside0.mk hb_.size
          have MV1_1543 := Aside0.mk (MV1_154.out.below hb_)
          have BX5_1543 := Aside0.mk (blk_below BX5_154.out hb_)
          have BX4_1543 := Aside0.mk (blk_below BX4_154.out hb_)
          clear hq0 hq1 hq2 hb_
          refine hK.out _ _ ⟨(blk_cell BN1543.out 0).trans rfl, (blk_cell BN1543.out 1).trans rfl, (blk_cell BN1543.out 2).trans rfl, (blk_cell BN1543.out 3).trans rfl⟩ (fun hHeld => ?_)
          clear hK K
          refine norm_ (a' := ?_) ?_ ?_
          rotate_left
          · show Act.put _ (some 13) _ = _
            simp only [Act.put, List.setIfInBounds_toArray, List.set_cons_zero, List.set_cons_succ, i64_w, i32_w]
            rfl
          exact norm_ (by simp only [putAll, Act.put, List.setIfInBounds_toArray, List.set_cons_zero, List.set_cons_succ]) (hCont (a0, a1, a2, b0, b1, b2, wd.heap.size, y1.heap.size, y154.heap.size, y1543.heap.size, y15.heap.size, y1.heap.size) _ (by dsimp only; have z0 := SZ1.out; have z1 := SZ15.out; have z2 := SZ154.out; have z3 := SZ1543.out; have l4 := LX4_154.out;  have l5 := LX5_15.out; have h0 := LGN.out; exact ⟨HB1543.out, BM1543.out, BN1543.out, MM1543.out, MV1_1543.out, MV3_1543.out, BX4_1543.out, BX5_1543.out, by omega, by omega, by omega, by omega, by omega, by omega, by omega, by omega⟩))
    · skip
      refine value_ (w1 := ?_) (v := ?_) (by rfl) rfl ?_ ?_
      rotate_left 2
      · go_simp
        constructor
        · rfl
        · rfl
      obtain ⟨y4, hy_⟩ : ∃ y_, y_ = wd.alloc (.cells #[.slice none 0 0, .slice none 0 0, .slice none 0 0, .int .i64 0] 25) := ⟨_, rfl⟩
      have hb_ : Below wd.heap.size wd y4 := by rw [hy_]; exact below_alloc (Below.refl _ _) _
      have BX4_4 : Aside0 (y4.heap[wd.heap.size]? = some (.cells #[.slice none 0 0, .slice none 0 0, .slice none 0 0, .int .i64 0] 25 (0, 0))) := ⟨by rw [hy_]; exact blk_new _ _⟩
      have LX4_4 := Aside0.mk (blk_lt BX4_4.out)
      have HB4 := Aside0.mk (HB.out.trans (hb_.mono HB.out.size))
      have BM4 := Aside0.mk (blk_below BM.out hb_)
      have BN4 := Aside0.mk (blk_below BN.out hb_)
      have MM4 := Aside0.mk (MM.out.below hb_)
      have SZ4 := Aside0.mk hb_.size
      rw [← hy_]
      clear hy_ hb_
      refine hK.out _ _ ⟨(blk_cell BN4.out 0).trans rfl, (blk_cell BN4.out 1).trans rfl, (blk_cell BN4.out 2).trans rfl, (blk_cell BN4.out 3).trans rfl⟩ (fun hHeld => ?_)
      clear hK K
      refine norm_ (a' := ?_) ?_ ?_
      rotate_left
      · show Act.put _ (some 4) _ = _
        simp only [Act.put, List.setIfInBounds_toArray, List.set_cons_zero, List.set_cons_succ, i64_w, i32_w]
        rfl
      refine two_ (i := 1) (j := 5) (Ni := some 11) (Nj := some 5) #[true, true, true, false, true, false, false, false] #[true, false, true, false, true, true, false, false] rfl rfl rfl rfl (by kernel_rfl) (by decide) (by decide) (fun K hK => ?_) (fun K hK => ?_)
      · skip
        refine goes_ Try.func6 (by kernel_rfl) rfl #[.agg #[.slice N0 l0_0.length cn0, .slice N1 l0_1.length cn1, .slice N2 l0_2.length cn2, .int .i64 a0_3]] (by rfl) rfl rfl (by simp only [List.map_toArray, List.map_cons, List.map_nil]; rfl) ?_
        refine (module_Copy.calls N0 cn0 l0_0 N1 cn1 l0_1 N2 cn2 l0_2 a0_3 l0_0 l0_1 l0_2 a0_3 y4 (Kd.R_reads' MM4.out.r0).2.2 (Kd.R_reads' MM4.out.r0).2.1 (Kd.R_reads' MM4.out.r1).2.2 (Kd.R_reads' MM4.out.r1).2.1 (Kd.R_reads' MM4.out.r2).2.2 (Kd.R_reads' MM4.out.r2).2.1 HMC.out).mono ?_
        rintro e y41 ⟨a0, a1, a2, rfl, hq0, hq1, hq2, hb_⟩
        refine ⟨_, rfl, ?_⟩
        have MV1_41 := Aside0.mk (MV.told hq0 hq1 hq2)
        have HB41 := Aside0.mk (HB4.out.trans (hb_.mono HB4.out.size))
        have BM41 := Aside0.mk (blk_below BM4.out hb_)
        have BN41 := Aside0.mk (blk_below BN4.out hb_)
        have MM41 := Aside0.mk (MM4.out.below hb_)
        have SZ41 := Aside0.mk hb_.size
        have BX4_41 := Aside0.mk (blk_below BX4_4.out hb_)
        clear hq0 hq1 hq2 hb_
        refine hK.out _ _ ⟨(blk_cell BN41.out 0).trans rfl, (blk_cell BN41.out 1).trans rfl, (blk_cell BN41.out 2).trans rfl, (blk_cell BN41.out 3).trans rfl⟩ (fun hHeld => ?_)
        clear hK K
        refine norm_ (a' := ?_) ?_ ?_
        rotate_left
        · show Act.put _ (some 11) _ = _
          simp only [Act.put, List.setIfInBounds_toArray, List.set_cons_zero, List.set_cons_succ, i64_w, i32_w]
          rfl
        refine two_ (i := 3) (j := 5) (Ni := some 13) (Nj := some 5) #[true, true, true, true, true, false, false, false] #[true, true, true, false, true, true, false, false] rfl rfl rfl rfl (by kernel_rfl) (by decide) (by decide) (fun K hK => ?_) (fun K hK => ?_)
        · skip
          refine goes_ Try.func6 (by kernel_rfl) rfl #[.agg #[.slice N0 l0_0.length cn0, .slice N1 l0_1.length cn1, .slice N2 l0_2.length cn2, .int .i64 a0_3]] (by rfl) rfl rfl (by simp only [List.map_toArray, List.map_cons, List.map_nil]; rfl) ?_
          refine (module_Copy.calls N0 cn0 l0_0 N1 cn1 l0_1 N2 cn2 l0_2 a0_3 l0_0 l0_1 l0_2 a0_3 y41 (Kd.R_reads' MM41.out.r0).2.2 (Kd.R_reads' MM41.out.r0).2.1 (Kd.R_reads' MM41.out.r1).2.2 (Kd.R_reads' MM41.out.r1).2.1 (Kd.R_reads' MM41.out.r2).2.2 (Kd.R_reads' MM41.out.r2).2.1 HMC.out).mono ?_
          rintro e y413 ⟨b0, b1, b2, rfl, hq0, hq1, hq2, hb_⟩
          refine ⟨_, rfl, ?_⟩
          have MV3_413 := Aside0.mk (MV.told hq0 hq1 hq2)
          have HB413 := Aside0.mk (HB41.out.trans (hb_.mono HB41.out.size))
          have BM413 := Aside0.mk (blk_below BM41.out hb_)
          have BN413 := Aside0.mk (blk_below BN41.out hb_)
          have MM413 := Aside0.mk (MM41.out.below hb_)
          have SZ413 := Aside0.mk hb_.size
          have BX4_413 := Aside0.mk (blk_below BX4_41.out hb_)
          have MV1_413 := Aside0.mk (MV1_41.out.below hb_)
          clear hq0 hq1 hq2 hb_
          refine hK.out _ _ ⟨(blk_cell BN413.out 0).trans rfl, (blk_cell BN413.out 1).trans rfl, (blk_cell BN413.out 2).trans rfl, (blk_cell BN413.out 3).trans rfl⟩ (fun hHeld => ?_)
          clear hK K
          refine norm_ (a' := ?_) ?_ ?_
          rotate_left
          · show Act.put _ (some 13) _ = _
            simp only [Act.put, List.setIfInBounds_toArray, List.set_cons_zero, List.set_cons_succ, i64_w, i32_w]
            rfl
          refine one_ (i := 5) (N := some 5) #[true, true, true, true, true, true, false, false] rfl rfl (by kernel_rfl) (by decide) (fun K hK => ?_)
          refine value_ (w1 := ?_) (v := ?_) (by rfl) rfl ?_ ?_
          rotate_left 2
          · go_simp
            constructor
            · rfl
            · rfl
          obtain ⟨y4135, hy_⟩ : ∃ y_, y_ = y413.alloc (.cells #[.slice none 0 0, .slice none 0 0, .slice none 0 0, .int .i64 0] 25) := ⟨_, rfl⟩
          have hb_ : Below y413.heap.size y413 y4135 := by rw [hy_]; exact below_alloc (Below.refl _ _) _
          have BX5_4135 : Aside0 (y4135.heap[y413.heap.size]? = some (.cells #[.slice none 0 0, .slice none 0 0, .slice none 0 0, .int .i64 0] 25 (0, 0))) := ⟨by rw [hy_]; exact blk_new _ _⟩
          have LX5_4135 := Aside0.mk (blk_lt BX5_4135.out)
          have HB4135 := Aside0.mk (HB413.out.trans (hb_.mono HB413.out.size))
          have BM4135 := Aside0.mk (blk_below BM413.out hb_)
          have BN4135 := Aside0.mk (blk_below BN413.out hb_)
          have MM4135 := Aside0.mk (MM413.out.below hb_)
          have SZ4135 := Aside0.mk hb_.size
          have BX4_4135 := Aside0.mk (blk_below BX4_413.out hb_)
          have MV1_4135 := Aside0.mk (MV1_413.out.below hb_)
          have MV3_4135 := Aside0.mk (MV3_413.out.below hb_)
          rw [← hy_]
          clear hy_ hb_
          refine hK.out _ _ ⟨(blk_cell BN4135.out 0).trans rfl, (blk_cell BN4135.out 1).trans rfl, (blk_cell BN4135.out 2).trans rfl, (blk_cell BN4135.out 3).trans rfl⟩ (fun hHeld => ?_)
          clear hK K
          refine norm_ (a' := ?_) ?_ ?_
          rotate_left
          · show Act.put _ (some 5) _ = _
            simp only [Act.put, List.setIfInBounds_toArray, List.set_cons_zero, List.set_cons_succ, i64_w, i32_w]
            rfl
          exact norm_ (by simp only [putAll, Act.put, List.setIfInBounds_toArray, List.set_cons_zero, List.set_cons_succ]) (hCont (a0, a1, a2, b0, b1, b2, y4.heap.size, y41.heap.size, y41.heap.size, y413.heap.size, wd.heap.size, y413.heap.size) _ (by dsimp only; have z0 := SZ4.out; have z1 := SZ41.out; have z2 := SZ413.out; have z3 := SZ4135.out; have l4 := LX4_4.out;  have l5 := LX5_4135.out; have h0 := LGN.out; exact ⟨HB4135.out, BM4135.out, BN4135.out, MM4135.out, MV1_4135.out, MV3_4135.out, BX4_4135.out, BX5_4135.out, by omega, by omega, by omega, by omega, by omega, by omega, by omega, by omega⟩))
        · skip
          refine value_ (w1 := ?_) (v := ?_) (by rfl) rfl ?_ ?_
          rotate_left 2
          · go_simp
            constructor
            · rfl
            · rfl
          obtain ⟨y415, hy_⟩ : ∃ y_, y_ = y41.alloc (.cells #[.slice none 0 0, .slice none 0 0, .slice none 0 0, .int .i64 0] 25) := ⟨_, rfl⟩
          have hb_ : Below y41.heap.size y41 y415 := by rw [hy_]; exact below_alloc (Below.refl _ _) _
          have BX5_415 : Aside0 (y415.heap[y41.heap.size]? = some (.cells #[.slice none 0 0, .slice none 0 0, .slice none 0 0, .int .i64 0] 25 (0, 0))) := ⟨by rw [hy_]; exact blk_new _ _⟩
          have LX5_415 := Aside0.mk (blk_lt BX5_415.out)
          have HB415 := Aside0.mk (HB41.out.trans (hb_.mono HB41.out.size))
          have BM415 := Aside0.mk (blk_below BM41.out hb_)
          have BN415 := Aside0.mk (blk_below BN41.out hb_)
          have MM415 := Aside0.mk (MM41.out.below hb_)
          have SZ415 := Aside0.mk hb_.size
          have BX4_415 := Aside0.mk (blk_below BX4_41.out hb_)
          have MV1_415 := Aside0.mk (MV1_41.out.below hb_)
          rw [← hy_]
          clear hy_ hb_
          refine hK.out _ _ ⟨(blk_cell BN415.out 0).trans rfl, (blk_cell BN415.out 1).trans rfl, (blk_cell BN415.out 2).trans rfl, (blk_cell BN415.out 3).trans rfl⟩ (fun hHeld => ?_)
          clear hK K
          refine norm_ (a' := ?_) ?_ ?_
          rotate_left
          · show Act.put _ (some 5) _ = _
            simp only [Act.put, List.setIfInBounds_toArray, List.set_cons_zero, List.set_cons_succ, i64_w, i32_w]
            rfl
          refine one_ (i := 3) (N := some 13) #[true, true, true, true, true, true, false, false] rfl rfl (by kernel_rfl) (by decide) (fun K hK => ?_)
          refine goes_ Try.func6 (by kernel_rfl) rfl #[.agg #[.slice N0 l0_0.length cn0, .slice N1 l0_1.length cn1, .slice N2 l0_2.length cn2, .int .i64 a0_3]] (by rfl) rfl rfl (by simp only [List.map_toArray, List.map_cons, List.map_nil]; rfl) ?_
          refine (module_Copy.calls N0 cn0 l0_0 N1 cn1 l0_1 N2 cn2 l0_2 a0_3 l0_0 l0_1 l0_2 a0_3 y415 (Kd.R_reads' MM415.out.r0).2.2 (Kd.R_reads' MM415.out.r0).2.1 (Kd.R_reads' MM415.out.r1).2.2 (Kd.R_reads' MM415.out.r1).2.1 (Kd.R_reads' MM415.out.r2).2.2 (Kd.R_reads' MM415.out.r2).2.1 HMC.out).mono ?_
          rintro e y4153 ⟨b0, b1, b2, rfl, hq0, hq1, hq2, hb_⟩
          refine ⟨_, rfl, ?_⟩
          have MV3_4153 := Aside0.mk (MV.told hq0 hq1 hq2)
          have HB4153 := Aside0.mk (HB415.out.trans (hb_.mono HB415.out.size))
          have BM4153 := Aside0.mk (blk_below BM415.out hb_)
          have BN4153 := Aside0.mk (blk_below BN415.out hb_)
          have MM4153 := Aside0.mk (MM415.out.below hb_)
          have SZ4153 := Aside0.mk hb_.size
          have BX4_4153 := Aside0.mk (blk_below BX4_415.out hb_)
          have MV1_4153 := Aside0.mk (MV1_415.out.below hb_)
          have BX5_4153 := Aside0.mk (blk_below BX5_415.out hb_)
          clear hq0 hq1 hq2 hb_
          refine hK.out _ _ ⟨(blk_cell BN4153.out 0).trans rfl, (blk_cell BN4153.out 1).trans rfl, (blk_cell BN4153.out 2).trans rfl, (blk_cell BN4153.out 3).trans rfl⟩ (fun hHeld => ?_)
          clear hK K
          refine norm_ (a' := ?_) ?_ ?_
          rotate_left
          · show Act.put _ (some 13) _ = _
            simp only [Act.put, List.setIfInBounds_toArray, List.set_cons_zero, List.set_cons_succ, i64_w, i32_w]
            rfl
          exact norm_ (by simp only [putAll, Act.put, List.setIfInBounds_toArray, List.set_cons_zero, List.set_cons_succ]) (hCont (a0, a1, a2, b0, b1, b2, y4.heap.size, y41.heap.size, y415.heap.size, y4153.heap.size, wd.heap.size, y41.heap.size) _ (by dsimp only; have z0 := SZ4.out; have z1 := SZ41.out; have z2 := SZ415.out; have z3 := SZ4153.out; have l4 := LX4_4.out;  have l5 := LX5_415.out; have h0 := LGN.out; exact ⟨HB4153.out, BM4153.out, BN4153.out, MM4153.out, MV1_4153.out, MV3_4153.out, BX4_4153.out, BX5_4153.out, by omega, by omega, by omega, by omega, by omega, by omega, by omega, by omega⟩))
      · skip
        refine value_ (w1 := ?_) (v := ?_) (by rfl) rfl ?_ ?_
        rotate_left 2
        · go_simp
          constructor
          · rfl
          · rfl
        obtain ⟨y45, hy_⟩ : ∃ y_, y_ = y4.alloc (.cells #[.slice none 0 0, .slice none 0 0, .slice none 0 0, .int .i64 0] 25) := ⟨_, rfl⟩
        have hb_ : Below y4.heap.size y4 y45 := by rw [hy_]; exact below_alloc (Below.refl _ _) _
        have BX5_45 : Aside0 (y45.heap[y4.heap.size]? = some (.cells #[.slice none 0 0, .slice none 0 0, .slice none 0 0, .int .i64 0] 25 (0, 0))) := ⟨by rw [hy_]; exact blk_new _ _⟩
        have LX5_45 := Aside0.mk (blk_lt BX5_45.out)
        have HB45 := Aside0.mk (HB4.out.trans (hb_.mono HB4.out.size))
        have BM45 := Aside0.mk (blk_below BM4.out hb_)
        have BN45 := Aside0.mk (blk_below BN4.out hb_)
        have MM45 := Aside0.mk (MM4.out.below hb_)
        have SZ45 := Aside0.mk hb_.size
        have BX4_45 := Aside0.mk (blk_below BX4_4.out hb_)
        rw [← hy_]
        clear hy_ hb_
        refine hK.out _ _ ⟨(blk_cell BN45.out 0).trans rfl, (blk_cell BN45.out 1).trans rfl, (blk_cell BN45.out 2).trans rfl, (blk_cell BN45.out 3).trans rfl⟩ (fun hHeld => ?_)
        clear hK K
        refine norm_ (a' := ?_) ?_ ?_
        rotate_left
        · show Act.put _ (some 5) _ = _
          simp only [Act.put, List.setIfInBounds_toArray, List.set_cons_zero, List.set_cons_succ, i64_w, i32_w]
          rfl
        refine one_ (i := 1) (N := some 11) #[true, true, true, false, true, true, false, false] rfl rfl (by kernel_rfl) (by decide) (fun K hK => ?_)
        refine goes_ Try.func6 (by kernel_rfl) rfl #[.agg #[.slice N0 l0_0.length cn0, .slice N1 l0_1.length cn1, .slice N2 l0_2.length cn2, .int .i64 a0_3]] (by rfl) rfl rfl (by simp only [List.map_toArray, List.map_cons, List.map_nil]; rfl) ?_
        refine (module_Copy.calls N0 cn0 l0_0 N1 cn1 l0_1 N2 cn2 l0_2 a0_3 l0_0 l0_1 l0_2 a0_3 y45 (Kd.R_reads' MM45.out.r0).2.2 (Kd.R_reads' MM45.out.r0).2.1 (Kd.R_reads' MM45.out.r1).2.2 (Kd.R_reads' MM45.out.r1).2.1 (Kd.R_reads' MM45.out.r2).2.2 (Kd.R_reads' MM45.out.r2).2.1 HMC.out).mono ?_
        rintro e y451 ⟨a0, a1, a2, rfl, hq0, hq1, hq2, hb_⟩
        refine ⟨_, rfl, ?_⟩
        have MV1_451 := Aside0.mk (MV.told hq0 hq1 hq2)
        have HB451 := Aside0.mk (HB45.out.trans (hb_.mono HB45.out.size))
        have BM451 := Aside0.mk (blk_below BM45.out hb_)
        have BN451 := Aside0.mk (blk_below BN45.out hb_)
        have MM451 := Aside0.mk (MM45.out.below hb_)
        have SZ451 := Aside0.mk hb_.size
        have BX4_451 := Aside0.mk (blk_below BX4_45.out hb_)
        have BX5_451 := Aside0.mk (blk_below BX5_45.out hb_)
        clear hq0 hq1 hq2 hb_
        refine hK.out _ _ ⟨(blk_cell BN451.out 0).trans rfl, (blk_cell BN451.out 1).trans rfl, (blk_cell BN451.out 2).trans rfl, (blk_cell BN451.out 3).trans rfl⟩ (fun hHeld => ?_)
        clear hK K
        refine norm_ (a' := ?_) ?_ ?_
        rotate_left
        · show Act.put _ (some 11) _ = _
          simp only [Act.put, List.setIfInBounds_toArray, List.set_cons_zero, List.set_cons_succ, i64_w, i32_w]
          rfl
        refine one_ (i := 3) (N := some 13) #[true, true, true, true, true, true, false, false] rfl rfl (by kernel_rfl) (by decide) (fun K hK => ?_)
        refine goes_ Try.func6 (by kernel_rfl) rfl #[.agg #[.slice N0 l0_0.length cn0, .slice N1 l0_1.length cn1, .slice N2 l0_2.length cn2, .int .i64 a0_3]] (by rfl) rfl rfl (by simp only [List.map_toArray, List.map_cons, List.map_nil]; rfl) ?_
        refine (module_Copy.calls N0 cn0 l0_0 N1 cn1 l0_1 N2 cn2 l0_2 a0_3 l0_0 l0_1 l0_2 a0_3 y451 (Kd.R_reads' MM451.out.r0).2.2 (Kd.R_reads' MM451.out.r0).2.1 (Kd.R_reads' MM451.out.r1).2.2 (Kd.R_reads' MM451.out.r1).2.1 (Kd.R_reads' MM451.out.r2).2.2 (Kd.R_reads' MM451.out.r2).2.1 HMC.out).mono ?_
        rintro e y4513 ⟨b0, b1, b2, rfl, hq0, hq1, hq2, hb_⟩
        refine ⟨_, rfl, ?_⟩
        have MV3_4513 := Aside0.mk (MV.told hq0 hq1 hq2)
        have HB4513 := Aside0.mk (HB451.out.trans (hb_.mono HB451.out.size))
        have BM4513 := Aside0.mk (blk_below BM451.out hb_)
        have BN4513 := Aside0.mk (blk_below BN451.out hb_)
        have MM4513 := Aside0.mk (MM451.out.below hb_)
        have SZ4513 := Aside0.mk hb_.size
        have BX4_4513 := Aside0.mk (blk_below BX4_451.out hb_)
        have BX5_4513 := Aside0.mk (blk_below BX5_451.out hb_)
        have MV1_4513 := Aside0.mk (MV1_451.out.below hb_)
        clear hq0 hq1 hq2 hb_
        refine hK.out _ _ ⟨(blk_cell BN4513.out 0).trans rfl, (blk_cell BN4513.out 1).trans rfl, (blk_cell BN4513.out 2).trans rfl, (blk_cell BN4513.out 3).trans rfl⟩ (fun hHeld => ?_)
        clear hK K
        refine norm_ (a' := ?_) ?_ ?_
        rotate_left
        · show Act.put _ (some 13) _ = _
          simp only [Act.put, List.setIfInBounds_toArray, List.set_cons_zero, List.set_cons_succ, i64_w, i32_w]
          rfl
        exact norm_ (by simp only [putAll, Act.put, List.setIfInBounds_toArray, List.set_cons_zero, List.set_cons_succ]) (hCont (a0, a1, a2, b0, b1, b2, y45.heap.size, y451.heap.size, y451.heap.size, y4513.heap.size, wd.heap.size, y4.heap.size) _ (by dsimp only; have z0 := SZ4.out; have z1 := SZ45.out; have z2 := SZ451.out; have z3 := SZ4513.out; have l4 := LX4_4.out;  have l5 := LX5_45.out; have h0 := LGN.out; exact ⟨HB4513.out, BM4513.out, BN4513.out, MM4513.out, MV1_4513.out, MV3_4513.out, BX4_4513.out, BX5_4513.out, by omega, by omega, by omega, by omega, by omega, by omega, by omega, by omega⟩))
    · skip
      refine value_ (w1 := ?_) (v := ?_) (by rfl) rfl ?_ ?_
      rotate_left 2
      · go_simp
        constructor
        · rfl
        · rfl
      obtain ⟨y5, hy_⟩ : ∃ y_, y_ = wd.alloc (.cells #[.slice none 0 0, .slice none 0 0, .slice none 0 0, .int .i64 0] 25) := ⟨_, rfl⟩
      have hb_ : Below wd.heap.size wd y5 := by rw [hy_]; exact below_alloc (Below.refl _ _) _
      have BX5_5 : Aside0 (y5.heap[wd.heap.size]? = some (.cells #[.slice none 0 0, .slice none 0 0, .slice none 0 0, .int .i64 0] 25 (0, 0))) := ⟨by rw [hy_]; exact blk_new _ _⟩
      have LX5_5 := Aside0.mk (blk_lt BX5_5.out)
      have HB5 := Aside0.mk (HB.out.trans (hb_.mono HB.out.size))
      have BM5 := Aside0.mk (blk_below BM.out hb_)
      have BN5 := Aside0.mk (blk_below BN.out hb_)
      have MM5 := Aside0.mk (MM.out.below hb_)
      have SZ5 := Aside0.mk hb_.size
      rw [← hy_]
      clear hy_ hb_
      refine hK.out _ _ ⟨(blk_cell BN5.out 0).trans rfl, (blk_cell BN5.out 1).trans rfl, (blk_cell BN5.out 2).trans rfl, (blk_cell BN5.out 3).trans rfl⟩ (fun hHeld => ?_)
      clear hK K
      refine norm_ (a' := ?_) ?_ ?_
      rotate_left
      · show Act.put _ (some 5) _ = _
        simp only [Act.put, List.setIfInBounds_toArray, List.set_cons_zero, List.set_cons_succ, i64_w, i32_w]
        rfl
      refine two_ (i := 1) (j := 4) (Ni := some 11) (Nj := some 4) #[true, true, true, false, false, true, false, false] #[true, false, true, false, true, true, false, false] rfl rfl rfl rfl (by kernel_rfl) (by decide) (by decide) (fun K hK => ?_) (fun K hK => ?_)
      · skip
        refine goes_ Try.func6 (by kernel_rfl) rfl #[.agg #[.slice N0 l0_0.length cn0, .slice N1 l0_1.length cn1, .slice N2 l0_2.length cn2, .int .i64 a0_3]] (by rfl) rfl rfl (by simp only [List.map_toArray, List.map_cons, List.map_nil]; rfl) ?_
        refine (module_Copy.calls N0 cn0 l0_0 N1 cn1 l0_1 N2 cn2 l0_2 a0_3 l0_0 l0_1 l0_2 a0_3 y5 (Kd.R_reads' MM5.out.r0).2.2 (Kd.R_reads' MM5.out.r0).2.1 (Kd.R_reads' MM5.out.r1).2.2 (Kd.R_reads' MM5.out.r1).2.1 (Kd.R_reads' MM5.out.r2).2.2 (Kd.R_reads' MM5.out.r2).2.1 HMC.out).mono ?_
        rintro e y51 ⟨a0, a1, a2, rfl, hq0, hq1, hq2, hb_⟩
        refine ⟨_, rfl, ?_⟩
        have MV1_51 := Aside0.mk (MV.told hq0 hq1 hq2)
        have HB51 := Aside0.mk (HB5.out.trans (hb_.mono HB5.out.size))
        have BM51 := Aside0.mk (blk_below BM5.out hb_)
        have BN51 := Aside0.mk (blk_below BN5.out hb_)
        have MM51 := Aside0.mk (MM5.out.below hb_)
        have SZ51 := Aside0.mk hb_.size
        have BX5_51 := Aside0.mk (blk_below BX5_5.out hb_)
        clear hq0 hq1 hq2 hb_
        refine hK.out _ _ ⟨(blk_cell BN51.out 0).trans rfl, (blk_cell BN51.out 1).trans rfl, (blk_cell BN51.out 2).trans rfl, (blk_cell BN51.out 3).trans rfl⟩ (fun hHeld => ?_)
        clear hK K
        refine norm_ (a' := ?_) ?_ ?_
        rotate_left
        · show Act.put _ (some 11) _ = _
          simp only [Act.put, List.setIfInBounds_toArray, List.set_cons_zero, List.set_cons_succ, i64_w, i32_w]
          rfl
        refine two_ (i := 3) (j := 4) (Ni := some 13) (Nj := some 4) #[true, true, true, true, false, true, false, false] #[true, true, true, false, true, true, false, false] rfl rfl rfl rfl (by kernel_rfl) (by decide) (by decide) (fun K hK => ?_) (fun K hK => ?_)
        · skip
          refine goes_ Try.func6 (by kernel_rfl) rfl #[.agg #[.slice N0 l0_0.length cn0, .slice N1 l0_1.length cn1, .slice N2 l0_2.length cn2, .int .i64 a0_3]] (by rfl) rfl rfl (by simp only [List.map_toArray, List.map_cons, List.map_nil]; rfl) ?_
          refine (module_Copy.calls N0 cn0 l0_0 N1 cn1 l0_1 N2 cn2 l0_2 a0_3 l0_0 l0_1 l0_2 a0_3 y51 (Kd.R_reads' MM51.out.r0).2.2 (Kd.R_reads' MM51.out.r0).2.1 (Kd.R_reads' MM51.out.r1).2.2 (Kd.R_reads' MM51.out.r1).2.1 (Kd.R_reads' MM51.out.r2).2.2 (Kd.R_reads' MM51.out.r2).2.1 HMC.out).mono ?_
          rintro e y513 ⟨b0, b1, b2, rfl, hq0, hq1, hq2, hb_⟩
          refine ⟨_, rfl, ?_⟩
          have MV3_513 := Aside0.mk (MV.told hq0 hq1 hq2)
          have HB513 := Aside0.mk (HB51.out.trans (hb_.mono HB51.out.size))
          have BM513 := Aside0.mk (blk_below BM51.out hb_)
          have BN513 := Aside0.mk (blk_below BN51.out hb_)
          have MM513 := Aside0.mk (MM51.out.below hb_)
          have SZ513 := Aside0.mk hb_.size
          have BX5_513 := Aside0.mk (blk_below BX5_51.out hb_)
          have MV1_513 := Aside0.mk (MV1_51.out.below hb_)
          clear hq0 hq1 hq2 hb_
          refine hK.out _ _ ⟨(blk_cell BN513.out 0).trans rfl, (blk_cell BN513.out 1).trans rfl, (blk_cell BN513.out 2).trans rfl, (blk_cell BN513.out 3).trans rfl⟩ (fun hHeld => ?_)
          clear hK K
          refine norm_ (a' := ?_) ?_ ?_
          rotate_left
          · show Act.put _ (some 13) _ = _
            simp only [Act.put, List.setIfInBounds_toArray, List.set_cons_zero, List.set_cons_succ, i64_w, i32_w]
            rfl
          refine one_ (i := 4) (N := some 4) #[true, true, true, true, true, true, false, false] rfl rfl (by kernel_rfl) (by decide) (fun K hK => ?_)
          refine value_ (w1 := ?_) (v := ?_) (by rfl) rfl ?_ ?_
          rotate_left 2
          · go_simp
            constructor
            · rfl
            · rfl
          obtain ⟨y5134, hy_⟩ : ∃ y_, y_ = y513.alloc (.cells #[.slice none 0 0, .slice none 0 0, .slice none 0 0, .int .i64 0] 25) := ⟨_, rfl⟩
          have hb_ : Below y513.heap.size y513 y5134 := by rw [hy_]; exact below_alloc (Below.refl _ _) _
          have BX4_5134 : Aside0 (y5134.heap[y513.heap.size]? = some (.cells #[.slice none 0 0, .slice none 0 0, .slice none 0 0, .int .i64 0] 25 (0, 0))) := ⟨by rw [hy_]; exact blk_new _ _⟩
          have LX4_5134 := Aside0.mk (blk_lt BX4_5134.out)
          have HB5134 := Aside0.mk (HB513.out.trans (hb_.mono HB513.out.size))
          have BM5134 := Aside0.mk (blk_below BM513.out hb_)
          have BN5134 := Aside0.mk (blk_below BN513.out hb_)
          have MM5134 := Aside0.mk (MM513.out.below hb_)
          have SZ5134 := Aside0.mk hb_.size
          have BX5_5134 := Aside0.mk (blk_below BX5_513.out hb_)
          have MV1_5134 := Aside0.mk (MV1_513.out.below hb_)
          have MV3_5134 := Aside0.mk (MV3_513.out.below hb_)
          rw [← hy_]
          clear hy_ hb_
          refine hK.out _ _ ⟨(blk_cell BN5134.out 0).trans rfl, (blk_cell BN5134.out 1).trans rfl, (blk_cell BN5134.out 2).trans rfl, (blk_cell BN5134.out 3).trans rfl⟩ (fun hHeld => ?_)
          clear hK K
          refine norm_ (a' := ?_) ?_ ?_
          rotate_left
          · show Act.put _ (some 4) _ = _
            simp only [Act.put, List.setIfInBounds_toArray, List.set_cons_zero, List.set_cons_succ, i64_w, i32_w]
            rfl
          exact norm_ (by simp only [putAll, Act.put, List.setIfInBounds_toArray, List.set_cons_zero, List.set_cons_succ]) (hCont (a0, a1, a2, b0, b1, b2, y5.heap.size, y51.heap.size, y51.heap.size, y513.heap.size, y513.heap.size, wd.heap.size) _ (by dsimp only; have z0 := SZ5.out; have z1 := SZ51.out; have z2 := SZ513.out; have z3 := SZ5134.out; have l4 := LX4_5134.out;  have l5 := LX5_5.out; have h0 := LGN.out; exact ⟨HB5134.out, BM5134.out, BN5134.out, MM5134.out, MV1_5134.out, MV3_5134.out, BX4_5134.out, BX5_5134.out, by omega, by omega, by omega, by omega, by omega, by omega, by omega, by omega⟩))
        · skip
          refine value_ (w1 := ?_) (v := ?_) (by rfl) rfl ?_ ?_
          rotate_left 2
          · go_simp
            constructor
            · rfl
            · rfl
          obtain ⟨y514, hy_⟩ : ∃ y_, y_ = y51.alloc (.cells #[.slice none 0 0, .slice none 0 0, .slice none 0 0, .int .i64 0] 25) := ⟨_, rfl⟩
          have hb_ : Below y51.heap.size y51 y514 := by rw [hy_]; exact below_alloc (Below.refl _ _) _
          have BX4_514 : Aside0 (y514.heap[y51.heap.size]? = some (.cells #[.slice none 0 0, .slice none 0 0, .slice none 0 0, .int .i64 0] 25 (0, 0))) := ⟨by rw [hy_]; exact blk_new _ _⟩
          have LX4_514 := Aside0.mk (blk_lt BX4_514.out)
          have HB514 := Aside0.mk (HB51.out.trans (hb_.mono HB51.out.size))
          have BM514 := Aside0.mk (blk_below BM51.out hb_)
          have BN514 := Aside0.mk (blk_below BN51.out hb_)
          have MM514 := Aside0.mk (MM51.out.below hb_)
          have SZ514 := Aside0.mk hb_.size
          have BX5_514 := Aside0.mk (blk_below BX5_51.out hb_)
          have MV1_514 := Aside0.mk (MV1_51.out.below hb_)
          rw [← hy_]
          clear hy_ hb_
          refine hK.out _ _ ⟨(blk_cell BN514.out 0).trans rfl, (blk_cell BN514.out 1).trans rfl, (blk_cell BN514.out 2).trans rfl, (blk_cell BN514.out 3).trans rfl⟩ (fun hHeld => ?_)
          clear hK K
          refine norm_ (a' := ?_) ?_ ?_
          rotate_left
          · show Act.put _ (some 4) _ = _
            simp only [Act.put, List.setIfInBounds_toArray, List.set_cons_zero, List.set_cons_succ, i64_w, i32_w]
            rfl
          refine one_ (i := 3) (N := some 13) #[true, true, true, true, true, true, false, false] rfl rfl (by kernel_rfl) (by decide) (fun K hK => ?_)
          refine goes_ Try.func6 (by kernel_rfl) rfl #[.agg #[.slice N0 l0_0.length cn0, .slice N1 l0_1.length cn1, .slice N2 l0_2.length cn2, .int .i64 a0_3]] (by rfl) rfl rfl (by simp only [List.map_toArray, List.map_cons, List.map_nil]; rfl) ?_
          refine (module_Copy.calls N0 cn0 l0_0 N1 cn1 l0_1 N2 cn2 l0_2 a0_3 l0_0 l0_1 l0_2 a0_3 y514 (Kd.R_reads' MM514.out.r0).2.2 (Kd.R_reads' MM514.out.r0).2.1 (Kd.R_reads' MM514.out.r1).2.2 (Kd.R_reads' MM514.out.r1).2.1 (Kd.R_reads' MM514.out.r2).2.2 (Kd.R_reads' MM514.out.r2).2.1 HMC.out).mono ?_
          rintro e y5143 ⟨b0, b1, b2, rfl, hq0, hq1, hq2, hb_⟩
          refine ⟨_, rfl, ?_⟩
          have MV3_5143 := Aside0.mk (MV.told hq0 hq1 hq2)
          have HB5143 := Aside0.mk (HB514.out.trans (hb_.mono HB514.out.size))
          have BM5143 := Aside0.mk (blk_below BM514.out hb_)
          have BN5143 := Aside0.mk (blk_below BN514.out hb_)
          have MM5143 := Aside0.mk (MM514.out.below hb_)
          have SZ5143 := Aside0.mk hb_.size
          have BX5_5143 := Aside0.mk (blk_below BX5_514.out hb_)
          have MV1_5143 := Aside0.mk (MV1_514.out.below hb_)
          have BX4_5143 := Aside0.mk (blk_below BX4_514.out hb_)
          clear hq0 hq1 hq2 hb_
          refine hK.out _ _ ⟨(blk_cell BN5143.out 0).trans rfl, (blk_cell BN5143.out 1).trans rfl, (blk_cell BN5143.out 2).trans rfl, (blk_cell BN5143.out 3).trans rfl⟩ (fun hHeld => ?_)
          clear hK K
          refine norm_ (a' := ?_) ?_ ?_
          rotate_left
          · show Act.put _ (some 13) _ = _
            simp only [Act.put, List.setIfInBounds_toArray, List.set_cons_zero, List.set_cons_succ, i64_w, i32_w]
            rfl
          exact norm_ (by simp only [putAll, Act.put, List.setIfInBounds_toArray, List.set_cons_zero, List.set_cons_succ]) (hCont (a0, a1, a2, b0, b1, b2, y5.heap.size, y51.heap.size, y514.heap.size, y5143.heap.size, y51.heap.size, wd.heap.size) _ (by dsimp only; have z0 := SZ5.out; have z1 := SZ51.out; have z2 := SZ514.out; have z3 := SZ5143.out; have l4 := LX4_514.out;  have l5 := LX5_5.out; have h0 := LGN.out; exact ⟨HB5143.out, BM5143.out, BN5143.out, MM5143.out, MV1_5143.out, MV3_5143.out, BX4_5143.out, BX5_5143.out, by omega, by omega, by omega, by omega, by omega, by omega, by omega, by omega⟩))
      · skip
        refine value_ (w1 := ?_) (v := ?_) (by rfl) rfl ?_ ?_
        rotate_left 2
        · go_simp
          constructor
          · rfl
          · rfl
        obtain ⟨y54, hy_⟩ : ∃ y_, y_ = y5.alloc (.cells #[.slice none 0 0, .slice none 0 0, .slice none 0 0, .int .i64 0] 25) := ⟨_, rfl⟩
        have hb_ : Below y5.heap.size y5 y54 := by rw [hy_]; exact below_alloc (Below.refl _ _) _
        have BX4_54 : Aside0 (y54.heap[y5.heap.size]? = some (.cells #[.slice none 0 0, .slice none 0 0, .slice none 0 0, .int .i64 0] 25 (0, 0))) := ⟨by rw [hy_]; exact blk_new _ _⟩
        have LX4_54 := Aside0.mk (blk_lt BX4_54.out)
        have HB54 := Aside0.mk (HB5.out.trans (hb_.mono HB5.out.size))
        have BM54 := Aside0.mk (blk_below BM5.out hb_)
        have BN54 := Aside0.mk (blk_below BN5.out hb_)
        have MM54 := Aside0.mk (MM5.out.below hb_)
        have SZ54 := Aside0.mk hb_.size
        have BX5_54 := Aside0.mk (blk_below BX5_5.out hb_)
        rw [← hy_]
        clear hy_ hb_
        refine hK.out _ _ ⟨(blk_cell BN54.out 0).trans rfl, (blk_cell BN54.out 1).trans rfl, (blk_cell BN54.out 2).trans rfl, (blk_cell BN54.out 3).trans rfl⟩ (fun hHeld => ?_)
        clear hK K
        refine norm_ (a' := ?_) ?_ ?_
        rotate_left
        · show Act.put _ (some 4) _ = _
          simp only [Act.put, List.setIfInBounds_toArray, List.set_cons_zero, List.set_cons_succ, i64_w, i32_w]
          rfl
        refine one_ (i := 1) (N := some 11) #[true, true, true, false, true, true, false, false] rfl rfl (by kernel_rfl) (by decide) (fun K hK => ?_)
        refine goes_ Try.func6 (by kernel_rfl) rfl #[.agg #[.slice N0 l0_0.length cn0, .slice N1 l0_1.length cn1, .slice N2 l0_2.length cn2, .int .i64 a0_3]] (by rfl) rfl rfl (by simp only [List.map_toArray, List.map_cons, List.map_nil]; rfl) ?_
        refine (module_Copy.calls N0 cn0 l0_0 N1 cn1 l0_1 N2 cn2 l0_2 a0_3 l0_0 l0_1 l0_2 a0_3 y54 (Kd.R_reads' MM54.out.r0).2.2 (Kd.R_reads' MM54.out.r0).2.1 (Kd.R_reads' MM54.out.r1).2.2 (Kd.R_reads' MM54.out.r1).2.1 (Kd.R_reads' MM54.out.r2).2.2 (Kd.R_reads' MM54.out.r2).2.1 HMC.out).mono ?_
        rintro e y541 ⟨a0, a1, a2, rfl, hq0, hq1, hq2, hb_⟩
        refine ⟨_, rfl, ?_⟩
        have MV1_541 := Aside0.mk (MV.told hq0 hq1 hq2)
        have HB541 := Aside0.mk (HB54.out.trans (hb_.mono HB54.out.size))
        have BM541 := Aside0.mk (blk_below BM54.out hb_)
        have BN541 := Aside0.mk (blk_below BN54.out hb_)
        have MM541 := Aside0.mk (MM54.out.below hb_)
        have SZ541 := Aside0.mk hb_.size
        have BX5_541 := Aside0.mk (blk_below BX5_54.out hb_)
        have BX4_541 := Aside0.mk (blk_below BX4_54.out hb_)
        clear hq0 hq1 hq2 hb_
        refine hK.out _ _ ⟨(blk_cell BN541.out 0).trans rfl, (blk_cell BN541.out 1).trans rfl, (blk_cell BN541.out 2).trans rfl, (blk_cell BN541.out 3).trans rfl⟩ (fun hHeld => ?_)
        clear hK K
        refine norm_ (a' := ?_) ?_ ?_
        rotate_left
        · show Act.put _ (some 11) _ = _
          simp only [Act.put, List.setIfInBounds_toArray, List.set_cons_zero, List.set_cons_succ, i64_w, i32_w]
          rfl
        refine one_ (i := 3) (N := some 13) #[true, true, true, true, true, true, false, false] rfl rfl (by kernel_rfl) (by decide) (fun K hK => ?_)
        refine goes_ Try.func6 (by kernel_rfl) rfl #[.agg #[.slice N0 l0_0.length cn0, .slice N1 l0_1.length cn1, .slice N2 l0_2.length cn2, .int .i64 a0_3]] (by rfl) rfl rfl (by simp only [List.map_toArray, List.map_cons, List.map_nil]; rfl) ?_
        refine (module_Copy.calls N0 cn0 l0_0 N1 cn1 l0_1 N2 cn2 l0_2 a0_3 l0_0 l0_1 l0_2 a0_3 y541 (Kd.R_reads' MM541.out.r0).2.2 (Kd.R_reads' MM541.out.r0).2.1 (Kd.R_reads' MM541.out.r1).2.2 (Kd.R_reads' MM541.out.r1).2.1 (Kd.R_reads' MM541.out.r2).2.2 (Kd.R_reads' MM541.out.r2).2.1 HMC.out).mono ?_
        rintro e y5413 ⟨b0, b1, b2, rfl, hq0, hq1, hq2, hb_⟩
        refine ⟨_, rfl, ?_⟩
        have MV3_5413 := Aside0.mk (MV.told hq0 hq1 hq2)
        have HB5413 := Aside0.mk (HB541.out.trans (hb_.mono HB541.out.size))
        have BM5413 := Aside0.mk (blk_below BM541.out hb_)
        have BN5413 := Aside0.mk (blk_below BN541.out hb_)
        have MM5413 := Aside0.mk (MM541.out.below hb_)
        have SZ5413 := Aside0.mk hb_.size
        have BX5_5413 := Aside0.mk (blk_below BX5_541.out hb_)
        have BX4_5413 := Aside0.mk (blk_below BX4_541.out hb_)
        have MV1_5413 := Aside0.mk (MV1_541.out.below hb_)
        clear hq0 hq1 hq2 hb_
        refine hK.out _ _ ⟨(blk_cell BN5413.out 0).trans rfl, (blk_cell BN5413.out 1).trans rfl, (blk_cell BN5413.out 2).trans rfl, (blk_cell BN5413.out 3).trans rfl⟩ (fun hHeld => ?_)
        clear hK K
        refine norm_ (a' := ?_) ?_ ?_
        rotate_left
        · show Act.put _ (some 13) _ = _
          simp only [Act.put, List.setIfInBounds_toArray, List.set_cons_zero, List.set_cons_succ, i64_w, i32_w]
          rfl
        exact norm_ (by simp only [putAll, Act.put, List.setIfInBounds_toArray, List.set_cons_zero, List.set_cons_succ]) (hCont (a0, a1, a2, b0, b1, b2, y54.heap.size, y541.heap.size, y541.heap.size, y5413.heap.size, y5.heap.size, wd.heap.size) _ (by dsimp only; have z0 := SZ5.out; have z1 := SZ54.out; have z2 := SZ541.out; have z3 := SZ5413.out; have l4 := LX4_54.out;  have l5 := LX5_5.out; have h0 := LGN.out; exact ⟨HB5413.out, BM5413.out, BN5413.out, MM5413.out, MV1_5413.out, MV3_5413.out, BX4_5413.out, BX5_5413.out, by omega, by omega, by omega, by omega, by omega, by omega, by omega, by omega⟩))
  rintro ⟨a0, a1, a2, b0, b1, b2, la, ha, lb, hb, g4, g5⟩ wj hJ
  dsimp only at hJ ⊢
  obtain ⟨Aa0, ca0, rfl⟩ := Kd.R_slice hJ.ma.r0
  obtain ⟨Aa1, ca1, rfl⟩ := Kd.R_slice hJ.ma.r1
  obtain ⟨Aa2, ca2, rfl⟩ := Kd.R_slice hJ.ma.r2
  obtain ⟨Ab0, cb0, rfl⟩ := Kd.R_slice hJ.mb.r0
  obtain ⟨Ab1, cb1, rfl⟩ := Kd.R_slice hJ.mb.r1
  obtain ⟨Ab2, cb2, rfl⟩ := Kd.R_slice hJ.mb.r2
  have HJ := Aside0.mk hJ
  clear hJ
  have hHeld : wj.cell? ⟨gn, 0, none⟩ = some (.slice N0 l0_0.length cn0) ∧ wj.cell? ⟨gn, 1, none⟩ = some (.slice N1 l0_1.length cn1) ∧ wj.cell? ⟨gn, 2, none⟩ = some (.slice N2 l0_2.length cn2) ∧ wj.cell? ⟨gn, 3, none⟩ = some (.int .i64 a0_3) := ⟨(blk_cell HJ.out.bn 0).trans rfl, (blk_cell HJ.out.bn 1).trans rfl, (blk_cell HJ.out.bn 2).trans rfl, (blk_cell HJ.out.bn 3).trans rfl⟩
  have c4_0 : wj.cell? ⟨g4, 0, none⟩ = some (.slice none 0 0) := (blk_cell HJ.out.x4 0).trans rfl
  have c4f0 := blk_frozen HJ.out.x4 0
  have c4_1 : wj.cell? ⟨g4, 1, none⟩ = some (.slice none 0 0) := (blk_cell HJ.out.x4 1).trans rfl
  have c4f1 := blk_frozen HJ.out.x4 1
  have c4_2 : wj.cell? ⟨g4, 2, none⟩ = some (.slice none 0 0) := (blk_cell HJ.out.x4 2).trans rfl
  have c4f2 := blk_frozen HJ.out.x4 2
  have c4_3 : wj.cell? ⟨g4, 3, none⟩ = some (.int .i64 0) := (blk_cell HJ.out.x4 3).trans rfl
  have c4f3 := blk_frozen HJ.out.x4 3
  have c5_0 : wj.cell? ⟨g5, 0, none⟩ = some (.slice none 0 0) := (blk_cell HJ.out.x5 0).trans rfl
  have c5f0 := blk_frozen HJ.out.x5 0
  have c5_1 : wj.cell? ⟨g5, 1, none⟩ = some (.slice none 0 0) := (blk_cell HJ.out.x5 1).trans rfl
  have c5f1 := blk_frozen HJ.out.x5 1
  have c5_2 : wj.cell? ⟨g5, 2, none⟩ = some (.slice none 0 0) := (blk_cell HJ.out.x5 2).trans rfl
  have c5f2 := blk_frozen HJ.out.x5 2
  have c5_3 : wj.cell? ⟨g5, 3, none⟩ = some (.int .i64 0) := (blk_cell HJ.out.x5 3).trans rfl
  have c5f3 := blk_frozen HJ.out.x5 3
  have hne45 : g4 ≠ g5 := HJ.out.n45
  have hne54 : g5 ≠ g4 := fun e => HJ.out.n45 e.symm
  refine norm_ (a' := ?_) ?_ ?_
  rotate_left
  · simp only [putAll, Act.put, List.setIfInBounds_toArray, List.set_cons_zero, List.set_cons_succ]
    rfl
  refine last_ (i := 6) (N := none) #[true, true, true, true, true, true, true, false] rfl rfl (by kernel_rfl) (by decide) (fun K hK => ?_)
  refine skip_ (w1 := ?_) (by rfl) rfl ?_ ?_
  rotate_left
  · go_simp
    rfl
  refine hK.out _ _ ?_
  clear hK K
  refine last_ (i := 7) (N := none) #[true, true, true, true, true, true, true, true] rfl rfl (by kernel_rfl) (by decide) (fun K hK => ?_)
  refine skip_ (w1 := ?_) (by rfl) rfl ?_ ?_
  rotate_left
  · go_simp
    rfl
  refine hK.out _ _ ?_
  clear hK K
  refine done_ (by kernel_rfl) ?_

  have OG := OGM
  have O1 : Aside0 (gn < la) := ⟨HJ.out.o1⟩
  have O2 : Aside0 (ha ≤ lb ∧ la ≤ ha ∧ lb ≤ hb) := ⟨HJ.out.o2⟩
  have O3 : Aside0 (g4 < la ∨ ha ≤ g4) := ⟨HJ.out.o3⟩
  have O4 : Aside0 (g4 < lb ∨ hb ≤ g4) := ⟨HJ.out.o4⟩
  have O5 : Aside0 (g5 < la ∨ ha ≤ g5) := ⟨HJ.out.o5⟩
  have O6 : Aside0 (g5 < lb ∨ hb ≤ g5) := ⟨HJ.out.o6⟩
  have O7 : Aside0 (gn < g4 ∧ gn < g5) := ⟨HJ.out.o7⟩
  have w4le : w.heap.size ≤ g4 := by have q1 := O1.out; have q2 := O2.out; have q3 := O3.out; have q4 := O4.out; have q5 := O5.out; have q6 := O6.out; have q7 := O7.out; have q8 := OG.out; omega
  have w5le : w.heap.size ≤ g5 := by have q1 := O1.out; have q2 := O2.out; have q3 := O3.out; have q4 := O4.out; have q5 := O5.out; have q6 := O6.out; have q7 := O7.out; have q8 := OG.out; omega
  have m4 : gm ≠ g4 := by have q1 := O1.out; have q2 := O2.out; have q3 := O3.out; have q4 := O4.out; have q5 := O5.out; have q6 := O6.out; have q7 := O7.out; have q8 := OG.out; omega
  have m5 : gm ≠ g5 := by have q1 := O1.out; have q2 := O2.out; have q3 := O3.out; have q4 := O4.out; have q5 := O5.out; have q6 := O6.out; have q7 := O7.out; have q8 := OG.out; omega
  have n4 : gn ≠ g4 := by have q1 := O1.out; have q2 := O2.out; have q3 := O3.out; have q4 := O4.out; have q5 := O5.out; have q6 := O6.out; have q7 := O7.out; have q8 := OG.out; omega
  have n5 : gn ≠ g5 := by have q1 := O1.out; have q2 := O2.out; have q3 := O3.out; have q4 := O4.out; have q5 := O5.out; have q6 := O6.out; have q7 := O7.out; have q8 := OG.out; omega
  have i4 : ¬ (w2.heap.size ≤ g4 ∧ g4 < w4.heap.size) := by have q1 := O1.out; have q2 := O2.out; have q3 := O3.out; have q4 := O4.out; have q5 := O5.out; have q6 := O6.out; have q7 := O7.out; have q8 := OG.out; omega
  have i5 : ¬ (w2.heap.size ≤ g5 ∧ g5 < w4.heap.size) := by have q1 := O1.out; have q2 := O2.out; have q3 := O3.out; have q4 := O4.out; have q5 := O5.out; have q6 := O6.out; have q7 := O7.out; have q8 := OG.out; omega
  have j4 : ¬ (la ≤ g4 ∧ g4 < ha) := by have q1 := O1.out; have q2 := O2.out; have q3 := O3.out; have q4 := O4.out; have q5 := O5.out; have q6 := O6.out; have q7 := O7.out; have q8 := OG.out; omega
  have j5 : ¬ (la ≤ g5 ∧ g5 < ha) := by have q1 := O1.out; have q2 := O2.out; have q3 := O3.out; have q4 := O4.out; have q5 := O5.out; have q6 := O6.out; have q7 := O7.out; have q8 := OG.out; omega
  have k4 : ¬ (lb ≤ g4 ∧ g4 < hb) := by have q1 := O1.out; have q2 := O2.out; have q3 := O3.out; have q4 := O4.out; have q5 := O5.out; have q6 := O6.out; have q7 := O7.out; have q8 := OG.out; omega
  have k5 : ¬ (lb ≤ g5 ∧ g5 < hb) := by have q1 := O1.out; have q2 := O2.out; have q3 := O3.out; have q4 := O4.out; have q5 := O5.out; have q6 := O6.out; have q7 := O7.out; have q8 := OG.out; omega
  clear HB BM BN MM
  have HB := Aside0.mk ((((((((HJ.out.hb0.setCell (p := ⟨g4, 0, none⟩) w4le (.slice Aa0 l0_0.length ca0)).setCell (p := ⟨g4, 1, none⟩) w4le (.slice Aa1 l0_1.length ca1)).setCell (p := ⟨g4, 2, none⟩) w4le (.slice Aa2 l0_2.length ca2)).setCell (p := ⟨g4, 3, none⟩) w4le (.int .i64 a0_3)).setCell (p := ⟨g5, 0, none⟩) w5le (.slice Ab0 l0_0.length cb0)).setCell (p := ⟨g5, 1, none⟩) w5le (.slice Ab1 l0_1.length cb1)).setCell (p := ⟨g5, 2, none⟩) w5le (.slice Ab2 l0_2.length cb2)).setCell (p := ⟨g5, 3, none⟩) w5le (.int .i64 a0_3))
  have BM := Aside0.mk (blk_far (blk_far (blk_far (blk_far (blk_far (blk_far (blk_far (blk_far HJ.out.bm (p := ⟨g4, 0, none⟩) m4 (.slice Aa0 l0_0.length ca0)) (p := ⟨g4, 1, none⟩) m4 (.slice Aa1 l0_1.length ca1)) (p := ⟨g4, 2, none⟩) m4 (.slice Aa2 l0_2.length ca2)) (p := ⟨g4, 3, none⟩) m4 (.int .i64 a0_3)) (p := ⟨g5, 0, none⟩) m5 (.slice Ab0 l0_0.length cb0)) (p := ⟨g5, 1, none⟩) m5 (.slice Ab1 l0_1.length cb1)) (p := ⟨g5, 2, none⟩) m5 (.slice Ab2 l0_2.length cb2)) (p := ⟨g5, 3, none⟩) m5 (.int .i64 a0_3))
  have BN := Aside0.mk (blk_far (blk_far (blk_far (blk_far (blk_far (blk_far (blk_far (blk_far HJ.out.bn (p := ⟨g4, 0, none⟩) n4 (.slice Aa0 l0_0.length ca0)) (p := ⟨g4, 1, none⟩) n4 (.slice Aa1 l0_1.length ca1)) (p := ⟨g4, 2, none⟩) n4 (.slice Aa2 l0_2.length ca2)) (p := ⟨g4, 3, none⟩) n4 (.int .i64 a0_3)) (p := ⟨g5, 0, none⟩) n5 (.slice Ab0 l0_0.length cb0)) (p := ⟨g5, 1, none⟩) n5 (.slice Ab1 l0_1.length cb1)) (p := ⟨g5, 2, none⟩) n5 (.slice Ab2 l0_2.length cb2)) (p := ⟨g5, 3, none⟩) n5 (.int .i64 a0_3))
  have BA := Aside0.mk (blk_far (blk_far (blk_far (blk_far (blk_put (blk_put (blk_put (blk_put HJ.out.x4 0 (.slice Aa0 l0_0.length ca0) rfl) 1 (.slice Aa1 l0_1.length ca1) rfl) 2 (.slice Aa2 l0_2.length ca2) rfl) 3 (.int .i64 a0_3) rfl) (p := ⟨g5, 0, none⟩) hne45 (.slice Ab0 l0_0.length cb0)) (p := ⟨g5, 1, none⟩) hne45 (.slice Ab1 l0_1.length cb1)) (p := ⟨g5, 2, none⟩) hne45 (.slice Ab2 l0_2.length cb2)) (p := ⟨g5, 3, none⟩) hne45 (.int .i64 a0_3))
  have BB := Aside0.mk (blk_put (blk_put (blk_put (blk_put (blk_far (blk_far (blk_far (blk_far HJ.out.x5 (p := ⟨g4, 0, none⟩) hne54 (.slice Aa0 l0_0.length ca0)) (p := ⟨g4, 1, none⟩) hne54 (.slice Aa1 l0_1.length ca1)) (p := ⟨g4, 2, none⟩) hne54 (.slice Aa2 l0_2.length ca2)) (p := ⟨g4, 3, none⟩) hne54 (.int .i64 a0_3)) 0 (.slice Ab0 l0_0.length cb0) rfl) 1 (.slice Ab1 l0_1.length cb1) rfl) 2 (.slice Ab2 l0_2.length cb2) rfl) 3 (.int .i64 a0_3) rfl)
  have MM := Aside0.mk (MV.set (MV.set (MV.set (MV.set (MV.set (MV.set (MV.set (MV.set HJ.out.mm g4 0 (.slice Aa0 l0_0.length ca0) i4) g4 1 (.slice Aa1 l0_1.length ca1) i4) g4 2 (.slice Aa2 l0_2.length ca2) i4) g4 3 (.int .i64 a0_3) i4) g5 0 (.slice Ab0 l0_0.length cb0) i5) g5 1 (.slice Ab1 l0_1.length cb1) i5) g5 2 (.slice Ab2 l0_2.length cb2) i5) g5 3 (.int .i64 a0_3) i5)
  have MA := Aside0.mk (MV.set (MV.set (MV.set (MV.set (MV.set (MV.set (MV.set (MV.set HJ.out.ma g4 0 (.slice Aa0 l0_0.length ca0) j4) g4 1 (.slice Aa1 l0_1.length ca1) j4) g4 2 (.slice Aa2 l0_2.length ca2) j4) g4 3 (.int .i64 a0_3) j4) g5 0 (.slice Ab0 l0_0.length cb0) j5) g5 1 (.slice Ab1 l0_1.length cb1) j5) g5 2 (.slice Ab2 l0_2.length cb2) j5) g5 3 (.int .i64 a0_3) j5)
  have MB := Aside0.mk (MV.set (MV.set (MV.set (MV.set (MV.set (MV.set (MV.set (MV.set HJ.out.mb g4 0 (.slice Aa0 l0_0.length ca0) k4) g4 1 (.slice Aa1 l0_1.length ca1) k4) g4 2 (.slice Aa2 l0_2.length ca2) k4) g4 3 (.int .i64 a0_3) k4) g5 0 (.slice Ab0 l0_0.length cb0) k5) g5 1 (.slice Ab1 l0_1.length cb1) k5) g5 2 (.slice Ab2 l0_2.length cb2) k5) g5 3 (.int .i64 a0_3) k5)
  clear HJ hHeld c4_0 c4_1 c4_2 c4_3 c5_0 c5_1 c5_2 c5_3 c4f0 c4f1 c4f2 c4f3 c5f0 c5f1 c5f2 c5f3 hne45 hne54 w4le w5le m4 m5 n4 n5 i4 i5 j4 j5 k4 k5 OGM LGN
  generalize hW7 : ((((((((wj.setCell ⟨g4, 0, none⟩ (.slice Aa0 l0_0.length ca0)).setCell ⟨g4, 1, none⟩ (.slice Aa1 l0_1.length ca1)).setCell ⟨g4, 2, none⟩ (.slice Aa2 l0_2.length ca2)).setCell ⟨g4, 3, none⟩ (.int .i64 a0_3)).setCell ⟨g5, 0, none⟩ (.slice Ab0 l0_0.length cb0)).setCell ⟨g5, 1, none⟩ (.slice Ab1 l0_1.length cb1)).setCell ⟨g5, 2, none⟩ (.slice Ab2 l0_2.length cb2)).setCell ⟨g5, 3, none⟩ (.int .i64 a0_3)) = w7 at *
  clear hW7
  have hBM0 : w7.cell? ⟨gm, 0, none⟩ = some (.slice A0_0 l0_0.length c0_0) := (blk_cell BM.out 0).trans rfl
  have hBM1 : w7.cell? ⟨gm, 1, none⟩ = some (.slice A0_1 l0_1.length c0_1) := (blk_cell BM.out 1).trans rfl
  have hBM2 : w7.cell? ⟨gm, 2, none⟩ = some (.slice A0_2 l0_2.length c0_2) := (blk_cell BM.out 2).trans rfl
  have hBM3 : w7.cell? ⟨gm, 3, none⟩ = some (.int .i64 a0_3) := (blk_cell BM.out 3).trans rfl
  have hBN0 : w7.cell? ⟨gn, 0, none⟩ = some (.slice N0 l0_0.length cn0) := (blk_cell BN.out 0).trans rfl
  have hBN1 : w7.cell? ⟨gn, 1, none⟩ = some (.slice N1 l0_1.length cn1) := (blk_cell BN.out 1).trans rfl
  have hBN2 : w7.cell? ⟨gn, 2, none⟩ = some (.slice N2 l0_2.length cn2) := (blk_cell BN.out 2).trans rfl
  have hBN3 : w7.cell? ⟨gn, 3, none⟩ = some (.int .i64 a0_3) := (blk_cell BN.out 3).trans rfl
  have hBA0 : w7.cell? ⟨g4, 0, none⟩ = some (.slice Aa0 l0_0.length ca0) := (blk_cell BA.out 0).trans rfl
  have hBA1 : w7.cell? ⟨g4, 1, none⟩ = some (.slice Aa1 l0_1.length ca1) := (blk_cell BA.out 1).trans rfl
  have hBA2 : w7.cell? ⟨g4, 2, none⟩ = some (.slice Aa2 l0_2.length ca2) := (blk_cell BA.out 2).trans rfl
  have hBA3 : w7.cell? ⟨g4, 3, none⟩ = some (.int .i64 a0_3) := (blk_cell BA.out 3).trans rfl
  have hBB0 : w7.cell? ⟨g5, 0, none⟩ = some (.slice Ab0 l0_0.length cb0) := (blk_cell BB.out 0).trans rfl
  have hBB1 : w7.cell? ⟨g5, 1, none⟩ = some (.slice Ab1 l0_1.length cb1) := (blk_cell BB.out 1).trans rfl
  have hBB2 : w7.cell? ⟨g5, 2, none⟩ = some (.slice Ab2 l0_2.length cb2) := (blk_cell BB.out 2).trans rfl
  have hBB3 : w7.cell? ⟨g5, 3, none⟩ = some (.int .i64 a0_3) := (blk_cell BB.out 3).trans rfl
  go_wp2_with (first | ((fail_if_success (have h_ := nope_)); go_at_call 7; (with_reducible refine (capstanref08_Same.calls k Aa0 ca0 l0_0 Aa1 ca1 l0_1 Aa2 ca2 l0_2 a0_3 A0_0 c0_0 l0_0 A0_1 c0_1 l0_1 A0_2 c0_2 l0_2 a0_3 true _ (Kd.R_reads' MA.out.r0).2.2 (Kd.R_reads' MA.out.r0).2.1 (Kd.R_reads' MA.out.r1).2.2 (Kd.R_reads' MA.out.r1).2.1 (Kd.R_reads' MA.out.r2).2.2 (Kd.R_reads' MA.out.r2).2.1 (Kd.C_below HR0.out HB.out) HC0.out (Kd.C_below HR1.out HB.out) HC1.out (Kd.C_below HR2.out HB.out) HC2.out HSM.out).mono ?_); rintro e y_ ⟨rfl, hb_⟩; have n0_ := Aside0.mk (HB.out.trans (hb_.mono HB.out.size)); have m0_ := Aside0.mk (blk_below BM.out hb_); have m1_ := Aside0.mk (blk_below BN.out hb_); have m2_ := Aside0.mk (blk_below BA.out hb_); have m3_ := Aside0.mk (blk_below BB.out hb_); have v0_ := Aside0.mk (MM.out.below hb_); have v1_ := Aside0.mk (MA.out.below hb_); have v2_ := Aside0.mk (MB.out.below hb_); clear HB BM BN BA BB MM MA MB; have HB := n0_; have BM := m0_; have BN := m1_; have BA := m2_; have BB := m3_; have MM := v0_; have MA := v1_; have MB := v2_; clear n0_ m0_ m1_ m2_ m3_ v0_ v1_ v2_ hb_; clear hBM0 hBM1 hBM2 hBM3; have hBM0 : y_.cell? ⟨gm, 0, none⟩ = some (.slice A0_0 l0_0.length c0_0) := (blk_cell BM.out 0).trans rfl; have hBM1 : y_.cell? ⟨gm, 1, none⟩ = some (.slice A0_1 l0_1.length c0_1) := (blk_cell BM.out 1).trans rfl; have hBM2 : y_.cell? ⟨gm, 2, none⟩ = some (.slice A0_2 l0_2.length c0_2) := (blk_cell BM.out 2).trans rfl; have hBM3 : y_.cell? ⟨gm, 3, none⟩ = some (.int .i64 a0_3) := (blk_cell BM.out 3).trans rfl; clear hBN0 hBN1 hBN2 hBN3; have hBN0 : y_.cell? ⟨gn, 0, none⟩ = some (.slice N0 l0_0.length cn0) := (blk_cell BN.out 0).trans rfl; have hBN1 : y_.cell? ⟨gn, 1, none⟩ = some (.slice N1 l0_1.length cn1) := (blk_cell BN.out 1).trans rfl; have hBN2 : y_.cell? ⟨gn, 2, none⟩ = some (.slice N2 l0_2.length cn2) := (blk_cell BN.out 2).trans rfl; have hBN3 : y_.cell? ⟨gn, 3, none⟩ = some (.int .i64 a0_3) := (blk_cell BN.out 3).trans rfl; clear hBA0 hBA1 hBA2 hBA3; have hBA0 : y_.cell? ⟨g4, 0, none⟩ = some (.slice Aa0 l0_0.length ca0) := (blk_cell BA.out 0).trans rfl; have hBA1 : y_.cell? ⟨g4, 1, none⟩ = some (.slice Aa1 l0_1.length ca1) := (blk_cell BA.out 1).trans rfl; have hBA2 : y_.cell? ⟨g4, 2, none⟩ = some (.slice Aa2 l0_2.length ca2) := (blk_cell BA.out 2).trans rfl; have hBA3 : y_.cell? ⟨g4, 3, none⟩ = some (.int .i64 a0_3) := (blk_cell BA.out 3).trans rfl; clear hBB0 hBB1 hBB2 hBB3; have hBB0 : y_.cell? ⟨g5, 0, none⟩ = some (.slice Ab0 l0_0.length cb0) := (blk_cell BB.out 0).trans rfl; have hBB1 : y_.cell? ⟨g5, 1, none⟩ = some (.slice Ab1 l0_1.length cb1) := (blk_cell BB.out 1).trans rfl; have hBB2 : y_.cell? ⟨g5, 2, none⟩ = some (.slice Ab2 l0_2.length cb2) := (blk_cell BB.out 2).trans rfl; have hBB3 : y_.cell? ⟨g5, 3, none⟩ = some (.int .i64 a0_3) := (blk_cell BB.out 3).trans rfl) | ((fail_if_success (have h_ := nope_)); go_at_call 7; (with_reducible refine (capstanref08_Same.calls k Ab0 cb0 l0_0 Ab1 cb1 l0_1 Ab2 cb2 l0_2 a0_3 A0_0 c0_0 l0_0 A0_1 c0_1 l0_1 A0_2 c0_2 l0_2 a0_3 true _ (Kd.R_reads' MB.out.r0).2.2 (Kd.R_reads' MB.out.r0).2.1 (Kd.R_reads' MB.out.r1).2.2 (Kd.R_reads' MB.out.r1).2.1 (Kd.R_reads' MB.out.r2).2.2 (Kd.R_reads' MB.out.r2).2.1 (Kd.C_below HR0.out HB.out) HC0.out (Kd.C_below HR1.out HB.out) HC1.out (Kd.C_below HR2.out HB.out) HC2.out HSM.out).mono ?_); rintro e y_ ⟨rfl, hb_⟩; have n0_ := Aside0.mk (HB.out.trans (hb_.mono HB.out.size)); have m0_ := Aside0.mk (blk_below BM.out hb_); have m1_ := Aside0.mk (blk_below BN.out hb_); have m2_ := Aside0.mk (blk_below BA.out hb_); have m3_ := Aside0.mk (blk_below BB.out hb_); have v0_ := Aside0.mk (MM.out.below hb_); have v1_ := Aside0.mk (MA.out.below hb_); have v2_ := Aside0.mk (MB.out.below hb_); clear HB BM BN BA BB MM MA MB; have HB := n0_; have BM := m0_; have BN := m1_; have BA := m2_; have BB := m3_; have MM := v0_; have MA := v1_; have MB := v2_; clear n0_ m0_ m1_ m2_ m3_ v0_ v1_ v2_ hb_; clear hBM0 hBM1 hBM2 hBM3; have hBM0 : y_.cell? ⟨gm, 0, none⟩ = some (.slice A0_0 l0_0.length c0_0) := (blk_cell BM.out 0).trans rfl; have hBM1 : y_.cell? ⟨gm, 1, none⟩ = some (.slice A0_1 l0_1.length c0_1) := (blk_cell BM.out 1).trans rfl; have hBM2 : y_.cell? ⟨gm, 2, none⟩ = some (.slice A0_2 l0_2.length c0_2) := (blk_cell BM.out 2).trans rfl; have hBM3 : y_.cell? ⟨gm, 3, none⟩ = some (.int .i64 a0_3) := (blk_cell BM.out 3).trans rfl; clear hBN0 hBN1 hBN2 hBN3; have hBN0 : y_.cell? ⟨gn, 0, none⟩ = some (.slice N0 l0_0.length cn0) := (blk_cell BN.out 0).trans rfl; have hBN1 : y_.cell? ⟨gn, 1, none⟩ = some (.slice N1 l0_1.length cn1) := (blk_cell BN.out 1).trans rfl; have hBN2 : y_.cell? ⟨gn, 2, none⟩ = some (.slice N2 l0_2.length cn2) := (blk_cell BN.out 2).trans rfl; have hBN3 : y_.cell? ⟨gn, 3, none⟩ = some (.int .i64 a0_3) := (blk_cell BN.out 3).trans rfl; clear hBA0 hBA1 hBA2 hBA3; have hBA0 : y_.cell? ⟨g4, 0, none⟩ = some (.slice Aa0 l0_0.length ca0) := (blk_cell BA.out 0).trans rfl; have hBA1 : y_.cell? ⟨g4, 1, none⟩ = some (.slice Aa1 l0_1.length ca1) := (blk_cell BA.out 1).trans rfl; have hBA2 : y_.cell? ⟨g4, 2, none⟩ = some (.slice Aa2 l0_2.length ca2) := (blk_cell BA.out 2).trans rfl; have hBA3 : y_.cell? ⟨g4, 3, none⟩ = some (.int .i64 a0_3) := (blk_cell BA.out 3).trans rfl; clear hBB0 hBB1 hBB2 hBB3; have hBB0 : y_.cell? ⟨g5, 0, none⟩ = some (.slice Ab0 l0_0.length cb0) := (blk_cell BB.out 0).trans rfl; have hBB1 : y_.cell? ⟨g5, 1, none⟩ = some (.slice Ab1 l0_1.length cb1) := (blk_cell BB.out 1).trans rfl; have hBB2 : y_.cell? ⟨g5, 2, none⟩ = some (.slice Ab2 l0_2.length cb2) := (blk_cell BB.out 2).trans rfl; have hBB3 : y_.cell? ⟨g5, 3, none⟩ = some (.int .i64 a0_3) := (blk_cell BB.out 3).trans rfl) | ((fail_if_success (have h_ := nope_)); go_at_call 8; (with_reducible refine (capstanlaw08_Spoil.calls (fun k_ => la ≤ k_ ∧ k_ < ha) (fun k_ => la ≤ k_ ∧ k_ < ha) (fun k_ => la ≤ k_ ∧ k_ < ha) _ l0_0 _ l0_1 _ l0_2 a0_3 w _ HB.out (Kd.R_lower MA.out.r0 (by have q1 := O1.out; have q2 := O2.out; have q3 := O3.out; have q4 := O4.out; have q5 := O5.out; have q6 := O6.out; have q7 := O7.out; have q8 := OG.out; omega)) (Kd.R_lower MA.out.r1 (by have q1 := O1.out; have q2 := O2.out; have q3 := O3.out; have q4 := O4.out; have q5 := O5.out; have q6 := O6.out; have q7 := O7.out; have q8 := OG.out; omega)) (Kd.R_lower MA.out.r2 (by have q1 := O1.out; have q2 := O2.out; have q3 := O3.out; have q4 := O4.out; have q5 := O5.out; have q6 := O6.out; have q7 := O7.out; have q8 := OG.out; omega)) HL0.out HL1.out HL2.out HGD.out).mono ?_); rintro e y_ ⟨rfl, hb_, hk_⟩; have n0_ := Aside0.mk hb_; have m0_ := Aside0.mk (blk_kept' BM.out hk_ (by have q1 := O1.out; have q2 := O2.out; have q3 := O3.out; have q4 := O4.out; have q5 := O5.out; have q6 := O6.out; have q7 := O7.out; have q8 := OG.out; omega)); have m1_ := Aside0.mk (blk_kept' BN.out hk_ (by have q1 := O1.out; have q2 := O2.out; have q3 := O3.out; have q4 := O4.out; have q5 := O5.out; have q6 := O6.out; have q7 := O7.out; have q8 := OG.out; omega)); have m2_ := Aside0.mk (blk_kept' BA.out hk_ (by have q1 := O1.out; have q2 := O2.out; have q3 := O3.out; have q4 := O4.out; have q5 := O5.out; have q6 := O6.out; have q7 := O7.out; have q8 := OG.out; omega)); have m3_ := Aside0.mk (blk_kept' BB.out hk_ (by have q1 := O1.out; have q2 := O2.out; have q3 := O3.out; have q4 := O4.out; have q5 := O5.out; have q6 := O6.out; have q7 := O7.out; have q8 := OG.out; omega)); have v0_ := Aside0.mk (MM.out.kept hk_ (by have q1 := O1.out; have q2 := O2.out; have q3 := O3.out; have q4 := O4.out; have q5 := O5.out; have q6 := O6.out; have q7 := O7.out; have q8 := OG.out; omega)); have v1_ := Aside0.mk (MB.out.kept hk_ (by have q1 := O1.out; have q2 := O2.out; have q3 := O3.out; have q4 := O4.out; have q5 := O5.out; have q6 := O6.out; have q7 := O7.out; have q8 := OG.out; omega)); clear HB BM BN BA BB MM MB MA; have HB := n0_; have BM := m0_; have BN := m1_; have BA := m2_; have BB := m3_; have MM := v0_; have MB := v1_; clear n0_ m0_ m1_ m2_ m3_ v0_ v1_ hb_ hk_; clear hBM0 hBM1 hBM2 hBM3; have hBM0 : y_.cell? ⟨gm, 0, none⟩ = some (.slice A0_0 l0_0.length c0_0) := (blk_cell BM.out 0).trans rfl; have hBM1 : y_.cell? ⟨gm, 1, none⟩ = some (.slice A0_1 l0_1.length c0_1) := (blk_cell BM.out 1).trans rfl; have hBM2 : y_.cell? ⟨gm, 2, none⟩ = some (.slice A0_2 l0_2.length c0_2) := (blk_cell BM.out 2).trans rfl; have hBM3 : y_.cell? ⟨gm, 3, none⟩ = some (.int .i64 a0_3) := (blk_cell BM.out 3).trans rfl; clear hBN0 hBN1 hBN2 hBN3; have hBN0 : y_.cell? ⟨gn, 0, none⟩ = some (.slice N0 l0_0.length cn0) := (blk_cell BN.out 0).trans rfl; have hBN1 : y_.cell? ⟨gn, 1, none⟩ = some (.slice N1 l0_1.length cn1) := (blk_cell BN.out 1).trans rfl; have hBN2 : y_.cell? ⟨gn, 2, none⟩ = some (.slice N2 l0_2.length cn2) := (blk_cell BN.out 2).trans rfl; have hBN3 : y_.cell? ⟨gn, 3, none⟩ = some (.int .i64 a0_3) := (blk_cell BN.out 3).trans rfl; clear hBA0 hBA1 hBA2 hBA3; have hBA0 : y_.cell? ⟨g4, 0, none⟩ = some (.slice Aa0 l0_0.length ca0) := (blk_cell BA.out 0).trans rfl; have hBA1 : y_.cell? ⟨g4, 1, none⟩ = some (.slice Aa1 l0_1.length ca1) := (blk_cell BA.out 1).trans rfl; have hBA2 : y_.cell? ⟨g4, 2, none⟩ = some (.slice Aa2 l0_2.length ca2) := (blk_cell BA.out 2).trans rfl; have hBA3 : y_.cell? ⟨g4, 3, none⟩ = some (.int .i64 a0_3) := (blk_cell BA.out 3).trans rfl; clear hBB0 hBB1 hBB2 hBB3; have hBB0 : y_.cell? ⟨g5, 0, none⟩ = some (.slice Ab0 l0_0.length cb0) := (blk_cell BB.out 0).trans rfl; have hBB1 : y_.cell? ⟨g5, 1, none⟩ = some (.slice Ab1 l0_1.length cb1) := (blk_cell BB.out 1).trans rfl; have hBB2 : y_.cell? ⟨g5, 2, none⟩ = some (.slice Ab2 l0_2.length cb2) := (blk_cell BB.out 2).trans rfl; have hBB3 : y_.cell? ⟨g5, 3, none⟩ = some (.int .i64 a0_3) := (blk_cell BB.out 3).trans rfl) | ((fail_if_success (have h_ := nope_)); go_at_call 7; (with_reducible refine (capstanref08_Same.calls k N0 cn0 l0_0 N1 cn1 l0_1 N2 cn2 l0_2 a0_3 A0_0 c0_0 l0_0 A0_1 c0_1 l0_1 A0_2 c0_2 l0_2 a0_3 true _ (Kd.R_reads' MM.out.r0).2.2 (Kd.R_reads' MM.out.r0).2.1 (Kd.R_reads' MM.out.r1).2.2 (Kd.R_reads' MM.out.r1).2.1 (Kd.R_reads' MM.out.r2).2.2 (Kd.R_reads' MM.out.r2).2.1 (Kd.C_below HR0.out HB.out) HC0.out (Kd.C_below HR1.out HB.out) HC1.out (Kd.C_below HR2.out HB.out) HC2.out HSM.out).mono ?_); rintro e y_ ⟨rfl, hb_⟩; have n0_ := Aside0.mk (HB.out.trans (hb_.mono HB.out.size)); have m0_ := Aside0.mk (blk_below BM.out hb_); have m1_ := Aside0.mk (blk_below BN.out hb_); have m2_ := Aside0.mk (blk_below BA.out hb_); have m3_ := Aside0.mk (blk_below BB.out hb_); have v0_ := Aside0.mk (MM.out.below hb_); have v1_ := Aside0.mk (MB.out.below hb_); clear HB BM BN BA BB MM MB; have HB := n0_; have BM := m0_; have BN := m1_; have BA := m2_; have BB := m3_; have MM := v0_; have MB := v1_; clear n0_ m0_ m1_ m2_ m3_ v0_ v1_ hb_; clear hBM0 hBM1 hBM2 hBM3; have hBM0 : y_.cell? ⟨gm, 0, none⟩ = some (.slice A0_0 l0_0.length c0_0) := (blk_cell BM.out 0).trans rfl; have hBM1 : y_.cell? ⟨gm, 1, none⟩ = some (.slice A0_1 l0_1.length c0_1) := (blk_cell BM.out 1).trans rfl; have hBM2 : y_.cell? ⟨gm, 2, none⟩ = some (.slice A0_2 l0_2.length c0_2) := (blk_cell BM.out 2).trans rfl; have hBM3 : y_.cell? ⟨gm, 3, none⟩ = some (.int .i64 a0_3) := (blk_cell BM.out 3).trans rfl; clear hBN0 hBN1 hBN2 hBN3; have hBN0 : y_.cell? ⟨gn, 0, none⟩ = some (.slice N0 l0_0.length cn0) := (blk_cell BN.out 0).trans rfl; have hBN1 : y_.cell? ⟨gn, 1, none⟩ = some (.slice N1 l0_1.length cn1) := (blk_cell BN.out 1).trans rfl; have hBN2 : y_.cell? ⟨gn, 2, none⟩ = some (.slice N2 l0_2.length cn2) := (blk_cell BN.out 2).trans rfl; have hBN3 : y_.cell? ⟨gn, 3, none⟩ = some (.int .i64 a0_3) := (blk_cell BN.out 3).trans rfl; clear hBA0 hBA1 hBA2 hBA3; have hBA0 : y_.cell? ⟨g4, 0, none⟩ = some (.slice Aa0 l0_0.length ca0) := (blk_cell BA.out 0).trans rfl; have hBA1 : y_.cell? ⟨g4, 1, none⟩ = some (.slice Aa1 l0_1.length ca1) := (blk_cell BA.out 1).trans rfl; have hBA2 : y_.cell? ⟨g4, 2, none⟩ = some (.slice Aa2 l0_2.length ca2) := (blk_cell BA.out 2).trans rfl; have hBA3 : y_.cell? ⟨g4, 3, none⟩ = some (.int .i64 a0_3) := (blk_cell BA.out 3).trans rfl; clear hBB0 hBB1 hBB2 hBB3; have hBB0 : y_.cell? ⟨g5, 0, none⟩ = some (.slice Ab0 l0_0.length cb0) := (blk_cell BB.out 0).trans rfl; have hBB1 : y_.cell? ⟨g5, 1, none⟩ = some (.slice Ab1 l0_1.length cb1) := (blk_cell BB.out 1).trans rfl; have hBB2 : y_.cell? ⟨g5, 2, none⟩ = some (.slice Ab2 l0_2.length cb2) := (blk_cell BB.out 2).trans rfl; have hBB3 : y_.cell? ⟨g5, 3, none⟩ = some (.int .i64 a0_3) := (blk_cell BB.out 3).trans rfl) | ((fail_if_success (have h_ := nope_)); go_at_call 7; (with_reducible refine (capstanref08_Same.calls k Ab0 cb0 l0_0 Ab1 cb1 l0_1 Ab2 cb2 l0_2 a0_3 A0_0 c0_0 l0_0 A0_1 c0_1 l0_1 A0_2 c0_2 l0_2 a0_3 true _ (Kd.R_reads' MB.out.r0).2.2 (Kd.R_reads' MB.out.r0).2.1 (Kd.R_reads' MB.out.r1).2.2 (Kd.R_reads' MB.out.r1).2.1 (Kd.R_reads' MB.out.r2).2.2 (Kd.R_reads' MB.out.r2).2.1 (Kd.C_below HR0.out HB.out) HC0.out (Kd.C_below HR1.out HB.out) HC1.out (Kd.C_below HR2.out HB.out) HC2.out HSM.out).mono ?_); rintro e y_ ⟨rfl, hb_⟩; have n0_ := Aside0.mk (HB.out.trans (hb_.mono HB.out.size)); have m0_ := Aside0.mk (blk_below BM.out hb_); have m1_ := Aside0.mk (blk_below BN.out hb_); have m2_ := Aside0.mk (blk_below BA.out hb_); have m3_ := Aside0.mk (blk_below BB.out hb_); have v0_ := Aside0.mk (MM.out.below hb_); have v1_ := Aside0.mk (MB.out.below hb_); clear HB BM BN BA BB MM MB; have HB := n0_; have BM := m0_; have BN := m1_; have BA := m2_; have BB := m3_; have MM := v0_; have MB := v1_; clear n0_ m0_ m1_ m2_ m3_ v0_ v1_ hb_; clear hBM0 hBM1 hBM2 hBM3; have hBM0 : y_.cell? ⟨gm, 0, none⟩ = some (.slice A0_0 l0_0.length c0_0) := (blk_cell BM.out 0).trans rfl; have hBM1 : y_.cell? ⟨gm, 1, none⟩ = some (.slice A0_1 l0_1.length c0_1) := (blk_cell BM.out 1).trans rfl; have hBM2 : y_.cell? ⟨gm, 2, none⟩ = some (.slice A0_2 l0_2.length c0_2) := (blk_cell BM.out 2).trans rfl; have hBM3 : y_.cell? ⟨gm, 3, none⟩ = some (.int .i64 a0_3) := (blk_cell BM.out 3).trans rfl; clear hBN0 hBN1 hBN2 hBN3; have hBN0 : y_.cell? ⟨gn, 0, none⟩ = some (.slice N0 l0_0.length cn0) := (blk_cell BN.out 0).trans rfl; have hBN1 : y_.cell? ⟨gn, 1, none⟩ = some (.slice N1 l0_1.length cn1) := (blk_cell BN.out 1).trans rfl; have hBN2 : y_.cell? ⟨gn, 2, none⟩ = some (.slice N2 l0_2.length cn2) := (blk_cell BN.out 2).trans rfl; have hBN3 : y_.cell? ⟨gn, 3, none⟩ = some (.int .i64 a0_3) := (blk_cell BN.out 3).trans rfl; clear hBA0 hBA1 hBA2 hBA3; have hBA0 : y_.cell? ⟨g4, 0, none⟩ = some (.slice Aa0 l0_0.length ca0) := (blk_cell BA.out 0).trans rfl; have hBA1 : y_.cell? ⟨g4, 1, none⟩ = some (.slice Aa1 l0_1.length ca1) := (blk_cell BA.out 1).trans rfl; have hBA2 : y_.cell? ⟨g4, 2, none⟩ = some (.slice Aa2 l0_2.length ca2) := (blk_cell BA.out 2).trans rfl; have hBA3 : y_.cell? ⟨g4, 3, none⟩ = some (.int .i64 a0_3) := (blk_cell BA.out 3).trans rfl; clear hBB0 hBB1 hBB2 hBB3; have hBB0 : y_.cell? ⟨g5, 0, none⟩ = some (.slice Ab0 l0_0.length cb0) := (blk_cell BB.out 0).trans rfl; have hBB1 : y_.cell? ⟨g5, 1, none⟩ = some (.slice Ab1 l0_1.length cb1) := (blk_cell BB.out 1).trans rfl; have hBB2 : y_.cell? ⟨g5, 2, none⟩ = some (.slice Ab2 l0_2.length cb2) := (blk_cell BB.out 2).trans rfl; have hBB3 : y_.cell? ⟨g5, 3, none⟩ = some (.int .i64 a0_3) := (blk_cell BB.out 3).trans rfl) | ((fail_if_success (have h_ := nope_)); go_at_call 8; (with_reducible refine (capstanlaw08_Spoil.calls (fun k_ => w2.heap.size ≤ k_ ∧ k_ < w4.heap.size) (fun k_ => w2.heap.size ≤ k_ ∧ k_ < w4.heap.size) (fun k_ => w2.heap.size ≤ k_ ∧ k_ < w4.heap.size) _ l0_0 _ l0_1 _ l0_2 a0_3 w _ HB.out (Kd.R_lower MM.out.r0 (by have q1 := O1.out; have q2 := O2.out; have q3 := O3.out; have q4 := O4.out; have q5 := O5.out; have q6 := O6.out; have q7 := O7.out; have q8 := OG.out; omega)) (Kd.R_lower MM.out.r1 (by have q1 := O1.out; have q2 := O2.out; have q3 := O3.out; have q4 := O4.out; have q5 := O5.out; have q6 := O6.out; have q7 := O7.out; have q8 := OG.out; omega)) (Kd.R_lower MM.out.r2 (by have q1 := O1.out; have q2 := O2.out; have q3 := O3.out; have q4 := O4.out; have q5 := O5.out; have q6 := O6.out; have q7 := O7.out; have q8 := OG.out; omega)) HL0.out HL1.out HL2.out HGD.out).mono ?_); rintro e y_ ⟨rfl, hb_, hk_⟩; have n0_ := Aside0.mk hb_; have m0_ := Aside0.mk (blk_kept' BM.out hk_ (by have q1 := O1.out; have q2 := O2.out; have q3 := O3.out; have q4 := O4.out; have q5 := O5.out; have q6 := O6.out; have q7 := O7.out; have q8 := OG.out; omega)); have m1_ := Aside0.mk (blk_kept' BN.out hk_ (by have q1 := O1.out; have q2 := O2.out; have q3 := O3.out; have q4 := O4.out; have q5 := O5.out; have q6 := O6.out; have q7 := O7.out; have q8 := OG.out; omega)); have m2_ := Aside0.mk (blk_kept' BA.out hk_ (by have q1 := O1.out; have q2 := O2.out; have q3 := O3.out; have q4 := O4.out; have q5 := O5.out; have q6 := O6.out; have q7 := O7.out; have q8 := OG.out; omega)); have m3_ := Aside0.mk (blk_kept' BB.out hk_ (by have q1 := O1.out; have q2 := O2.out; have q3 := O3.out; have q4 := O4.out; have q5 := O5.out; have q6 := O6.out; have q7 := O7.out; have q8 := OG.out; omega)); have v0_ := Aside0.mk (MB.out.kept hk_ (by have q1 := O1.out; have q2 := O2.out; have q3 := O3.out; have q4 := O4.out; have q5 := O5.out; have q6 := O6.out; have q7 := O7.out; have q8 := OG.out; omega)); clear HB BM BN BA BB MB MM; have HB := n0_; have BM := m0_; have BN := m1_; have BA := m2_; have BB := m3_; have MB := v0_; clear n0_ m0_ m1_ m2_ m3_ v0_ hb_ hk_; clear hBM0 hBM1 hBM2 hBM3; have hBM0 : y_.cell? ⟨gm, 0, none⟩ = some (.slice A0_0 l0_0.length c0_0) := (blk_cell BM.out 0).trans rfl; have hBM1 : y_.cell? ⟨gm, 1, none⟩ = some (.slice A0_1 l0_1.length c0_1) := (blk_cell BM.out 1).trans rfl; have hBM2 : y_.cell? ⟨gm, 2, none⟩ = some (.slice A0_2 l0_2.length c0_2) := (blk_cell BM.out 2).trans rfl; have hBM3 : y_.cell? ⟨gm, 3, none⟩ = some (.int .i64 a0_3) := (blk_cell BM.out 3).trans rfl; clear hBN0 hBN1 hBN2 hBN3; have hBN0 : y_.cell? ⟨gn, 0, none⟩ = some (.slice N0 l0_0.length cn0) := (blk_cell BN.out 0).trans rfl; have hBN1 : y_.cell? ⟨gn, 1, none⟩ = some (.slice N1 l0_1.length cn1) := (blk_cell BN.out 1).trans rfl; have hBN2 : y_.cell? ⟨gn, 2, none⟩ = some (.slice N2 l0_2.length cn2) := (blk_cell BN.out 2).trans rfl; have hBN3 : y_.cell? ⟨gn, 3, none⟩ = some (.int .i64 a0_3) := (blk_cell BN.out 3).trans rfl; clear hBA0 hBA1 hBA2 hBA3; have hBA0 : y_.cell? ⟨g4, 0, none⟩ = some (.slice Aa0 l0_0.length ca0) := (blk_cell BA.out 0).trans rfl; have hBA1 : y_.cell? ⟨g4, 1, none⟩ = some (.slice Aa1 l0_1.length ca1) := (blk_cell BA.out 1).trans rfl; have hBA2 : y_.cell? ⟨g4, 2, none⟩ = some (.slice Aa2 l0_2.length ca2) := (blk_cell BA.out 2).trans rfl; have hBA3 : y_.cell? ⟨g4, 3, none⟩ = some (.int .i64 a0_3) := (blk_cell BA.out 3).trans rfl; clear hBB0 hBB1 hBB2 hBB3; have hBB0 : y_.cell? ⟨g5, 0, none⟩ = some (.slice Ab0 l0_0.length cb0) := (blk_cell BB.out 0).trans rfl; have hBB1 : y_.cell? ⟨g5, 1, none⟩ = some (.slice Ab1 l0_1.length cb1) := (blk_cell BB.out 1).trans rfl; have hBB2 : y_.cell? ⟨g5, 2, none⟩ = some (.slice Ab2 l0_2.length cb2) := (blk_cell BB.out 2).trans rfl; have hBB3 : y_.cell? ⟨g5, 3, none⟩ = some (.int .i64 a0_3) := (blk_cell BB.out 3).trans rfl) | ((fail_if_success (have h_ := nope_)); go_at_call 7; (with_reducible refine (capstanref08_Same.calls k Ab0 cb0 l0_0 Ab1 cb1 l0_1 Ab2 cb2 l0_2 a0_3 A0_0 c0_0 l0_0 A0_1 c0_1 l0_1 A0_2 c0_2 l0_2 a0_3 true _ (Kd.R_reads' MB.out.r0).2.2 (Kd.R_reads' MB.out.r0).2.1 (Kd.R_reads' MB.out.r1).2.2 (Kd.R_reads' MB.out.r1).2.1 (Kd.R_reads' MB.out.r2).2.2 (Kd.R_reads' MB.out.r2).2.1 (Kd.C_below HR0.out HB.out) HC0.out (Kd.C_below HR1.out HB.out) HC1.out (Kd.C_below HR2.out HB.out) HC2.out HSM.out).mono ?_); rintro e y_ ⟨rfl, hb_⟩; have n0_ := Aside0.mk (HB.out.trans (hb_.mono HB.out.size)); have m0_ := Aside0.mk (blk_below BM.out hb_); have m1_ := Aside0.mk (blk_below BN.out hb_); have m2_ := Aside0.mk (blk_below BA.out hb_); have m3_ := Aside0.mk (blk_below BB.out hb_); have v0_ := Aside0.mk (MB.out.below hb_); clear HB BM BN BA BB MB; have HB := n0_; have BM := m0_; have BN := m1_; have BA := m2_; have BB := m3_; have MB := v0_; clear n0_ m0_ m1_ m2_ m3_ v0_ hb_; clear hBM0 hBM1 hBM2 hBM3; have hBM0 : y_.cell? ⟨gm, 0, none⟩ = some (.slice A0_0 l0_0.length c0_0) := (blk_cell BM.out 0).trans rfl; have hBM1 : y_.cell? ⟨gm, 1, none⟩ = some (.slice A0_1 l0_1.length c0_1) := (blk_cell BM.out 1).trans rfl; have hBM2 : y_.cell? ⟨gm, 2, none⟩ = some (.slice A0_2 l0_2.length c0_2) := (blk_cell BM.out 2).trans rfl; have hBM3 : y_.cell? ⟨gm, 3, none⟩ = some (.int .i64 a0_3) := (blk_cell BM.out 3).trans rfl; clear hBN0 hBN1 hBN2 hBN3; have hBN0 : y_.cell? ⟨gn, 0, none⟩ = some (.slice N0 l0_0.length cn0) := (blk_cell BN.out 0).trans rfl; have hBN1 : y_.cell? ⟨gn, 1, none⟩ = some (.slice N1 l0_1.length cn1) := (blk_cell BN.out 1).trans rfl; have hBN2 : y_.cell? ⟨gn, 2, none⟩ = some (.slice N2 l0_2.length cn2) := (blk_cell BN.out 2).trans rfl; have hBN3 : y_.cell? ⟨gn, 3, none⟩ = some (.int .i64 a0_3) := (blk_cell BN.out 3).trans rfl; clear hBA0 hBA1 hBA2 hBA3; have hBA0 : y_.cell? ⟨g4, 0, none⟩ = some (.slice Aa0 l0_0.length ca0) := (blk_cell BA.out 0).trans rfl; have hBA1 : y_.cell? ⟨g4, 1, none⟩ = some (.slice Aa1 l0_1.length ca1) := (blk_cell BA.out 1).trans rfl; have hBA2 : y_.cell? ⟨g4, 2, none⟩ = some (.slice Aa2 l0_2.length ca2) := (blk_cell BA.out 2).trans rfl; have hBA3 : y_.cell? ⟨g4, 3, none⟩ = some (.int .i64 a0_3) := (blk_cell BA.out 3).trans rfl; clear hBB0 hBB1 hBB2 hBB3; have hBB0 : y_.cell? ⟨g5, 0, none⟩ = some (.slice Ab0 l0_0.length cb0) := (blk_cell BB.out 0).trans rfl; have hBB1 : y_.cell? ⟨g5, 1, none⟩ = some (.slice Ab1 l0_1.length cb1) := (blk_cell BB.out 1).trans rfl; have hBB2 : y_.cell? ⟨g5, 2, none⟩ = some (.slice Ab2 l0_2.length cb2) := (blk_cell BB.out 2).trans rfl; have hBB3 : y_.cell? ⟨g5, 3, none⟩ = some (.int .i64 a0_3) := (blk_cell BB.out 3).trans rfl))
  go_ret
  exact ⟨rfl, HB.out⟩
end copieslaw
/-- THE ONE PURE STATEMENT of capstanlaw08_ModuleCopies. -/
def capstanlaw08_ModuleCopies.Pure : Prop := ∀ (l0_0 l0_1 : List (S38)) (l0_2 : List (S34)) (a0_3 : Int), ((l0_0.length ≤ maxLen ∧ ∀ y0_ ∈ l0_0, (Lit.int .u8 y0_.f0).wf = true ∧ (Lit.int .i64 y0_.f1).wf = true ∧ (Lit.int .i64 y0_.f2).wf = true) ∧ (l0_1.length ≤ maxLen ∧ ∀ y0_ ∈ l0_1, (Lit.int .u8 y0_.f0).wf = true ∧ (Lit.int .i64 y0_.f1).wf = true ∧ (Lit.int .i64 y0_.f2).wf = true) ∧ (l0_2.length ≤ maxLen ∧ ∀ y0_ ∈ l0_2, (y0_.f0.length ≤ maxLen ∧ ∀ y1_ ∈ y0_.f0, (Lit.int .u8 y1_).wf = true) ∧ (y0_.f1.length ≤ maxLen ∧ ∀ y1_ ∈ y0_.f1, (Lit.int .u8 y1_).wf = true) ∧ (Lit.int .u8 y0_.f2).wf = true ∧ True ∧ (Lit.int .i64 y0_.f4).wf = true ∧ (Lit.int .i64 y0_.f5).wf = true ∧ (Lit.int .i64 y0_.f6).wf = true ∧ (y0_.f7.length ≤ maxLen ∧ ∀ y1_ ∈ y0_.f7, (Lit.int .u8 y1_.f0).wf = true ∧ (Lit.int .i64 y1_.f1).wf = true ∧ (Lit.int .i64 y1_.f2).wf = true)) ∧ (Lit.int .i64 a0_3).wf = true) → ∃ k, capstanlaw08_Great.f k l0_0 l0_1 l0_2 a0_3 = some true ∨ (capstanlaw08_Great.f k l0_0 l0_1 l0_2 a0_3 = some false ∧ capstanref08_Copy.f k l0_0 l0_1 l0_2 a0_3 = some (l0_0, l0_1, l0_2, a0_3) ∧ capstanref08_Same.f k l0_0 l0_1 l0_2 a0_3 l0_0 l0_1 l0_2 a0_3 = some true ∧ l0_0.length ≤ 10000 ∧ l0_1.length ≤ 10000 ∧ l0_2.length ≤ 10000 ∧ mcGood l0_2 = true)
theorem capstanlaw08_ModuleCopies.walk (P : capstanlaw08_ModuleCopies.Pure) (A0_0 : Option Addr) (c0_0 : Nat) (l0_0 : List (S38)) (A0_1 : Option Addr) (c0_1 : Nat) (l0_1 : List (S38)) (A0_2 : Option Addr) (c0_2 : Nat) (l0_2 : List (S34)) (a0_3 : Int) (w : World) (hr0_0 : Kd.C k38 w A0_0 l0_0.length l0_0) (hc0_0 : l0_0.length ≤ c0_0) (hr0_1 : Kd.C k38 w A0_1 l0_1.length l0_1) (hc0_1 : l0_1.length ≤ c0_1) (hr0_2 : Kd.C k34 w A0_2 l0_2.length l0_2) (hc0_2 : l0_2.length ≤ c0_2) (g0 : (l0_0.length ≤ maxLen ∧ ∀ y0_ ∈ l0_0, (Lit.int .u8 y0_.f0).wf = true ∧ (Lit.int .i64 y0_.f1).wf = true ∧ (Lit.int .i64 y0_.f2).wf = true) ∧ (l0_1.length ≤ maxLen ∧ ∀ y0_ ∈ l0_1, (Lit.int .u8 y0_.f0).wf = true ∧ (Lit.int .i64 y0_.f1).wf = true ∧ (Lit.int .i64 y0_.f2).wf = true) ∧ (l0_2.length ≤ maxLen ∧ ∀ y0_ ∈ l0_2, (y0_.f0.length ≤ maxLen ∧ ∀ y1_ ∈ y0_.f0, (Lit.int .u8 y1_).wf = true) ∧ (y0_.f1.length ≤ maxLen ∧ ∀ y1_ ∈ y0_.f1, (Lit.int .u8 y1_).wf = true) ∧ (Lit.int .u8 y0_.f2).wf = true ∧ True ∧ (Lit.int .i64 y0_.f4).wf = true ∧ (Lit.int .i64 y0_.f5).wf = true ∧ (Lit.int .i64 y0_.f6).wf = true ∧ (y0_.f7.length ≤ maxLen ∧ ∀ y1_ ∈ y0_.f7, (Lit.int .u8 y1_.f0).wf = true ∧ (Lit.int .i64 y1_.f1).wf = true ∧ (Lit.int .i64 y1_.f2).wf = true)) ∧ (Lit.int .i64 a0_3).wf = true) :
    Calls Try.prog 3 #[.agg #[.slice A0_0 l0_0.length c0_0, .slice A0_1 l0_1.length c0_1, .slice A0_2 l0_2.length c0_2, .int .i64 a0_3]] w fun e w' => e = .returned (.bool true) ∧ Below w.heap.size w w' := by
  obtain ⟨k, h | ⟨h1, h2, h3, h4, h5, h6, h7⟩⟩ := P l0_0 l0_1 l0_2 a0_3 g0
  · exact capstanlaw08_ModuleCopies.great k A0_0 c0_0 l0_0 A0_1 c0_1 l0_1 A0_2 c0_2 l0_2 a0_3 w hr0_0 hc0_0 hr0_1 hc0_1 hr0_2 hc0_2 h
  · exact capstanlaw08_ModuleCopies.small k A0_0 c0_0 l0_0 A0_1 c0_1 l0_1 A0_2 c0_2 l0_2 a0_3 w hr0_0 hc0_0 hr0_1 hc0_1 hr0_2 hc0_2 h1 h2 h3 h4 h5 h6 h7

end Go.Proofs.Ytilhmjhblfpknaa.P
