/- Contracts of the functions of this seat (each: the call of the function does what the plain Lean function of the same name tells; the conditions stand in each statement). Written by a program of this session and by hand; checked by Lean. -/
import Derived.Test.YtkmnachdibhdhaaU0
import Derived.Test.YtkmnachdibhdhaaU10
namespace Go.Proofs.Ytkmnachdibhdhaa.U
open Go.RowKit Go.Proofs.YtkmnachdibhdhaaW.PrintWords Go.Proofs.YtkmnachdibhdhaaW.PrintLast Go.Proofs.YtkmnachdibhdhaaW.PrintMore
attribute [local go_sem] max2_int min2_int max_two min_two max_three min_three max_four min_four   -- for this text's walks alone
set_option linter.unusedVariables false
set_option linter.unusedSimpArgs false

/-! ### module_Copy: function 45 -/
section modcopy
set_option maxRecDepth 100000
open Kd
/-- slices.Clone of methods: their cells alone. -/
theorem mc_clone (A0 : Option Addr) (c0 : Nat) (l0 : List S52) (w0 w : World) (hb0 : Below w0.heap.size w0 w) (hr0 : Kd.C k52 w0 A0 l0.length l0) (hc0 : l0.length ≤ c0) (hl : l0.length ≤ 10000) :
    Calls Try.prog 64 #[.slice A0 l0.length c0] w fun e w' => ∃ (Am : Option Addr) (cm : Nat) (rows : List (List Value)), e = .returned (.slice Am l0.length cm) ∧ rows.length = l0.length ∧ (∀ (j : Nat) (x : S52) (c : List Value), l0[j]? = some x → rows[j]? = some c → (k52).K w0 x c) ∧ (Kd.raw 8).R 52 w' w.heap.size (fun _ => True) (.slice Am l0.length cm) rows ∧ Below w.heap.size w w' := by
  have HB := Aside0.mk (Below.refl w.heap.size w)
  have hn0 : ∀ (W : World) (n c : Nat) (A : Option Addr), (binOp .eql 23 (.slice A n c) (.slice none 0 0)).run Try.prog W = .ok (.bool A.isNone) W := fun W n c A => Lib.run_eql_slice_nil W _ _ A n c 0 0 Try.underlying23
  cases A0 with
  | none =>
    have h0 : l0 = [] := by
      rcases Nat.eq_zero_or_pos l0.length with h0 | h0
      · exact List.eq_nil_of_length_eq_zero h0
      · obtain ⟨ad, e, _⟩ := hr0.2.2 h0
        cases e
    subst h0; clear hr0 hc0 hb0
    go_enter Try.func64, Try.ntmps64
    go_wp2; go_ret; exact ⟨none, 0, [], rfl, rfl, fun j x c h => by simp at h, Kd.R_nil _ _ _ _ _, HB.out⟩
  | some ad =>
    obtain ⟨news, hnl, hnr, hnf⟩ := Kd.reads_raw hr0 (fun y c hk => ⟨(k52).K_len hk, (k52).K_one hk⟩); have HNL := Aside0.mk hnl; have HNF := Aside0.mk hnf; have HNR : Aside0 ((Kd.raw 8).C w (some ad) l0.length news) := ⟨Kd.C_below (show (Kd.raw 8).C w0 (some ad) l0.length news from hnr) hb0⟩; clear hr0 hc0 hnl hnr hnf hb0
    go_enter Try.func64, Try.ntmps64
    go_wp2_with (first | ((with_reducible refine gate_dst (N := 5) rfl ?_); refine Kd.R_lit (Kd.raw 8) _ 52 ?hg (N := 5) ?hd (xs := ([] : List (List Value))) (inner := []) (ok := fun _ => True) (okp := fun _ => True) ?hr ?hp (fun _ hk => hk) trivial (Below.refl _ _) (Nat.le_refl _) (by simp) ?_; (case hd => rfl); (case hg => rfl); (case hr => first | (go_simp; done) | (go_simp; rfl)); (case hp => exact (Reps.none _ _)); intro v233 w7 ho8 hb hg_ hnew_; clear hg_ hnew_; have n0_ := Aside0.mk (Kd.R_lower ho8 (below_size HB.out)); have n1_ := Aside0.mk (below_step HB.out hb); clear HB; have HO234 := n0_; have HB := n1_; clear n0_ n1_; clear hb ho8) | ((with_reducible refine gate_builtin (b := .append) (xs := #[.tmp 5, .tmp 6]) rfl ?_); at_builtin; refine Kd.R_append_rows (Kd.raw 8) (w0 := w) w.heap.size rfl (.tmp 5) (.tmp 6) 23 52 (.agg #[(.slice none 0 0), (.slice none 0 0), (.int .u8 0), (.bool false), (.int .i64 0), (.int .i64 0), (.int .i64 0), (.slice none 0 0)]) 104 rfl Try.underlying23 info52 rfl (by decide) (by omega) v233 ([] : List (List Value)) news _ _ _ (fun _ => True) (fun _ => False) rfl rfl ?aO ?aR (fun _ _ h => h) (fun _ h => h.elim) ?aF ?aB ?aS ?aL ?_; (case aR => repeat (first | exact (Kd.C_below HNR.out HB.out) | (with_reducible refine Kd.C_alloc ?_ _) | (with_reducible refine Kd.C_drewN ?_ _) | (with_reducible refine Kd.C_drew ?_))); (case aB => exact (au48)); (case aF => exact (fun _ _ => trivial)); (case aO => exact (au102)); (case aS => exact (below_size (au48))); (case aL => simp only [List.length_nil, Nat.zero_add]; omega); intro v242 w9 ho hb hg hat; have n0_ := Aside0.mk (hb); have n1_ := Aside0.mk (ho); clear HB; have HB := n0_; have HO243 := n1_; clear n0_ n1_; clear ho hb hg hat))
    go_ret; obtain ⟨Am, cm, rfl⟩ := Kd.R_slice HO243.out; have hle : ([] ++ news).length = l0.length := HNL.out; have HO := HO243.out; rw [hle] at HO ⊢; exact ⟨Am, cm, news, rfl, HNL.out, HNF.out, HO, HB.out⟩
/-- Cells of a row of cells. -/
theorem mc_at {W : World} {e base g n cap : Nat} {ok : Nat → Prop} {rows : List (List Value)} (h : (Kd.raw 8).R e W base ok (.slice (some ⟨g, 0, none⟩) n cap) rows) (i : Nat) (hi : i < n) (c : List Value) (hc : rows[i]? = some c) : ∀ j u, c[j]? = some u → W.cell? ⟨g, i * 8 + j, none⟩ = some u := by
  obtain ⟨c', _, hM, hcc, _⟩ := Kd.R_elem h [] (i : Int) (by omega) (by omega); rw [Int.toNat_natCast, List.getD_eq_getElem?_getD, hc] at hM; obtain rfl : c' = c := hM.1; rw [Int.toNat_natCast] at hcc; exact hcc
theorem mc_frozen {W : World} {e base g n cap : Nat} {ok : Nat → Prop} {rows : List (List Value)} (h : (Kd.raw 8).R e W base ok (.slice (some ⟨g, 0, none⟩) n cap) rows) (i : Nat) (hi : i < n) : W.frozen? ⟨g, i * 8, none⟩ = false ∧ W.frozen? ⟨g, i * 8 + 1, none⟩ = false ∧ W.frozen? ⟨g, i * 8 + 7, none⟩ = false := by
  obtain ⟨_, _, _, _, hf⟩ := Kd.R_elem h [] (i : Int) (by omega) (by omega); rw [Int.toNat_natCast] at hf; exact ⟨hf 0, hf 1, hf 7⟩
theorem mc_put {W : World} {e base g n cap : Nat} {ok : Nat → Prop} {rows : List (List Value)} (h : (Kd.raw 8).R e W base ok (.slice (some ⟨g, 0, none⟩) n cap) rows) (i : Nat) (hi : i < n) (c : List Value) (hc : rows[i]? = some c) (q : Nat) (hq : q < 8) (u : Value) (hu : u.oneCell' = true) :
    (Kd.raw 8).R e (W.setCell ⟨g, i * 8 + q, none⟩ u) base ok (.slice (some ⟨g, 0, none⟩) n cap) (rows.set i (c.set q u)) := by
  obtain ⟨c', hcl, hM, hcc, _⟩ := Kd.R_elem h [] (i : Int) (by omega) (by omega); rw [Int.toNat_natCast, List.getD_eq_getElem?_getD, hc] at hM; obtain rfl : c' = c := hM.1; have h8 : c'.length = 8 := hcl; have hone := hM.2.2
  have hset : c'.take q ++ [u] ++ c'.drop (q + 1) = c'.set q u := by
    rw [List.set_eq_take_append_cons_drop, if_pos (by omega)]
    simp
  have := Kd.R_seg (okp := fun _ => False) h (i : Int) (by omega) (by omega) hcl hcc (seg := [u]) (j := q) (by show q + 1 ≤ 8; omega) (x' := c'.set q u) (by
    rw [List.length_singleton, hset]; refine ⟨rfl, by rw [List.length_set]; exact h8, fun y hy => ?_⟩
    rcases List.mem_or_eq_of_mem_set hy with hy | hy
    · exact hone y hy
    · rw [hy]; exact hu) (fun _ hk => hk.elim)
  rw [Int.toNat_natCast] at this; exact this.1
theorem mc_put3 {W : World} {e base g n cap : Nat} {ok : Nat → Prop} {rows : List (List Value)} (h : (Kd.raw 8).R e W base ok (.slice (some ⟨g, 0, none⟩) n cap) rows) (i : Nat) (hi : i < n) {s0 s1 x2 x3 x4 x5 x6 s7 : Value} (hc : rows[i]? = some [s0, s1, x2, x3, x4, x5, x6, s7]) (u0 u1 u7 : Value) (h0 : u0.oneCell' = true) (h1 : u1.oneCell' = true) (h7 : u7.oneCell' = true) :
    (Kd.raw 8).R e (((W.setCell ⟨g, i * 8, none⟩ u0).setCell ⟨g, i * 8 + 1, none⟩ u1).setCell ⟨g, i * 8 + 7, none⟩ u7) base ok (.slice (some ⟨g, 0, none⟩) n cap) (rows.set i [u0, u1, x2, x3, x4, x5, x6, u7]) := by
  have hil : i < rows.length := (List.getElem?_eq_some_iff.1 hc).1; have a := mc_put h i hi _ hc 0 (by decide) u0 h0; have b := mc_put a i hi _ (List.getElem?_set_self hil) 1 (by decide) u1 h1; have d := mc_put b i hi _ (List.getElem?_set_self (by simpa using hil)) 7 (by decide) u7 h7; rw [List.set_set, List.set_set] at d; exact d
/-- Midway: the methods ahead of i have rows of their own; of the others the cells are those that were read. -/
structure MC (W : World) (base N2 N3 : Nat) (v : Value) (f : Nat → Nat) (ms : List S52) (src rows : List (List Value)) (i : Nat) : Prop where
  len : rows.length = ms.length
  row : (Kd.raw 8).R 52 W base (fun k => N2 ≤ k ∧ k < N3) v rows
  done : ∀ (j : Nat) (x : S52) (c : List Value), j < i → ms[j]? = some x → rows[j]? = some c → (k52).M W base (fun k => N3 ≤ k ∧ f k = j) x c
  todo : ∀ j, i ≤ j → rows[j]? = src[j]?
theorem MC.move {W W1 : World} {base N2 N3 : Nat} {v : Value} {f : Nat → Nat} {ms : List S52} {src rows : List (List Value)} {i : Nat} (h : MC W base N2 N3 v f ms src rows i) (hN : N2 ≤ N3) (hk : ∀ k, N2 ≤ k → k < W.heap.size → W1.heap[k]? = W.heap[k]?) : MC W1 base N2 N3 v f ms src rows i :=
  ⟨h.len, Kd.R_step h.row (fun k ho hlt => hk k ho.1 hlt), fun j x c hj hx hc => (k52).M_mono (fun k hk => hk.1) ((k52).M_move (fun k hk' => hk k (Nat.le_trans hN hk'.1.1) hk'.2.2.1) ((k52).M_bound (h.done j x c hj hx hc))), h.todo⟩
theorem MC.next {W W1 : World} {base N2 N3 g n cap : Nat} {f : Nat → Nat} {ms : List S52} {src rows : List (List Value)} {i : Nat} (h : MC W base N2 N3 (.slice (some ⟨g, 0, none⟩) n cap) f ms src rows i) (x : S52) (hx : ms[i]? = some x) (hN : N3 ≤ W.heap.size) (hg : g < N3) (hkeep : ∀ k, N3 ≤ k → k < W.heap.size → W1.heap[k]? = W.heap[k]?)
    {v0 v1 v7 : Value} (r0 : (Kd.int .u8).R 5 W1 base (fun k => W.heap.size ≤ k) v0 x.f0) (r1 : (Kd.int .u8).R 5 W1 base (fun k => W.heap.size ≤ k) v1 x.f1) (r7 : (k70).R 70 W1 base (fun k => W.heap.size ≤ k) v7 x.f7)
    (hrow : (Kd.raw 8).R 52 W1 base (fun k => N2 ≤ k ∧ k < N3) (.slice (some ⟨g, 0, none⟩) n cap) (rows.set i [v0, v1, .int .u8 x.f2, .bool x.f3, .int .i64 x.f4, .int .i64 x.f5, .int .i64 x.f6, v7])) :
    ∃ f', MC W1 base N2 N3 (.slice (some ⟨g, 0, none⟩) n cap) f' ms src (rows.set i [v0, v1, .int .u8 x.f2, .bool x.f3, .int .i64 x.f4, .int .i64 x.f5, .int .i64 x.f6, v7]) (i + 1) := by
  have hil : i < rows.length := by rw [h.len]; exact (List.getElem?_eq_some_iff.1 hx).1
  refine ⟨fun k => if k < W.heap.size then f k else i, by rw [List.length_set]; exact h.len, hrow, fun j y c hj hy hc => ?_, fun j hj => ?_⟩
  · by_cases e : j = i
    · subst e
      rw [List.getElem?_set_self hil] at hc; obtain rfl := Option.some.inj hc
      obtain rfl : x = y := by rw [hx] at hy; exact Option.some.inj hy
      have ok : ∀ k, W.heap.size ≤ k → N3 ≤ k ∧ (if k < W.heap.size then f k else j) = j := fun k hk => ⟨by omega, if_neg (by omega)⟩
      exact k52_mkM W1 base _ x (Kd.R_mono r0 ok) (Kd.R_mono r1 ok) (Kd.R_mono r7 ok)
    · rw [List.getElem?_set_ne (Ne.symm e)] at hc
      refine (k52).M_mono (fun k hk => ?_) ((k52).M_move (fun k hk => hkeep k hk.1.1 hk.2.2.1) ((k52).M_bound (h.done j y c (by omega) hy hc))); exact ⟨hk.1.1, (if_pos hk.2.2.1).trans hk.1.2⟩
  · rw [List.getElem?_set_ne (by omega)]
    exact h.todo j (by omega)
theorem MC.fin {W : World} {base N2 N3 : Nat} {v : Value} {f : Nat → Nat} {ms : List S52} {src rows : List (List Value)} (h : MC W base N2 N3 v f ms src rows ms.length) : Kd.S k52 52 W base (fun _ => True) v ms := by
  obtain ⟨h0, inner, ho, hr⟩ := h.row
  have hz : ms.zipIdx.length = rows.length := by rw [List.length_zipIdx, h.len]
  refine ⟨f, fun _ _ => trivial, inner, by rw [hz]; exact ho, by rw [hz]; exact hr.1, fun j p hj => ?_⟩; rw [List.getElem?_zipIdx] at hj; obtain ⟨x, hx, rfl⟩ := Option.map_eq_some_iff.1 hj
  have hjl : j < rows.length := by rw [h.len]; exact (List.getElem?_eq_some_iff.1 hx).1
  have hseg := hr.2 j _ (List.getElem?_eq_getElem hjl); have hd := h.done j x rows[j] (by rw [← h.len]; exact hjl) hx (List.getElem?_eq_getElem hjl); rw [← hseg.1] at hd; refine (k52).M_mono (fun k hk => ⟨⟨trivial, fun e => ?_⟩, by rw [Nat.zero_add]; exact hk.2⟩) hd; have := (h0 k e.symm).2; have := hk.1; omega
def mcGood (ms : List S52) : Bool := ms.all fun x => decide (x.f0.length ≤ 1000000) && decide (x.f1.length ≤ 1000000) && decide (x.f7.length ≤ 1000000)
def module_Copy.f (l0_0 l0_1 : List S86) (l0_2 : List S52) (a0_3 : Int) : Option (List S86 × List S86 × List S52 × Int) := if l0_0.length ≤ 10000 ∧ l0_1.length ≤ 10000 ∧ l0_2.length ≤ 10000 ∧ mcGood l0_2 = true then some (l0_0, l0_1, l0_2, a0_3) else none
set_option maxHeartbeats 8000000 in
theorem module_Copy.calls (A0_0 : Option Addr) (c0_0 : Nat) (l0_0 : List (S86)) (A0_1 : Option Addr) (c0_1 : Nat) (l0_1 : List (S86)) (A0_2 : Option Addr) (c0_2 : Nat) (l0_2 : List (S52)) (a0_3 : Int) (r1 : List (S86)) (r2 : List (S86)) (r3 : List (S52)) (r4 : Int) (w : World) (hr0_0 : Kd.C k86 w A0_0 l0_0.length l0_0) (hc0_0 : l0_0.length ≤ c0_0) (hr0_1 : Kd.C k86 w A0_1 l0_1.length l0_1) (hc0_1 : l0_1.length ≤ c0_1) (hr0_2 : Kd.C k52 w A0_2 l0_2.length l0_2) (hc0_2 : l0_2.length ≤ c0_2) (h : module_Copy.f l0_0 l0_1 l0_2 a0_3 = some (r1, r2, r3, r4)) :
    Calls Try.prog 45 #[.agg #[.slice A0_0 l0_0.length c0_0, .slice A0_1 l0_1.length c0_1, .slice A0_2 l0_2.length c0_2, .int .i64 a0_3]] w fun e w' => ∃ v0_ v1_ v2_ : Value, e = .returned (.agg #[v0_, v1_, v2_, .int .i64 r4]) ∧ Kd.R k86 86 w' w.heap.size (fun k_ => some k_ ≠ (v1_ : Value).ownBlock) v0_ r1 ∧ Kd.R k86 86 w' w.heap.size (fun k_ => some k_ ≠ (v0_ : Value).ownBlock) v1_ r2 ∧ Kd.S k52 52 w' w.heap.size (fun _ => True) v2_ r3 ∧ Below w.heap.size w w' := by
  have HR0 := Aside0.mk hr0_0; have HR1 := Aside0.mk hr0_1; have HR2 := Aside0.mk hr0_2; have HC0 := Aside0.mk hc0_0; have HC1 := Aside0.mk hc0_1; have HC2 := Aside0.mk hc0_2; clear hr0_0 hr0_1 hr0_2 hc0_0 hc0_1 hc0_2
  unfold module_Copy.f at h
  by_cases hb : l0_0.length ≤ 10000 ∧ l0_1.length ≤ 10000 ∧ l0_2.length ≤ 10000 ∧ mcGood l0_2 = true
  case neg => rw [if_neg hb] at h; cases h
  rw [if_pos hb] at h
  obtain ⟨rfl, rfl, rfl, rfl⟩ := (by simpa using h : l0_0 = r1 ∧ l0_1 = r2 ∧ l0_2 = r3 ∧ a0_3 = r4); obtain ⟨hm0, hm1, hm2, hgood⟩ := hb; have HF0 : Aside0 (slices_Clone_api_Value_api_Value.f l0_0 = some l0_0) := ⟨by unfold slices_Clone_api_Value_api_Value.f; rw [if_pos (by omega)]⟩; have HF1 : Aside0 (slices_Clone_api_Value_api_Value.f l0_1 = some l0_1) := ⟨by unfold slices_Clone_api_Value_api_Value.f; rw [if_pos (by omega)]⟩; have HF2 := Aside0.mk hm2; have HGD := Aside0.mk hgood
  have hmix : Try.prog.follows .mixedOrders = true := by kernel_rfl
  clear h hm0 hm1 hm2 hgood
  go_enter Try.func45, Try.ntmps45
  go_upto_region 1 with (first | ((with_reducible refine gate_dst (N := 1) rfl ?_); refine box_event ?hg (N := 1) ?hd (cs := #[.slice A0_0 l0_0.length c0_0, .slice A0_1 l0_1.length c0_1, .slice A0_2 l0_2.length c0_2, .int .i64 a0_3]) (t := 25) ?hr ?_; (case hd => rfl); (case hg => rfl); (case hr => first | (go_simp; done) | (go_simp; rfl)); intro gb1 hggb1 w1 hbox hbgb1; have BKgb1 := Aside0.mk hbox; have HGgb1 := Aside0.mk hggb1; have HBgb1 := Aside0.mk hbgb1; clear hggb1 hbgb1 hbox) | ((with_reducible refine gate_dst (N := 2) rfl ?_); refine box_event ?hg (N := 2) ?hd (cs := #[.slice none 0 0, .slice none 0 0, .slice none 0 0, .int .i64 0]) (t := 25) ?hr ?_; (case hd => rfl); (case hg => rfl); (case hr => first | (go_simp; done) | (go_simp; rfl)); intro gb2 hggb2 w2 hbox hbgb2; have BKgb2 := Aside0.mk hbox; have HGgb2 := Aside0.mk hggb2; have HBgb2 := Aside0.mk hbgb2; clear hggb2 hbgb2 hbox))
  have HBd : Aside0 (Below w.heap.size w w2.drew) := ⟨(HBgb1.out.trans (HBgb2.out.mono HBgb1.out.size)).drew⟩; have BK1d : Aside0 (w2.drew.heap[gb1]? = some (.cells #[.slice A0_0 l0_0.length c0_0, .slice A0_1 l0_1.length c0_1, .slice A0_2 l0_2.length c0_2, .int .i64 a0_3] 25 (0, 0))) := ⟨blk_drew (blk_below BKgb1.out HBgb2.out)⟩; have BK2d : Aside0 (w2.drew.heap[gb2]? = some (.cells #[.slice none 0 0, .slice none 0 0, .slice none 0 0, .int .i64 0] 25 (0, 0))) := ⟨blk_drew BKgb2.out⟩; have HGE1 : Aside0 (w.heap.size ≤ gb1) := ⟨Nat.le_of_eq HGgb1.out.symm⟩; have HGE2 : Aside0 (w.heap.size ≤ gb2) := ⟨Nat.le_trans HBgb1.out.size (Nat.le_of_eq HGgb2.out.symm)⟩; have HNE : Aside0 (gb1 ≠ gb2) := ⟨fun e => by have h1 := blk_lt BKgb1.out; have h2 := HGgb2.out; omega⟩; have HL1 := Aside0.mk (blk_lt BK1d.out); have HL2 := Aside0.mk (blk_lt BK2d.out); clear HBgb1 HBgb2 BKgb1 BKgb2 HGgb1 HGgb2; refine start_ (n := 15) (S := fun w' => w'.cell? ⟨gb1, 0, none⟩ = some (.slice A0_0 l0_0.length c0_0) ∧ w'.cell? ⟨gb1, 1, none⟩ = some (.slice A0_1 l0_1.length c0_1) ∧ w'.cell? ⟨gb1, 2, none⟩ = some (.slice A0_2 l0_2.length c0_2)) (ds := [10, 12, 14]) #[false, false, false, false, false, false, false, false, false, false, false, false, false, false, false] (by kernel_rfl) rfl rfl ⟨(blk_cell BK1d.out 0).trans rfl, (blk_cell BK1d.out 1).trans rfl, (blk_cell BK1d.out 2).trans rfl⟩ (fun hHeld => ?_)
  generalize w2.drew = wd at *
  refine pure_ (i := 0) (N := some 5) (v := ?_) (a' := ?_) #[true, false, false, false, false, false, false, false, false, false, false, false, false, false, false] rfl rfl (by kernel_rfl) (fun _ _ _ h => h) (Or.inl ⟨by rfl, ?_⟩) ?_ ?_; rotate_left
  · intro w'
    go_simp; with_reducible rfl
  rotate_left
  · simp only [Act.put, List.setIfInBounds_toArray, List.set_cons_zero, List.set_cons_succ, i64_w, i32_w]
    rfl
  refine pure_ (i := 3) (N := some 8) (v := ?_) (a' := ?_) #[true, false, false, true, false, false, false, false, false, false, false, false, false, false, false] rfl rfl (by kernel_rfl) (fun _ _ _ h => h) (Or.inl ⟨by rfl, ?_⟩) ?_ ?_; rotate_left
  · intro w'
    go_simp; with_reducible rfl
  rotate_left
  · simp only [Act.put, List.setIfInBounds_toArray, List.set_cons_zero, List.set_cons_succ, i64_w, i32_w]
    rfl
  refine pure_ (i := 6) (N := some 11) (v := ?_) (a' := ?_) #[true, false, false, true, false, false, true, false, false, false, false, false, false, false, false] rfl rfl (by kernel_rfl) (fun _ _ _ h => h) (Or.inl ⟨by rfl, ?_⟩) ?_ ?_; rotate_left
  · intro w'
    go_simp; with_reducible rfl
  rotate_left
  · simp only [Act.put, List.setIfInBounds_toArray, List.set_cons_zero, List.set_cons_succ, i64_w, i32_w]
    rfl
  refine take_ (i := 1) (N := some 6) (v := ?_) (a' := ?_) #[true, true, false, true, false, false, true, false, false, false, false, false, false, false, false] rfl rfl (by kernel_rfl) (fun _ _ _ h => h) (Or.inl ⟨by rfl, ?_⟩) hHeld ?_ ?_; rotate_left
  · rintro w' ⟨s0, s1, s2⟩
    go_simp; with_reducible rfl
  rotate_left
  · simp only [Act.put, List.setIfInBounds_toArray, List.set_cons_zero, List.set_cons_succ, i64_w, i32_w]
    rfl
  refine take_ (i := 4) (N := some 9) (v := ?_) (a' := ?_) #[true, true, false, true, true, false, true, false, false, false, false, false, false, false, false] rfl rfl (by kernel_rfl) (fun _ _ _ h => h) (Or.inl ⟨by rfl, ?_⟩) hHeld ?_ ?_; rotate_left
  · rintro w' ⟨s0, s1, s2⟩
    go_simp; with_reducible rfl
  rotate_left
  · simp only [Act.put, List.setIfInBounds_toArray, List.set_cons_zero, List.set_cons_succ, i64_w, i32_w]
    rfl
  refine take_ (i := 7) (N := some 12) (v := ?_) (a' := ?_) #[true, true, false, true, true, false, true, true, false, false, false, false, false, false, false] rfl rfl (by kernel_rfl) (fun _ _ _ h => h) (Or.inl ⟨by rfl, ?_⟩) hHeld ?_ ?_; rotate_left
  · rintro w' ⟨s0, s1, s2⟩
    go_simp; with_reducible rfl
  rotate_left
  · simp only [Act.put, List.setIfInBounds_toArray, List.set_cons_zero, List.set_cons_succ, i64_w, i32_w]
    rfl
  refine one_ (i := 2) (N := some 7) #[true, true, true, true, true, false, true, true, false, false, false, false, false, false, false] rfl rfl (by kernel_rfl) (by decide) (fun K hK => ?_); refine goes_ Try.func63 (by kernel_rfl) rfl #[.slice A0_0 l0_0.length c0_0] (by rfl) rfl rfl (au60) ?_; refine (slices_Clone_api_Value_api_Value.calls A0_0 c0_0 l0_0 l0_0 _ (Kd.C_below HR0.out HBd.out) HC0.out HF0.out).mono ?_; rintro e w3 ⟨v0, rfl, ho0, hb3⟩; refine ⟨_, rfl, ?_⟩; obtain ⟨Ao0, co0, rfl⟩ := Kd.R_slice ho0; have HO0 := Aside0.mk (Kd.R_mono (ok' := fun k => wd.heap.size ≤ k ∧ k < w3.heap.size) (Kd.R_bound ho0) (fun k hk => ⟨hk.2.1, hk.2.2.1⟩)); have BK1_3 := Aside0.mk (blk_below BK1d.out hb3); have BK2_3 := Aside0.mk (blk_below BK2d.out hb3); have HB3 := Aside0.mk (HBd.out.trans (hb3.mono HBd.out.size)); have HS3 := Aside0.mk hb3.size; clear hb3 ho0; refine hK.out _ _ ⟨(blk_cell BK1_3.out 0).trans rfl, (blk_cell BK1_3.out 1).trans rfl, (blk_cell BK1_3.out 2).trans rfl⟩ (fun hHeld => ?_); clear hK K; refine norm_ (a' := ?_) ?_ ?_; rotate_left
  · show Act.put _ (some 7) _ = _
    simp only [Act.put, List.setIfInBounds_toArray, List.set_cons_zero, List.set_cons_succ, i64_w, i32_w]; rfl
  refine pure_ (i := 9) (N := some 14) (v := ?_) (a' := ?_) #[true, true, true, true, true, false, true, true, false, true, false, false, false, false, false] rfl rfl (by kernel_rfl) (fun _ _ _ h => h) (Or.inl ⟨by rfl, ?_⟩) ?_ ?_; rotate_left
  · intro w'
    go_simp; with_reducible rfl
  rotate_left
  · simp only [Act.put, List.setIfInBounds_toArray, List.set_cons_zero, List.set_cons_succ, i64_w, i32_w]
    rfl
  refine one_ (i := 5) (N := some 10) #[true, true, true, true, true, true, true, true, false, true, false, false, false, false, false] rfl rfl (by kernel_rfl) (by decide) (fun K hK => ?_); refine goes_ Try.func63 (by kernel_rfl) rfl #[.slice A0_1 l0_1.length c0_1] (by rfl) rfl rfl (au60) ?_; refine (slices_Clone_api_Value_api_Value.calls A0_1 c0_1 l0_1 l0_1 _ (Kd.C_below HR1.out HB3.out) HC1.out HF1.out).mono ?_; rintro e w4 ⟨v1, rfl, ho1, hb4⟩; refine ⟨_, rfl, ?_⟩; obtain ⟨Ao1, co1, rfl⟩ := Kd.R_slice ho1; have HO1 := Aside0.mk (Kd.R_mono (ok' := fun k => w3.heap.size ≤ k ∧ k < w4.heap.size) (Kd.R_bound ho1) (fun k hk => ⟨hk.2.1, hk.2.2.1⟩)); have HO0_4 := Aside0.mk (Kd.R_below HO0.out hb4); have BK1_4 := Aside0.mk (blk_below BK1_3.out hb4); have BK2_4 := Aside0.mk (blk_below BK2_3.out hb4); have HB4 := Aside0.mk (HB3.out.trans (hb4.mono HB3.out.size)); have HS4 := Aside0.mk hb4.size; clear hb4 ho1 HO0 BK1_3 BK2_3; refine hK.out _ _ ⟨(blk_cell BK1_4.out 0).trans rfl, (blk_cell BK1_4.out 1).trans rfl, (blk_cell BK1_4.out 2).trans rfl⟩ (fun hHeld => ?_); clear hK K; refine norm_ (a' := ?_) ?_ ?_; rotate_left
  · show Act.put _ (some 10) _ = _
    simp only [Act.put, List.setIfInBounds_toArray, List.set_cons_zero, List.set_cons_succ, i64_w, i32_w]; rfl
  refine one_ (i := 8) (N := some 13) #[true, true, true, true, true, true, true, true, true, true, false, false, false, false, false] rfl rfl (by kernel_rfl) (by decide) (fun K hK => ?_); refine goes_ Try.func64 (by kernel_rfl) rfl #[.slice A0_2 l0_2.length c0_2] (by rfl) rfl rfl (au60) ?_; refine (mc_clone A0_2 c0_2 l0_2 w _ HB4.out HR2.out HC2.out HF2.out).mono ?_; rintro e w5 ⟨Am, cm, rows0, rfl, hrl, hrk, hom, hb5⟩; refine ⟨_, rfl, ?_⟩; have HOM := Aside0.mk (Kd.R_mono (ok' := fun k => w4.heap.size ≤ k ∧ k < w5.heap.size) (Kd.R_bound hom) (fun k hk => ⟨hk.2.1, hk.2.2.1⟩)); have HRL := Aside0.mk hrl; have HRK := Aside0.mk hrk; have HO0_5 := Aside0.mk (Kd.R_below HO0_4.out hb5); have HO1_5 := Aside0.mk (Kd.R_below HO1.out hb5); have BK1_5 := Aside0.mk (blk_below BK1_4.out hb5); have BK2_5 := Aside0.mk (blk_below BK2_4.out hb5); have HB5 := Aside0.mk (HB4.out.trans (hb5.mono HB4.out.size)); have HS5 := Aside0.mk hb5.size; have hcz0 : w5.cell? ⟨gb1, 0, none⟩ = some (.slice A0_0 l0_0.length c0_0) := (blk_cell BK1_5.out 0).trans rfl; have hcz1 : w5.cell? ⟨gb1, 1, none⟩ = some (.slice A0_1 l0_1.length c0_1) := (blk_cell BK1_5.out 1).trans rfl; have hcz2 : w5.cell? ⟨gb1, 2, none⟩ = some (.slice A0_2 l0_2.length c0_2) := (blk_cell BK1_5.out 2).trans rfl; have hfz0 := blk_frozen BK1_5.out 0; have hfz1 := blk_frozen BK1_5.out 1; have hfz2 := blk_frozen BK1_5.out 2; clear hb5 hom hrl hrk HO0_4 HO1 BK1_4 BK2_4; refine hK.out _ _ ⟨(blk_cell BK1_5.out 0).trans rfl, (blk_cell BK1_5.out 1).trans rfl, (blk_cell BK1_5.out 2).trans rfl⟩ (fun hHeld => ?_)
  clear hK K; refine norm_ (a' := ?_) ?_ ?_; rotate_left
  · show Act.put _ (some 13) _ = _
    simp only [Act.put, List.setIfInBounds_toArray, List.set_cons_zero, List.set_cons_succ, i64_w, i32_w]; rfl
  refine last_ (i := 10) (N := none) #[true, true, true, true, true, true, true, true, true, true, true, false, false, false, false] rfl rfl (by kernel_rfl) (by decide) (fun K hK => ?_); refine skip_ (w1 := ?_) (by rfl) rfl ?_ ?_; rotate_left
  · go_simp
    rfl
  refine hK.out _ _ ?_; clear hK K; refine pure_ (i := 11) (N := some 15) (v := ?_) (a' := ?_) #[true, true, true, true, true, true, true, true, true, true, true, true, false, false, false] rfl rfl (by kernel_rfl) (fun _ _ _ h => h) (Or.inl ⟨by rfl, ?_⟩) ?_ ?_; rotate_left
  · intro w'
    go_simp; with_reducible rfl
  rotate_left
  · simp only [Act.put, List.setIfInBounds_toArray, List.set_cons_zero, List.set_cons_succ, i64_w, i32_w]
    rfl
  refine last_ (i := 12) (N := none) #[true, true, true, true, true, true, true, true, true, true, true, true, true, false, false] rfl rfl (by kernel_rfl) (by decide) (fun K hK => ?_); refine skip_ (w1 := ?_) (by rfl) rfl ?_ ?_; rotate_left
  · go_simp
    rfl
  refine hK.out _ _ ?_; clear hK K; refine pure_ (i := 13) (N := some 16) (v := ?_) (a' := ?_) #[true, true, true, true, true, true, true, true, true, true, true, true, true, true, false] rfl rfl (by kernel_rfl) (fun _ _ _ h => h) (Or.inl ⟨by rfl, ?_⟩) ?_ ?_; rotate_left
  · intro w'
    go_simp; with_reducible rfl
  rotate_left
  · simp only [Act.put, List.setIfInBounds_toArray, List.set_cons_zero, List.set_cons_succ, i64_w, i32_w]
    rfl
  refine last_ (i := 14) (N := none) #[true, true, true, true, true, true, true, true, true, true, true, true, true, true, true] rfl rfl (by kernel_rfl) (by decide) (fun K hK => ?_); refine skip_ (w1 := ?_) (by rfl) rfl ?_ ?_; rotate_left
  · go_simp
    rfl
  refine hK.out _ _ ?_; clear hK K; refine done_ (by kernel_rfl) ?_

  have e1 : ∀ k, wd.heap.size ≤ k → k ≠ gb1 := fun k hk e => by have := HL1.out; omega
  have e2 : ∀ k, wd.heap.size ≤ k → k ≠ gb2 := fun k hk e => by have := HL2.out; omega
  have E1 := Aside0.mk e1; have E2 := Aside0.mk e2; clear e1 e2; have n34 : wd.heap.size ≤ w4.heap.size := Nat.le_trans HS3.out HS4.out; have BK1_6 := Aside0.mk (blk_put (blk_put (blk_put BK1_5.out 0 (.slice Ao0 l0_0.length co0) rfl) 1 (.slice Ao1 l0_1.length co1) rfl) 2 (.slice Am l0_2.length cm) rfl); have BK2_6 := Aside0.mk (blk_far (blk_far (blk_far BK2_5.out (p := ⟨gb1, 0, none⟩) (fun e => HNE.out e.symm) (.slice Ao0 l0_0.length co0)) (p := ⟨gb1, 1, none⟩) (fun e => HNE.out e.symm) (.slice Ao1 l0_1.length co1)) (p := ⟨gb1, 2, none⟩) (fun e => HNE.out e.symm) (.slice Am l0_2.length cm)); have HB_6 := Aside0.mk (((HB5.out.setCell (p := ⟨gb1, 0, none⟩) HGE1.out (.slice Ao0 l0_0.length co0)).setCell (p := ⟨gb1, 1, none⟩) HGE1.out (.slice Ao1 l0_1.length co1)).setCell (p := ⟨gb1, 2, none⟩) HGE1.out (.slice Am l0_2.length cm)); have HO0_6 := Aside0.mk (Kd.R_far (Kd.R_far (Kd.R_far HO0_5.out (p := ⟨gb1, 0, none⟩) (fun k hk => E1.out k hk.1) (.slice Ao0 l0_0.length co0)) (p := ⟨gb1, 1, none⟩) (fun k hk => E1.out k hk.1) (.slice Ao1 l0_1.length co1)) (p := ⟨gb1, 2, none⟩) (fun k hk => E1.out k hk.1) (.slice Am l0_2.length cm)); have HO1_6 := Aside0.mk (Kd.R_far (Kd.R_far (Kd.R_far HO1_5.out (p := ⟨gb1, 0, none⟩) (fun k hk => E1.out k (Nat.le_trans HS3.out hk.1)) (.slice Ao0 l0_0.length co0)) (p := ⟨gb1, 1, none⟩) (fun k hk => E1.out k (Nat.le_trans HS3.out hk.1)) (.slice Ao1 l0_1.length co1)) (p := ⟨gb1, 2, none⟩) (fun k hk => E1.out k (Nat.le_trans HS3.out hk.1)) (.slice Am l0_2.length cm)); have HOM_6 := Aside0.mk (Kd.R_far (Kd.R_far (Kd.R_far HOM.out (p := ⟨gb1, 0, none⟩) (fun k hk => E1.out k (Nat.le_trans n34 hk.1)) (.slice Ao0 l0_0.length co0)) (p := ⟨gb1, 1, none⟩) (fun k hk => E1.out k (Nat.le_trans n34 hk.1)) (.slice Ao1 l0_1.length co1)) (p := ⟨gb1, 2, none⟩) (fun k hk => E1.out k (Nat.le_trans n34 hk.1)) (.slice Am l0_2.length cm))
  have HS6 := Aside0.mk ((((Below.refl gb1 w5).setCell (p := ⟨gb1, 0, none⟩) (Nat.le_refl _) (.slice Ao0 l0_0.length co0)).setCell (p := ⟨gb1, 1, none⟩) (Nat.le_refl _) (.slice Ao1 l0_1.length co1)).setCell (p := ⟨gb1, 2, none⟩) (Nat.le_refl _) (.slice Am l0_2.length cm)).size; clear hcz0 hcz1 hcz2 hfz0 hfz1 hfz2 hHeld BK1_5 BK2_5 HB5 HO0_5 HO1_5 HOM
  generalize hW6 : ((w5.setCell ⟨gb1, 0, none⟩ (.slice Ao0 l0_0.length co0)).setCell ⟨gb1, 1, none⟩ (.slice Ao1 l0_1.length co1)).setCell ⟨gb1, 2, none⟩ (.slice Am l0_2.length cm) = W6 at *
  clear hW6; have MC0 : Aside0 (MC W6 w.heap.size w4.heap.size w5.heap.size (.slice Am l0_2.length cm) (fun _ => 0) l0_2 rows0 rows0 0) := ⟨⟨HRL.out, Kd.R_lower HOM_6.out HB4.out.size, fun j x c hj => absurd hj (Nat.not_lt_zero _), fun j _ => rfl⟩⟩; have hb2 : W6.cell? ⟨gb1, 2, none⟩ = some (.slice Am l0_2.length cm) := (blk_cell BK1_6.out 2).trans rfl; have N34 := Aside0.mk n34; clear n34; go_wp2
  go_loopg [20] l0_2.length (fun kq v20 w' => ∃ (i : Nat) (f : Nat → Nat) (rows : List (List Value)), v20 = .int .i64 (i : Int) ∧ Aside0 (kq + i = l0_2.length) ∧ Aside0 (MC w' w.heap.size w4.heap.size w5.heap.size (.slice Am l0_2.length cm) f l0_2 rows0 rows i) ∧ Aside0 ((k86).R 86 w' w.heap.size (fun k => wd.heap.size ≤ k ∧ k < w3.heap.size) (.slice Ao0 l0_0.length co0) l0_0) ∧ Aside0 ((k86).R 86 w' w.heap.size (fun k => w3.heap.size ≤ k ∧ k < w4.heap.size) (.slice Ao1 l0_1.length co1) l0_1) ∧ Aside0 (w'.heap[gb1]? = some (.cells #[.slice Ao0 l0_0.length co0, .slice Ao1 l0_1.length co1, .slice Am l0_2.length cm, .int .i64 a0_3] 25 (0, 0))) ∧ Aside0 (w'.heap[gb2]? = some (.cells #[.slice none 0 0, .slice none 0 0, .slice none 0 0, .int .i64 0] 25 (0, 0))) ∧ Aside0 (Below w.heap.size w w') ∧ Aside0 (w5.heap.size ≤ w'.heap.size))
  case atStart => exact ⟨0, fun _ => 0, rows0, rfl, ⟨by omega⟩, MC0, ⟨Kd.R_lower HO0_6.out HBd.out.size⟩, ⟨Kd.R_lower HO1_6.out HB3.out.size⟩, BK1_6, BK2_6, HB_6, HS6⟩
  case round =>
    clear MC0 hb2 HO0_6 HO1_6 HOM_6 HB_6 HS6 BK1_6 BK2_6; obtain ⟨i, f, rows, rfl, HI, HMC, HV0, HV1, BK1, BK2, HB, HS⟩ := hrel; have hI := HI.out; clear HI; have hw : IntKind.i64.wrap ((i : Int) + 1) = ((i + 1 : Nat) : Int) := (i64_w _).trans (by have := HF2.out; unfold wrap64; omega)
    by_cases hlt : i < l0_2.length
    · have hx : l0_2[i]? = some (rd_T52 l0_2 (i : Int)) := by simp [rd_T52, hlt]
      obtain ⟨g, cap, e1, hg1, _, _⟩ := Kd.R_form HMC.out.row (by rw [HMC.out.len]; omega)
      injection e1 with ea en ec
      clear en; subst ea; have hgr := HMC.out.row.1 g rfl; have hsrc : rows[i]? = rows0[i]? := HMC.out.todo i (Nat.le_refl _)
      have hil0 : i < rows0.length := by rw [HRL.out]; exact hlt
      obtain ⟨A0', c0', A1', c1', A7', c7', hce, hl0, hk0, hl1, hk1, hl7, hk7⟩ := k52_open (HRK.out i _ _ hx (List.getElem?_eq_getElem hil0))
      have hrow : rows[i]? = some [.slice A0' (rd_T52 l0_2 (i : Int)).f0.length c0', .slice A1' (rd_T52 l0_2 (i : Int)).f1.length c1', .int .u8 (rd_T52 l0_2 (i : Int)).f2, .bool (rd_T52 l0_2 (i : Int)).f3, .int .i64 (rd_T52 l0_2 (i : Int)).f4, .int .i64 (rd_T52 l0_2 (i : Int)).f5, .int .i64 (rd_T52 l0_2 (i : Int)).f6, .slice A7' (rd_T52 l0_2 (i : Int)).f7.length c7'] := by rw [hsrc, List.getElem?_eq_getElem hil0, hce]
      have hsm := List.all_eq_true.1 HGD.out _ (List.mem_of_getElem? hx); simp only [Bool.and_eq_true, decide_eq_true_eq] at hsm; have HF0' : Aside0 (slices_Clone_uint8_uint8.f (rd_T52 l0_2 (i : Int)).f0 = some (rd_T52 l0_2 (i : Int)).f0) := ⟨by unfold slices_Clone_uint8_uint8.f; rw [if_pos (by omega)]⟩; have HF1' : Aside0 (slices_Clone_uint8_uint8.f (rd_T52 l0_2 (i : Int)).f1 = some (rd_T52 l0_2 (i : Int)).f1) := ⟨by unfold slices_Clone_uint8_uint8.f; rw [if_pos (by omega)]⟩; have HF7' : Aside0 (slices_Clone_api_Instr_api_Instr.f (rd_T52 l0_2 (i : Int)).f7 = some (rd_T52 l0_2 (i : Int)).f7) := ⟨by unfold slices_Clone_api_Instr_api_Instr.f; rw [if_pos (by omega)]⟩; have HK0 := Aside0.mk hk0; have HK1 := Aside0.mk hk1; have HK7 := Aside0.mk hk7; have HGR := Aside0.mk hgr; have HROWC := Aside0.mk hrow; have HXX := Aside0.mk hx; have HX0 : Aside0 (wr.drew.cell? ⟨g, i * 8, none⟩ = some (.slice A0' (rd_T52 l0_2 (i : Int)).f0.length c0')) := ⟨mc_at HMC.out.row i hlt _ hrow 0 _ rfl⟩; have HX1 : Aside0 (wr.drew.cell? ⟨g, i * 8 + 1, none⟩ = some (.slice A1' (rd_T52 l0_2 (i : Int)).f1.length c1')) := ⟨mc_at HMC.out.row i hlt _ hrow 1 _ rfl⟩; have HX7 : Aside0 (wr.drew.cell? ⟨g, i * 8 + 7, none⟩ = some (.slice A7' (rd_T52 l0_2 (i : Int)).f7.length c7')) := ⟨mc_at HMC.out.row i hlt _ hrow 7 _ rfl⟩; have HL0 := Aside0.mk (World.block_lt_of_cell? wr.drew _ HX0.out); have HL1' := Aside0.mk (World.block_lt_of_cell? wr.drew _ HX1.out); have HL7 := Aside0.mk (World.block_lt_of_cell? wr.drew _ HX7.out); have HMCd : Aside0 (MC wr.drew w.heap.size w4.heap.size w5.heap.size (.slice (some ⟨g, 0, none⟩) l0_2.length cm) f l0_2 rows0 rows i) := ⟨MC.move HMC.out HS5.out (fun _ _ _ => rfl)⟩
      have HROW := Aside0.mk HMCd.out.row; have HV0d := Aside0.mk (Kd.R_drew HV0.out); have HV1d := Aside0.mk (Kd.R_drew HV1.out); have BK1e := Aside0.mk (blk_drew BK1.out); have BK2e := Aside0.mk (blk_drew BK2.out); have BWd := Aside0.mk HB.out.drew; have HSd : Aside0 (w5.heap.size ≤ wr.drew.heap.size) := ⟨HS.out⟩; have hm2 : wr.cell? ⟨gb1, 2, none⟩ = some (.slice (some ⟨g, 0, none⟩) l0_2.length cm) := (blk_cell BK1.out 2).trans rfl; have hd : decide ((i : Int) < (l0_2.length : Int)) = true := decide_eq_true (by omega); have p0 : (0 ≤ (i : Int)) = True := eq_true (by omega); have q0 : ((i : Int) < (l0_2.length : Int)) = True := eq_true (by omega); clear HMC HV0 HV1 BK1 BK2 HB HS hsm hk0 hk1 hk7 hgr hrow hx hsrc hil0 hce hg1 ec cap
      go_upto_region 6 with (fail)
      refine start_ (n := 27) (S := fun w' => w'.cell? ⟨g, i * 8, none⟩ = some (.slice A0' (rd_T52 l0_2 (i : Int)).f0.length c0') ∧ w'.cell? ⟨g, i * 8 + 1, none⟩ = some (.slice A1' (rd_T52 l0_2 (i : Int)).f1.length c1') ∧ w'.cell? ⟨g, i * 8 + 7, none⟩ = some (.slice A7' (rd_T52 l0_2 (i : Int)).f7.length c7')) (ds := [20, 23, 26]) #[false, false, false, false, false, false, false, false, false, false, false, false, false, false, false, false, false, false, false, false, false, false, false, false, false, false, false] (by kernel_rfl) rfl rfl ⟨HX0.out, HX1.out, HX7.out⟩ (fun hHeld => ?_)
      generalize wr.drew = Wd at *
      refine pure_ (i := 0) (N := some 27) (v := ?_) (a' := ?_) #[true, false, false, false, false, false, false, false, false, false, false, false, false, false, false, false, false, false, false, false, false, false, false, false, false, false, false] rfl rfl (by kernel_rfl) (fun _ _ _ h => h) (Or.inl ⟨by rfl, ?_⟩) ?_ ?_; rotate_left
      · intro w'
        go_simp; with_reducible rfl
      rotate_left
      · simp only [Act.put, List.setIfInBounds_toArray, List.set_cons_zero, List.set_cons_succ, i64_w, i32_w]
        rfl
      refine pure_ (i := 1) (N := some 28) (v := ?_) (a' := ?_) #[true, true, false, false, false, false, false, false, false, false, false, false, false, false, false, false, false, false, false, false, false, false, false, false, false, false, false] rfl rfl (by kernel_rfl) (fun _ _ _ h => h) (Or.inl ⟨by rfl, ?_⟩) ?_ ?_; rotate_left
      · intro w'
        go_simp; with_reducible rfl
      rotate_left
      · simp only [Act.put, List.setIfInBounds_toArray, List.set_cons_zero, List.set_cons_succ, i64_w, i32_w]
        rfl
      refine pure_ (i := 2) (N := some 29) (v := ?_) (a' := ?_) #[true, true, true, false, false, false, false, false, false, false, false, false, false, false, false, false, false, false, false, false, false, false, false, false, false, false, false] rfl rfl (by kernel_rfl) (fun _ _ _ h => h) (Or.inl ⟨by rfl, ?_⟩) ?_ ?_; rotate_left
      · intro w'
        go_simp; with_reducible rfl
      rotate_left
      · simp only [Act.put, List.setIfInBounds_toArray, List.set_cons_zero, List.set_cons_succ, i64_w, i32_w]
        rfl
      refine pure_ (i := 3) (N := some 30) (v := ?_) (a' := ?_) #[true, true, true, true, false, false, false, false, false, false, false, false, false, false, false, false, false, false, false, false, false, false, false, false, false, false, false] rfl rfl (by kernel_rfl) (fun _ _ _ h => h) (Or.inl ⟨by rfl, ?_⟩) ?_ ?_; rotate_left
      · intro w'
        go_simp; with_reducible rfl
      rotate_left
      · simp only [Act.put, List.setIfInBounds_toArray, List.set_cons_zero, List.set_cons_succ, i64_w, i32_w]
        rfl
      refine pure_ (i := 4) (N := some 31) (v := ?_) (a' := ?_) #[true, true, true, true, true, false, false, false, false, false, false, false, false, false, false, false, false, false, false, false, false, false, false, false, false, false, false] rfl rfl (by kernel_rfl) (fun _ _ _ h => h) (Or.inl ⟨by rfl, ?_⟩) ?_ ?_; rotate_left
      · intro w'
        go_simp; with_reducible rfl
      rotate_left
      · simp only [Act.put, List.setIfInBounds_toArray, List.set_cons_zero, List.set_cons_succ, i64_w, i32_w]
        rfl
      refine pure_ (i := 5) (N := some 32) (v := ?_) (a' := ?_) #[true, true, true, true, true, true, false, false, false, false, false, false, false, false, false, false, false, false, false, false, false, false, false, false, false, false, false] rfl rfl (by kernel_rfl) (fun _ _ _ h => h) (Or.inl ⟨by rfl, ?_⟩) ?_ ?_; rotate_left
      · intro w'
        go_simp; with_reducible rfl
      rotate_left
      · simp only [Act.put, List.setIfInBounds_toArray, List.set_cons_zero, List.set_cons_succ, i64_w, i32_w]
        rfl
      refine pure_ (i := 8) (N := some 35) (v := ?_) (a' := ?_) #[true, true, true, true, true, true, false, false, true, false, false, false, false, false, false, false, false, false, false, false, false, false, false, false, false, false, false] rfl rfl (by kernel_rfl) (fun _ _ _ h => h) (Or.inl ⟨by rfl, ?_⟩) ?_ ?_; rotate_left
      · intro w'
        go_simp; with_reducible rfl
      rotate_left
      · simp only [Act.put, List.setIfInBounds_toArray, List.set_cons_zero, List.set_cons_succ, i64_w, i32_w]
        rfl
      refine pure_ (i := 9) (N := some 36) (v := ?_) (a' := ?_) #[true, true, true, true, true, true, false, false, true, true, false, false, false, false, false, false, false, false, false, false, false, false, false, false, false, false, false] rfl rfl (by kernel_rfl) (fun _ _ _ h => h) (Or.inl ⟨by rfl, ?_⟩) ?_ ?_; rotate_left
      · intro w'
        go_simp; with_reducible rfl
      rotate_left
      · simp only [Act.put, List.setIfInBounds_toArray, List.set_cons_zero, List.set_cons_succ, i64_w, i32_w]
        rfl
      refine pure_ (i := 10) (N := some 37) (v := ?_) (a' := ?_) #[true, true, true, true, true, true, false, false, true, true, true, false, false, false, false, false, false, false, false, false, false, false, false, false, false, false, false] rfl rfl (by kernel_rfl) (fun _ _ _ h => h) (Or.inl ⟨by rfl, ?_⟩) ?_ ?_; rotate_left
      · intro w'
        go_simp; with_reducible rfl
      rotate_left
      · simp only [Act.put, List.setIfInBounds_toArray, List.set_cons_zero, List.set_cons_succ, i64_w, i32_w]
        rfl
      refine pure_ (i := 13) (N := some 40) (v := ?_) (a' := ?_) #[true, true, true, true, true, true, false, false, true, true, true, false, false, true, false, false, false, false, false, false, false, false, false, false, false, false, false] rfl rfl (by kernel_rfl) (fun _ _ _ h => h) (Or.inl ⟨by rfl, ?_⟩) ?_ ?_; rotate_left
      · intro w'
        go_simp; with_reducible rfl
      rotate_left
      · simp only [Act.put, List.setIfInBounds_toArray, List.set_cons_zero, List.set_cons_succ, i64_w, i32_w]
        rfl
      refine pure_ (i := 14) (N := some 41) (v := ?_) (a' := ?_) #[true, true, true, true, true, true, false, false, true, true, true, false, false, true, true, false, false, false, false, false, false, false, false, false, false, false, false] rfl rfl (by kernel_rfl) (fun _ _ _ h => h) (Or.inl ⟨by rfl, ?_⟩) ?_ ?_; rotate_left
      · intro w'
        go_simp; with_reducible rfl
      rotate_left
      · simp only [Act.put, List.setIfInBounds_toArray, List.set_cons_zero, List.set_cons_succ, i64_w, i32_w]
        rfl
      refine pure_ (i := 15) (N := some 42) (v := ?_) (a' := ?_) #[true, true, true, true, true, true, false, false, true, true, true, false, false, true, true, true, false, false, false, false, false, false, false, false, false, false, false] rfl rfl (by kernel_rfl) (fun _ _ _ h => h) (Or.inl ⟨by rfl, ?_⟩) ?_ ?_; rotate_left
      · intro w'
        go_simp; with_reducible rfl
      rotate_left
      · simp only [Act.put, List.setIfInBounds_toArray, List.set_cons_zero, List.set_cons_succ, i64_w, i32_w]
        rfl
      refine take_ (i := 6) (N := some 33) (v := ?_) (a' := ?_) #[true, true, true, true, true, true, true, false, true, true, true, false, false, true, true, true, false, false, false, false, false, false, false, false, false, false, false] rfl rfl (by kernel_rfl) (fun _ _ _ h => h) (Or.inl ⟨by rfl, ?_⟩) hHeld ?_ ?_; rotate_left
      · rintro w' ⟨s0, s1, s2⟩
        go_simp; with_reducible rfl
      rotate_left
      · simp only [Act.put, List.setIfInBounds_toArray, List.set_cons_zero, List.set_cons_succ, i64_w, i32_w]
        rfl
      refine take_ (i := 11) (N := some 38) (v := ?_) (a' := ?_) #[true, true, true, true, true, true, true, false, true, true, true, true, false, true, true, true, false, false, false, false, false, false, false, false, false, false, false] rfl rfl (by kernel_rfl) (fun _ _ _ h => h) (Or.inl ⟨by rfl, ?_⟩) hHeld ?_ ?_; rotate_left
      · rintro w' ⟨s0, s1, s2⟩
        go_simp; with_reducible rfl
      rotate_left
      · simp only [Act.put, List.setIfInBounds_toArray, List.set_cons_zero, List.set_cons_succ, i64_w, i32_w]
        rfl
      refine take_ (i := 16) (N := some 43) (v := ?_) (a' := ?_) #[true, true, true, true, true, true, true, false, true, true, true, true, false, true, true, true, true, false, false, false, false, false, false, false, false, false, false] rfl rfl (by kernel_rfl) (fun _ _ _ h => h) (Or.inl ⟨by rfl, ?_⟩) hHeld ?_ ?_; rotate_left
      · rintro w' ⟨s0, s1, s2⟩
        go_simp; with_reducible rfl
      rotate_left
      · simp only [Act.put, List.setIfInBounds_toArray, List.set_cons_zero, List.set_cons_succ, i64_w, i32_w]
        rfl
      refine one_ (i := 7) (N := some 34) #[true, true, true, true, true, true, true, true, true, true, true, true, false, true, true, true, true, false, false, false, false, false, false, false, false, false, false] rfl rfl (by kernel_rfl) (by decide) (fun K hK => ?_); refine goes_ Try.func65 (by kernel_rfl) rfl #[.slice A0' (rd_T52 l0_2 (i : Int)).f0.length c0'] (by rfl) rfl rfl (au60) ?_; refine (slices_Clone_uint8_uint8.calls A0' c0' (rd_T52 l0_2 (i : Int)).f0 (rd_T52 l0_2 (i : Int)).f0 _ (Kd.C_below HK0.out BWd.out) hl0 HF0'.out).mono ?_; rintro e w6 ⟨u0, rfl, ho0, hb6⟩; refine ⟨_, rfl, ?_⟩; obtain ⟨Ap0, cp0, rfl⟩ := Kd.R_slice ho0; have HU0 := Aside0.mk (Kd.R_mono (ok' := fun k => Wd.heap.size ≤ k ∧ k < w6.heap.size) (Kd.R_bound ho0) (fun k hk => ⟨hk.2.1, hk.2.2.1⟩)); have B6 := Aside0.mk hb6; clear hb6 ho0; refine hK.out _ _ ⟨(B6.out.cell HL0.out).trans HX0.out, (B6.out.cell HL1'.out).trans HX1.out, (B6.out.cell HL7.out).trans HX7.out⟩ (fun hHeld => ?_); clear hK K; refine norm_ (a' := ?_) ?_ ?_; rotate_left
      · show Act.put _ (some 34) _ = _
        simp only [Act.put, List.setIfInBounds_toArray, List.set_cons_zero, List.set_cons_succ, i64_w, i32_w]; rfl
      refine one_ (i := 12) (N := some 39) #[true, true, true, true, true, true, true, true, true, true, true, true, true, true, true, true, true, false, false, false, false, false, false, false, false, false, false] rfl rfl (by kernel_rfl) (by decide) (fun K hK => ?_); refine goes_ Try.func65 (by kernel_rfl) rfl #[.slice A1' (rd_T52 l0_2 (i : Int)).f1.length c1'] (by rfl) rfl rfl (au60) ?_; refine (slices_Clone_uint8_uint8.calls A1' c1' (rd_T52 l0_2 (i : Int)).f1 (rd_T52 l0_2 (i : Int)).f1 _ (Kd.C_below HK1.out (BWd.out.trans (B6.out.mono BWd.out.size))) hl1 HF1'.out).mono ?_; rintro e w7 ⟨u1, rfl, ho1, hb7⟩; refine ⟨_, rfl, ?_⟩; obtain ⟨Ap1, cp1, rfl⟩ := Kd.R_slice ho1; have HU1 := Aside0.mk (Kd.R_mono (ok' := fun k => w6.heap.size ≤ k ∧ k < w7.heap.size) (Kd.R_bound ho1) (fun k hk => ⟨hk.2.1, hk.2.2.1⟩)); have HU0_7 := Aside0.mk (Kd.R_below HU0.out hb7); have B7 := Aside0.mk (B6.out.trans (hb7.mono B6.out.size)); clear hb7 ho1 HU0; refine hK.out _ _ ⟨(B7.out.cell HL0.out).trans HX0.out, (B7.out.cell HL1'.out).trans HX1.out, (B7.out.cell HL7.out).trans HX7.out⟩ (fun hHeld => ?_); clear hK K; refine norm_ (a' := ?_) ?_ ?_; rotate_left
      · show Act.put _ (some 39) _ = _
        simp only [Act.put, List.setIfInBounds_toArray, List.set_cons_zero, List.set_cons_succ, i64_w, i32_w]; rfl
      refine one_ (i := 17) (N := some 44) #[true, true, true, true, true, true, true, true, true, true, true, true, true, true, true, true, true, true, false, false, false, false, false, false, false, false, false] rfl rfl (by kernel_rfl) (by decide) (fun K hK => ?_); refine goes_ Try.func66 (by kernel_rfl) rfl #[.slice A7' (rd_T52 l0_2 (i : Int)).f7.length c7'] (by rfl) rfl rfl (au60) ?_; refine (slices_Clone_api_Instr_api_Instr.calls A7' c7' (rd_T52 l0_2 (i : Int)).f7 (rd_T52 l0_2 (i : Int)).f7 _ (Kd.C_below HK7.out (BWd.out.trans (B7.out.mono BWd.out.size))) hl7 HF7'.out).mono ?_; rintro e w8 ⟨u7, rfl, ho7, hb8⟩; refine ⟨_, rfl, ?_⟩; obtain ⟨Ap7, cp7, rfl⟩ := Kd.R_slice ho7; have HU7 := Aside0.mk (Kd.R_mono (ok' := fun k => w7.heap.size ≤ k ∧ k < w8.heap.size) (Kd.R_bound ho7) (fun k hk => ⟨hk.2.1, hk.2.2.1⟩)); have HU0_8 := Aside0.mk (Kd.R_below HU0_7.out hb8); have HU1_8 := Aside0.mk (Kd.R_below HU1.out hb8); have B8 := Aside0.mk (B7.out.trans (hb8.mono B7.out.size)); have hcz0 := (B8.out.cell HL0.out).trans HX0.out; have hcz1 := (B8.out.cell HL1'.out).trans HX1.out; have hcz7 := (B8.out.cell HL7.out).trans HX7.out; obtain ⟨hfz0, hfz1, hfz7⟩ := mc_frozen (Kd.R_below HROW.out B8.out) i hlt; clear hb8 ho7 HU0_7 HU1; refine hK.out _ _ ⟨(B8.out.cell HL0.out).trans HX0.out, (B8.out.cell HL1'.out).trans HX1.out, (B8.out.cell HL7.out).trans HX7.out⟩ (fun hHeld => ?_); clear hK K; refine norm_ (a' := ?_) ?_ ?_; rotate_left
      · show Act.put _ (some 44) _ = _
        simp only [Act.put, List.setIfInBounds_toArray, List.set_cons_zero, List.set_cons_succ, i64_w, i32_w]; rfl
      refine pure_ (i := 18) (N := some 45) (v := ?_) (a' := ?_) #[true, true, true, true, true, true, true, true, true, true, true, true, true, true, true, true, true, true, true, false, false, false, false, false, false, false, false] rfl rfl (by kernel_rfl) (fun _ _ _ h => h) (Or.inl ⟨by rfl, ?_⟩) ?_ ?_; rotate_left
      · intro w'
        go_simp; with_reducible rfl
      rotate_left
      · simp only [Act.put, List.setIfInBounds_toArray, List.set_cons_zero, List.set_cons_succ, i64_w, i32_w]
        rfl
      refine pure_ (i := 19) (N := some 46) (v := ?_) (a' := ?_) #[true, true, true, true, true, true, true, true, true, true, true, true, true, true, true, true, true, true, true, true, false, false, false, false, false, false, false] rfl rfl (by kernel_rfl) (fun _ _ _ h => h) (Or.inl ⟨by rfl, ?_⟩) ?_ ?_; rotate_left
      · intro w'
        go_simp; with_reducible rfl
      rotate_left
      · simp only [Act.put, List.setIfInBounds_toArray, List.set_cons_zero, List.set_cons_succ, i64_w, i32_w]
        rfl
      refine last_ (i := 20) (N := none) #[true, true, true, true, true, true, true, true, true, true, true, true, true, true, true, true, true, true, true, true, true, false, false, false, false, false, false] rfl rfl (by kernel_rfl) (by decide) (fun K hK => ?_); refine skip_ (w1 := ?_) (by rfl) rfl ?_ ?_; rotate_left
      · go_simp
        rfl
      refine hK.out _ _ ?_; clear hK K; refine pure_ (i := 21) (N := some 47) (v := ?_) (a' := ?_) #[true, true, true, true, true, true, true, true, true, true, true, true, true, true, true, true, true, true, true, true, true, true, false, false, false, false, false] rfl rfl (by kernel_rfl) (fun _ _ _ h => h) (Or.inl ⟨by rfl, ?_⟩) ?_ ?_; rotate_left
      · intro w'
        go_simp; with_reducible rfl
      rotate_left
      · simp only [Act.put, List.setIfInBounds_toArray, List.set_cons_zero, List.set_cons_succ, i64_w, i32_w]
        rfl
      refine pure_ (i := 22) (N := some 48) (v := ?_) (a' := ?_) #[true, true, true, true, true, true, true, true, true, true, true, true, true, true, true, true, true, true, true, true, true, true, true, false, false, false, false] rfl rfl (by kernel_rfl) (fun _ _ _ h => h) (Or.inl ⟨by rfl, ?_⟩) ?_ ?_; rotate_left
      · intro w'
        go_simp; with_reducible rfl
      rotate_left
      · simp only [Act.put, List.setIfInBounds_toArray, List.set_cons_zero, List.set_cons_succ, i64_w, i32_w]
        rfl
      refine last_ (i := 23) (N := none) #[true, true, true, true, true, true, true, true, true, true, true, true, true, true, true, true, true, true, true, true, true, true, true, true, false, false, false] rfl rfl (by kernel_rfl) (by decide) (fun K hK => ?_); refine skip_ (w1 := ?_) (by rfl) rfl ?_ ?_; rotate_left
      · go_simp
        rfl
      refine hK.out _ _ ?_; clear hK K; refine pure_ (i := 24) (N := some 49) (v := ?_) (a' := ?_) #[true, true, true, true, true, true, true, true, true, true, true, true, true, true, true, true, true, true, true, true, true, true, true, true, true, false, false] rfl rfl (by kernel_rfl) (fun _ _ _ h => h) (Or.inl ⟨by rfl, ?_⟩) ?_ ?_; rotate_left
      · intro w'
        go_simp; with_reducible rfl
      rotate_left
      · simp only [Act.put, List.setIfInBounds_toArray, List.set_cons_zero, List.set_cons_succ, i64_w, i32_w]
        rfl
      refine pure_ (i := 25) (N := some 50) (v := ?_) (a' := ?_) #[true, true, true, true, true, true, true, true, true, true, true, true, true, true, true, true, true, true, true, true, true, true, true, true, true, true, false] rfl rfl (by kernel_rfl) (fun _ _ _ h => h) (Or.inl ⟨by rfl, ?_⟩) ?_ ?_; rotate_left
      · intro w'
        go_simp; with_reducible rfl
      rotate_left
      · simp only [Act.put, List.setIfInBounds_toArray, List.set_cons_zero, List.set_cons_succ, i64_w, i32_w]
        rfl
      refine last_ (i := 26) (N := none) #[true, true, true, true, true, true, true, true, true, true, true, true, true, true, true, true, true, true, true, true, true, true, true, true, true, true, true] rfl rfl (by kernel_rfl) (by decide) (fun K hK => ?_); refine skip_ (w1 := ?_) (by rfl) rfl ?_ ?_; rotate_left
      · go_simp
        rfl
      refine hK.out _ _ ?_; clear hK K; refine done_ (by kernel_rfl) ?_

      have hgs : ∀ k, Wd.heap.size ≤ k → k ≠ g := fun k hk e => by have h1 := HGR.out.2; have h2 := HSd.out; omega
      have hgl : w.heap.size ≤ g := by have h1 := HGR.out.1; have h2 := HB4.out.size; omega
      have hb1 : gb1 ≠ g := fun e => by have h1 := HGR.out.1; have h2 := HL1.out; have h3 := N34.out; omega
      have hb2 : gb2 ≠ g := fun e => by have h1 := HGR.out.1; have h2 := HL2.out; have h3 := N34.out; omega
      have s67 : Wd.heap.size ≤ w6.heap.size := B6.out.size; have s78 : Wd.heap.size ≤ w7.heap.size := B7.out.size
      have far0 := fun {α : Type} {d : Kd α} {e b : Nat} {ok : Nat → Prop} {v : Value} {xs : List α} (h : d.R e w8 b ok v xs) (hok : ∀ k, ok k → k ≠ g) => Kd.R_far (Kd.R_far (Kd.R_far h (p := ⟨g, i * 8, none⟩) hok (.slice Ap0 (rd_T52 l0_2 (i : Int)).f0.length cp0)) (p := ⟨g, i * 8 + 1, none⟩) hok (.slice Ap1 (rd_T52 l0_2 (i : Int)).f1.length cp1)) (p := ⟨g, i * 8 + 7, none⟩) hok (.slice Ap7 (rd_T52 l0_2 (i : Int)).f7.length cp7)
      obtain ⟨f', hmc⟩ := MC.next HMCd.out _ HXX.out HSd.out HGR.out.2 (W1 := ((w8.setCell ⟨g, i * 8, none⟩ (.slice Ap0 (rd_T52 l0_2 (i : Int)).f0.length cp0)).setCell ⟨g, i * 8 + 1, none⟩ (.slice Ap1 (rd_T52 l0_2 (i : Int)).f1.length cp1)).setCell ⟨g, i * 8 + 7, none⟩ (.slice Ap7 (rd_T52 l0_2 (i : Int)).f7.length cp7))
        (fun k hN hk => by
          have hne : k ≠ g := fun e => by have h1 := HGR.out.2; omega
          exact (Below.heap_setCell _ _ _ k hne).trans ((Below.heap_setCell _ _ _ k hne).trans ((Below.heap_setCell _ _ _ k hne).trans (B8.out.block k hk))))
        (Kd.R_lower (Kd.R_mono (far0 HU0_8.out (fun k hk => hgs k hk.1)) (fun k hk => hk.1)) BWd.out.size)
        (Kd.R_lower (Kd.R_mono (far0 HU1_8.out (fun k hk => hgs k (Nat.le_trans s67 hk.1))) (fun k hk => Nat.le_trans s67 hk.1)) (Nat.le_trans BWd.out.size s67))
        (Kd.R_lower (Kd.R_mono (far0 HU7.out (fun k hk => hgs k (Nat.le_trans s78 hk.1))) (fun k hk => Nat.le_trans s78 hk.1)) (Nat.le_trans BWd.out.size s78))
        (mc_put3 (Kd.R_below HROW.out B8.out) i hlt HROWC.out _ _ _ rfl rfl rfl)
      have HMC9 := Aside0.mk hmc; have HV0_9 := Aside0.mk (far0 (Kd.R_below HV0d.out B8.out) (fun k hk e => by have h1 := HGR.out.1; have h2 := HS4.out; have h3 := hk.2; omega)); have HV1_9 := Aside0.mk (far0 (Kd.R_below HV1d.out B8.out) (fun k hk e => by have h1 := HGR.out.1; have h3 := hk.2; omega)); have BK1_9 := Aside0.mk (blk_far (blk_far (blk_far (blk_below BK1e.out B8.out) (p := ⟨g, i * 8, none⟩) hb1 (.slice Ap0 (rd_T52 l0_2 (i : Int)).f0.length cp0)) (p := ⟨g, i * 8 + 1, none⟩) hb1 (.slice Ap1 (rd_T52 l0_2 (i : Int)).f1.length cp1)) (p := ⟨g, i * 8 + 7, none⟩) hb1 (.slice Ap7 (rd_T52 l0_2 (i : Int)).f7.length cp7)); have BK2_9 := Aside0.mk (blk_far (blk_far (blk_far (blk_below BK2e.out B8.out) (p := ⟨g, i * 8, none⟩) hb2 (.slice Ap0 (rd_T52 l0_2 (i : Int)).f0.length cp0)) (p := ⟨g, i * 8 + 1, none⟩) hb2 (.slice Ap1 (rd_T52 l0_2 (i : Int)).f1.length cp1)) (p := ⟨g, i * 8 + 7, none⟩) hb2 (.slice Ap7 (rd_T52 l0_2 (i : Int)).f7.length cp7)); have HB_9 := Aside0.mk ((((BWd.out.trans (B8.out.mono BWd.out.size)).setCell (p := ⟨g, i * 8, none⟩) hgl (.slice Ap0 (rd_T52 l0_2 (i : Int)).f0.length cp0)).setCell (p := ⟨g, i * 8 + 1, none⟩) hgl (.slice Ap1 (rd_T52 l0_2 (i : Int)).f1.length cp1)).setCell (p := ⟨g, i * 8 + 7, none⟩) hgl (.slice Ap7 (rd_T52 l0_2 (i : Int)).f7.length cp7)); have HS_9 := Aside0.mk (Nat.le_trans (Nat.le_trans HSd.out B8.out.size) ((((Below.refl g w8).setCell (p := ⟨g, i * 8, none⟩) (Nat.le_refl _) (.slice Ap0 (rd_T52 l0_2 (i : Int)).f0.length cp0)).setCell (p := ⟨g, i * 8 + 1, none⟩) (Nat.le_refl _) (.slice Ap1 (rd_T52 l0_2 (i : Int)).f1.length cp1)).setCell (p := ⟨g, i * 8 + 7, none⟩) (Nat.le_refl _) (.slice Ap7 (rd_T52 l0_2 (i : Int)).f7.length cp7)).size)
      clear far0 hmc hcz0 hcz1 hcz7 hfz0 hfz1 hfz7 hgs hb1 hb2 s67 s78; go_wp2
      go_roundg (gk - 1)
      case measure => omega
      case rel => exact ⟨i + 1, f', _, by first | rfl | (rw [hw]), ⟨by omega⟩, HMC9, HV0_9, HV1_9, BK1_9, BK2_9, HB_9, HS_9⟩
    · obtain rfl : i = l0_2.length := by omega
      have hd : decide ((l0_2.length : Int) < (l0_2.length : Int)) = false := decide_eq_false (by omega); have hcu0 : wr.cell? ⟨gb1, 0, none⟩ = some (.slice Ao0 l0_0.length co0) := (blk_cell BK1.out 0).trans rfl; have hcu1 : wr.cell? ⟨gb1, 1, none⟩ = some (.slice Ao1 l0_1.length co1) := (blk_cell BK1.out 1).trans rfl; have hcu2 : wr.cell? ⟨gb1, 2, none⟩ = some (.slice Am l0_2.length cm) := (blk_cell BK1.out 2).trans rfl; have hcu3 : wr.cell? ⟨gb1, 3, none⟩ = some (.int .i64 a0_3) := (blk_cell BK1.out 3).trans rfl; have hcv0 : wr.cell? ⟨gb2, 0, none⟩ = some (.slice none 0 0) := (blk_cell BK2.out 0).trans rfl; have hcv1 : wr.cell? ⟨gb2, 1, none⟩ = some (.slice none 0 0) := (blk_cell BK2.out 1).trans rfl; have hcv2 : wr.cell? ⟨gb2, 2, none⟩ = some (.slice none 0 0) := (blk_cell BK2.out 2).trans rfl; have hcv3 : wr.cell? ⟨gb2, 3, none⟩ = some (.int .i64 0) := (blk_cell BK2.out 3).trans rfl; have hfv0 := blk_frozen BK2.out 0; have hfv1 := blk_frozen BK2.out 1; have hfv2 := blk_frozen BK2.out 2; have hfv3 := blk_frozen BK2.out 3; go_wp2; have BKz := blk_put (blk_put (blk_put (blk_put BK2.out 0 (.slice Ao0 l0_0.length co0) rfl) 1 (.slice Ao1 l0_1.length co1) rfl) 2 (.slice Am l0_2.length cm) rfl) 3 (.int .i64 a0_3) rfl; refine bodyPost_ret (results_cell_row rfl _ _ gb2 25 #[.slice Ao0 l0_0.length co0, .slice Ao1 l0_1.length co1, .slice Am l0_2.length cm, .int .i64 a0_3] (0, 0) _ rfl BKz Try.underlying25 rfl (by kernel_rfl)) rfl ?_; refine ⟨_, _, _, rfl, Kd.R_mono (Kd.R_far (Kd.R_far (Kd.R_far (Kd.R_far HV0.out (p := ⟨gb2, 0, none⟩) (fun k hk => E2.out k hk.1) _) (p := ⟨gb2, 1, none⟩) (fun k hk => E2.out k hk.1) _) (p := ⟨gb2, 2, none⟩) (fun k hk => E2.out k hk.1) _) (p := ⟨gb2, 3, none⟩) (fun k hk => E2.out k hk.1) _) (fun k hk e => ?_), Kd.R_mono (Kd.R_far (Kd.R_far (Kd.R_far (Kd.R_far HV1.out (p := ⟨gb2, 0, none⟩) (fun k hk => E2.out k (Nat.le_trans HS3.out hk.1)) _) (p := ⟨gb2, 1, none⟩) (fun k hk => E2.out k (Nat.le_trans HS3.out hk.1)) _) (p := ⟨gb2, 2, none⟩) (fun k hk => E2.out k (Nat.le_trans HS3.out hk.1)) _) (p := ⟨gb2, 3, none⟩) (fun k hk => E2.out k (Nat.le_trans HS3.out hk.1)) _) (fun k hk e => ?_), MC.fin (MC.move HMC.out HS5.out (fun k hk _ => ?_)), (((HB.out.setCell (p := ⟨gb2, 0, none⟩) HGE2.out _).setCell (p := ⟨gb2, 1, none⟩) HGE2.out _).setCell (p := ⟨gb2, 2, none⟩) HGE2.out _).setCell (p := ⟨gb2, 3, none⟩) HGE2.out _⟩
      · have := (HV1.out.1 k e.symm).1
        have := hk.2; omega
      · have := (HV0.out.1 k e.symm).2
        have := hk.1; omega
      · have hne : k ≠ gb2 := E2.out k (Nat.le_trans N34.out hk)
        exact (Below.heap_setCell _ _ _ k hne).trans ((Below.heap_setCell _ _ _ k hne).trans ((Below.heap_setCell _ _ _ k hne).trans (Below.heap_setCell _ _ _ k hne)))
end modcopy

end Go.Proofs.Ytkmnachdibhdhaa.U
