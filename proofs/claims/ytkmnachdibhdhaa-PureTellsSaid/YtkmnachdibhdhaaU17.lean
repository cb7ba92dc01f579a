/- Contracts of the functions of this seat (each: the call of the function does what the plain Lean function of the same name tells; the conditions stand in each statement). Written by a program of this session and by hand; checked by Lean. -/
import Derived.Test.YtkmnachdibhdhaaU0
import Derived.Test.YtkmnachdibhdhaaU11
namespace Go.Proofs.Ytkmnachdibhdhaa.U
open Go.RowKit Go.Proofs.YtkmnachdibhdhaaW.PrintWords Go.Proofs.YtkmnachdibhdhaaW.PrintLast Go.Proofs.YtkmnachdibhdhaaW.PrintMore
attribute [local go_sem] max2_int min2_int max_two min_two max_three min_three max_four min_four   -- for this text's walks alone
set_option linter.unusedVariables false
set_option linter.unusedSimpArgs false

/-! ### capstanlaw08_Spoil: function 23 -/
def capstanlaw08_Spoil.f (l0_0 l0_1 : List S86) (l0_2 : List S52) (a0_3 : Int) : Option Unit := if l0_0.length ≤ 10000 ∧ l0_1.length ≤ 10000 ∧ l0_2.length ≤ 10000 ∧ mcGood l0_2 = true then some () else none
section spoil
set_option maxRecDepth 100000
/-- Blocks stay rows of their size and type. -/
def Shp (w W : World) : Prop := ∀ (k : Nat) (cs : Array Value) (t : Nat), w.heap[k]? = some (.cells cs t (0, 0)) → ∃ cs' : Array Value, W.heap[k]? = some (.cells cs' t (0, 0)) ∧ cs'.size = cs.size
theorem Shp.below {w W W1 : World} (h : Shp w W) (hb : Below W.heap.size W W1) : Shp w W1 := fun k cs t hk => by
  obtain ⟨cs', h1, h2⟩ := h k cs t hk; exact ⟨cs', blk_below h1 hb, h2⟩
theorem Shp.set {w W : World} (h : Shp w W) (g i : Nat) (v : Value) : Shp w (W.setCell ⟨g, i, none⟩ v) := fun k cs t hk => by
  obtain ⟨cs', h1, h2⟩ := h k cs t hk
  by_cases e : k = g
  · subst e
    exact ⟨_, blk_set h1 i v, by rw [Array.size_setIfInBounds]; exact h2⟩
  · exact ⟨cs', blk_far h1 (p := ⟨g, i, none⟩) e v, h2⟩
theorem Shp.cell {w W : World} (h : Shp w W) {g o t : Nat} {cs : Array Value} (hg : w.heap[g]? = some (.cells cs t (0, 0))) (ho : o < cs.size) : ∃ u, W.cell? ⟨g, o, none⟩ = some u ∧ W.frozen? ⟨g, o, none⟩ = false := by
  obtain ⟨cs', h1, h2⟩ := h g cs t hg; exact ⟨cs'[o]'(by omega), (blk_cell h1 o).trans (Array.getElem?_eq_getElem _), blk_frozen h1 o⟩
/-- Where an element of a row of one's own lies. -/
theorem sp_row_at {α : Type} {d : Kd α} {e base g n cap : Nat} {ok : Nat → Prop} {w : World} {xs : List α} (h : d.R e w base ok (.slice (some ⟨g, 0, none⟩) n cap) xs) (z : α) (i : Nat) (hi : i < n) (q : Nat) (hq : q < d.sz) : ∃ cs : Array Value, w.heap[g]? = some (.cells cs e (0, 0)) ∧ i * d.sz + q < cs.size := by
  obtain ⟨cs, hc⟩ := Kd.R_typed h g rfl; obtain ⟨c, hcl, _, hcc, _⟩ := Kd.R_elem h z (i : Int) (by omega) (by omega); rw [Int.toNat_natCast] at hcc
  have hql : q < c.length := by omega
  have h1 := hcc q _ (List.getElem?_eq_getElem hql); rw [blk_cell hc] at h1; exact ⟨cs, hc, (Array.getElem?_eq_some_iff.1 h1).1⟩
/-- What holds while a module is written over. -/
structure SI (w0 w W : World) (S : Nat → Prop) (mb gm n : Nat) (bx : Array Value) : Prop where
  hb : Below w0.heap.size w0 W
  kept : Kept w W S
  shp : Shp w W
  box : W.heap[mb]? = some (.cells bx 25 (0, 0))
  mt : ∀ j q, j < n → q < 8 → q ≠ 4 → W.cell? ⟨gm, j * 8 + q, none⟩ = w.cell? ⟨gm, j * 8 + q, none⟩
  m4 : ∀ j, j < n → ∃ z, W.cell? ⟨gm, j * 8 + 4, none⟩ = some (.int .i64 z)
theorem sp_cell_far {W : World} {g i gm o : Nat} {v : Value} (h : gm ≠ g) : (W.setCell ⟨g, i, none⟩ v).cell? ⟨gm, o, none⟩ = W.cell? ⟨gm, o, none⟩ := by
  have := Below.heap_setCell W ⟨g, i, none⟩ v gm h
  unfold World.cell?
  simp only [this]
theorem SI.set {w0 w W : World} {S : Nat → Prop} {mb gm n : Nat} {bx : Array Value} (h : SI w0 w W S mb gm n bx) (g i : Nat) (v : Value) (hS : S g ∨ w.heap.size ≤ g) (h0 : w0.heap.size ≤ g) (hmb : mb ≠ g) (hgm : gm ≠ g) : SI w0 w (W.setCell ⟨g, i, none⟩ v) S mb gm n bx :=
  ⟨h.hb.setCell (p := ⟨g, i, none⟩) h0 v, h.kept.setCell (p := ⟨g, i, none⟩) hS v, h.shp.set g i v, blk_far h.box (p := ⟨g, i, none⟩) hmb v, fun j q hj hq h4 => (sp_cell_far hgm).trans (h.mt j q hj hq h4), fun j hj => by
    obtain ⟨z, hz⟩ := h.m4 j hj
    exact ⟨z, (sp_cell_far hgm).trans hz⟩⟩
theorem SI.fuel {w0 w W : World} {S : Nat → Prop} {mb gm n : Nat} {bx : Array Value} (h : SI w0 w W S mb gm n bx) {cs : Array Value} {t : Nat} (hg : w.heap[gm]? = some (.cells cs t (0, 0))) (j : Nat) (z : Int) (hj : j * 8 + 4 < cs.size) (hS : S gm) (h0 : w0.heap.size ≤ gm) (hmb : mb ≠ gm) : SI w0 w (W.setCell ⟨gm, j * 8 + 4, none⟩ (.int .i64 z)) S mb gm n bx := by
  obtain ⟨cs', h1, h2⟩ := h.shp gm cs t hg; have hs := blk_set h1 (j * 8 + 4) (.int .i64 z); refine ⟨h.hb.setCell (p := ⟨gm, j * 8 + 4, none⟩) h0 _, h.kept.setCell (p := ⟨gm, j * 8 + 4, none⟩) (.inl hS) _, h.shp.set _ _ _, blk_far h.box (p := ⟨gm, j * 8 + 4, none⟩) hmb _, fun i q hi hq h4 => ?_, fun i hi => ?_⟩
  · rw [← h.mt i q hi hq h4, blk_cell hs, blk_cell h1, Array.getElem?_setIfInBounds, if_neg (by omega)]
  · by_cases e : i = j
    · subst e
      exact ⟨z, by rw [blk_cell hs, Array.getElem?_setIfInBounds, if_pos rfl, if_pos (by omega)]⟩
    · obtain ⟨y, hy⟩ := h.m4 i hi
      exact ⟨y, by rw [← hy, blk_cell hs, blk_cell h1, Array.getElem?_setIfInBounds, if_neg (by omega)]⟩
theorem SI.below {w0 w W W1 : World} {S : Nat → Prop} {mb gm n : Nat} {bx : Array Value} (h : SI w0 w W S mb gm n bx) (hgm : 0 < n → gm < W.heap.size) (hb : Below W.heap.size W W1) : SI w0 w W1 S mb gm n bx :=
  ⟨h.hb.trans (hb.mono h.hb.size), h.kept.below hb, h.shp.below hb, blk_below h.box hb, fun j q hj hq h4 => (hb.cell (p := ⟨gm, j * 8 + q, none⟩) (hgm (by omega))).trans (h.mt j q hj hq h4), fun j hj => by
    obtain ⟨z, hz⟩ := h.m4 j hj
    exact ⟨z, (hb.cell (p := ⟨gm, j * 8 + 4, none⟩) (hgm (by omega))).trans hz⟩⟩
theorem SI.set' {w0 w W : World} {S : Nat → Prop} {mb gm n : Nat} {bx : Array Value} (h : SI w0 w W S mb gm n bx) (g i : Nat) (v : Value) (hS : S g ∨ w.heap.size ≤ g) (h0 : w0.heap.size ≤ g) (hmb : mb ≠ g) (hgm : gm ≠ g ∨ n = 0) : SI w0 w (W.setCell ⟨g, i, none⟩ v) S mb gm n bx := by
  rcases hgm with hgm | hn
  · exact h.set g i v hS h0 hmb hgm
  · exact ⟨h.hb.setCell (p := ⟨g, i, none⟩) h0 v, h.kept.setCell (p := ⟨g, i, none⟩) hS v, h.shp.set g i v, blk_far h.box (p := ⟨g, i, none⟩) hmb v, fun j q hj => by omega, fun j hj => by omega⟩
set_option maxHeartbeats 8000000 in
theorem capstanlaw08_Spoil.calls (P0_0_ P0_1_ P0_2_ : Nat → Prop) (u9000_ : Value) (l0_0 : List (S86)) (u9001_ : Value) (l0_1 : List (S86)) (u9002_ : Value) (l0_2 : List (S52)) (a0_3 : Int) (w0 w : World) (hB : Below w0.heap.size w0 w) (ho0_0 : Kd.R k86 86 w w0.heap.size P0_0_ u9000_ l0_0) (ho0_1 : Kd.R k86 86 w w0.heap.size P0_1_ u9001_ l0_1) (ho0_2 : Kd.R k52 52 w w0.heap.size P0_2_ u9002_ l0_2) (hl0 : l0_0.length ≤ 10000) (hl1 : l0_1.length ≤ 10000) (hl2 : l0_2.length ≤ 10000) (hgd : mcGood l0_2 = true) :
    Calls Try.prog 23 #[.agg #[u9000_, u9001_, u9002_, .int .i64 a0_3]] w fun e w' => e = .returned (.tuple #[]) ∧ Below w0.heap.size w0 w' ∧ Kept w w' (fun k_ => P0_0_ k_ ∨ P0_1_ k_ ∨ P0_2_ k_) := by
  obtain ⟨Aa, ca, rfl⟩ := Kd.R_slice ho0_0; obtain ⟨Ab, cb, rfl⟩ := Kd.R_slice ho0_1; obtain ⟨Am, cm, rfl⟩ := Kd.R_slice ho0_2
  obtain ⟨gm, hgm⟩ : ∃ gm, 0 < l0_2.length → Am = some ⟨gm, 0, none⟩ := by
    by_cases h : 0 < l0_2.length
    · obtain ⟨g, cap, e, _⟩ := Kd.R_form ho0_2 h
      injection e with e
      exact ⟨g, fun _ => e⟩
    · exact ⟨0, fun h2 => absurd h2 h⟩
  have HR0 := Aside0.mk ho0_0; have HR1 := Aside0.mk ho0_1; have HR2 := Aside0.mk ho0_2; have HGM := Aside0.mk hgm; have HL0 := Aside0.mk hl0; have HL1 := Aside0.mk hl1; have HL2 := Aside0.mk hl2; have HGD := Aside0.mk hgd; have HB := Aside0.mk hB; clear ho0_0 ho0_1 ho0_2 hgm hl0 hl1 hl2 hgd hB
  go_enter Try.func23, Try.ntmps23
  go_wp2_with (first | ((with_reducible refine gate_dst (N := 1) rfl ?_); refine box_event ?hg (N := 1) ?hd (cs := #[.slice Aa l0_0.length ca, .slice Ab l0_1.length cb, .slice Am l0_2.length cm, .int .i64 a0_3]) (t := 25) ?hr ?_; (case hd => rfl); (case hg => rfl); (case hr => first | (go_simp; done) | (go_simp; rfl)); intro mb hgb_ w1 hbox hbb; have BKb := Aside0.mk hbox; have HGb := Aside0.mk hgb_; have HBb := Aside0.mk hbb; clear hgb_ hbb hbox))
  have HMB : Aside0 (w.heap.size ≤ mb) := ⟨Nat.le_of_eq HGb.out.symm⟩
  have HS0 : Aside0 (SI w0 w w1 (fun k_ => P0_0_ k_ ∨ P0_1_ k_ ∨ P0_2_ k_) mb gm l0_2.length #[.slice Aa l0_0.length ca, .slice Ab l0_1.length cb, .slice Am l0_2.length cm, .int .i64 a0_3]) := ⟨⟨HB.out.trans (HBb.out.mono HB.out.size), Kept.of_below HBb.out _, fun k cs t hk => ⟨cs, blk_below hk HBb.out, rfl⟩, BKb.out, fun j q hj hq _ => by
    have e := HGM.out (by omega); have h := HR2.out
    rw [e] at h
    obtain ⟨cs, h1, h2⟩ := sp_row_at h z52 j hj q hq; have hlt : gm < w.heap.size := blk_lt h1
    exact HBb.out.cell (p := ⟨gm, j * 8 + q, none⟩) hlt, fun j hj => by
    have e := HGM.out (by omega); have h := HR2.out
    rw [e] at h
    obtain ⟨cs, h1, _⟩ := sp_row_at h z52 j hj 4 (by decide); obtain ⟨c, _, hM, hcc, _⟩ := Kd.R_elem h z52 (j : Int) (by omega) (by omega); obtain ⟨_, _, _, rfl, _⟩ := k52_openM hM; have := hcc 4 _ rfl; rw [Int.toNat_natCast] at this
    exact ⟨_, (HBb.out.cell (p := ⟨gm, j * 8 + 4, none⟩) (blk_lt h1)).trans this⟩⟩⟩
  clear HBb BKb HGb HB
  go_loopg [2] l0_0.length (fun kq v2 w' => ∃ i : Nat, v2 = .int .i64 (i : Int) ∧ Aside0 (kq + i = l0_0.length) ∧ Aside0 (SI w0 w w' (fun k_ => P0_0_ k_ ∨ P0_1_ k_ ∨ P0_2_ k_) mb gm l0_2.length #[.slice Aa l0_0.length ca, .slice Ab l0_1.length cb, .slice Am l0_2.length cm, .int .i64 a0_3]))
  case atStart => exact ⟨0, rfl, ⟨by omega⟩, HS0⟩
  case round =>
    clear HS0; obtain ⟨i, rfl, HI, HS⟩ := hrel; have hI := HI.out; have h10 := HL0.out; clear HI; have hw : IntKind.i64.wrap ((i : Int) + 1) = ((i + 1 : Nat) : Int) := (i64_w _).trans (by unfold wrap64; omega); have hb0 : wr.cell? ⟨mb, 0, none⟩ = some (.slice Aa l0_0.length ca) := (blk_cell HS.out.box 0).trans rfl
    by_cases hlt : i < l0_0.length
    · obtain ⟨g, cap, e1, hgb, _, _⟩ := Kd.R_form HR0.out (by omega)
      injection e1 with ea en ec
      clear en ec cap; subst ea; obtain ⟨cs, hg1, hg2⟩ := sp_row_at HR0.out z86 i hlt 0 (by decide); obtain ⟨u, hc, hf⟩ := HS.out.shp.cell hg1 hg2; have hP : P0_0_ g := HR0.out.1 g rfl
      have hne : gm ≠ g ∨ l0_2.length = 0 := by
        by_cases h0 : 0 < l0_2.length
        · refine .inl fun e => ?_
          have h := HR2.out
          rw [HGM.out h0] at h
          obtain ⟨cs2, h2⟩ := Kd.R_typed h gm rfl; rw [e, hg1] at h2
          injection h2 with h2
          injection h2 with _ h2
          revert h2
          decide
        · exact .inr (by omega)
      have hmb : mb ≠ g := fun e => by have h1 := blk_lt hg1; have h2 := HMB.out; omega
      have HNX : Aside0 (SI w0 w (wr.setCell ⟨g, i * 3, none⟩ (.int .u8 77)) (fun k_ => P0_0_ k_ ∨ P0_1_ k_ ∨ P0_2_ k_) mb gm l0_2.length #[.slice (some ⟨g, 0, none⟩) l0_0.length ca, .slice Ab l0_1.length cb, .slice Am l0_2.length cm, .int .i64 a0_3]) := ⟨SI.set' HS.out g (i * 3) _ (.inl (.inl hP)) hgb hmb hne⟩; have hd : decide ((i : Int) < (l0_0.length : Int)) = true := decide_eq_true (by omega); have p0 : (0 ≤ (i : Int)) = True := eq_true (by omega); have q0 : ((i : Int) < (l0_0.length : Int)) = True := eq_true (by omega); replace hc : wr.cell? ⟨g, i * 3, none⟩ = some u := hc; replace hf : wr.frozen? ⟨g, i * 3, none⟩ = false := hf; clear hg1 hg2 hne hmb hP hgb HS; go_wp2
      go_roundg (gk - 1)
      case measure => omega
      case rel => exact ⟨i + 1, by first | rfl | (rw [hw]), ⟨by omega⟩, HNX⟩
    · obtain rfl : i = l0_0.length := by omega
      have hd : decide ((l0_0.length : Int) < (l0_0.length : Int)) = false := decide_eq_false (by omega); clear hI hw h10; go_wp2; clear hd hb0
      go_loopg [3] l0_1.length (fun kq v3 w' => ∃ i : Nat, v3 = .int .i64 (i : Int) ∧ Aside0 (kq + i = l0_1.length) ∧ Aside0 (SI w0 w w' (fun k_ => P0_0_ k_ ∨ P0_1_ k_ ∨ P0_2_ k_) mb gm l0_2.length #[.slice Aa l0_0.length ca, .slice Ab l0_1.length cb, .slice Am l0_2.length cm, .int .i64 a0_3]))
      case atStart => exact ⟨0, rfl, ⟨by omega⟩, HS⟩
      case round =>
        clear HS; obtain ⟨i, rfl, HI, HS⟩ := hrel; have hI := HI.out; have h10 := HL1.out; clear HI; have hw : IntKind.i64.wrap ((i : Int) + 1) = ((i + 1 : Nat) : Int) := (i64_w _).trans (by unfold wrap64; omega); have hb0 : wr.cell? ⟨mb, 1, none⟩ = some (.slice Ab l0_1.length cb) := (blk_cell HS.out.box 1).trans rfl
        by_cases hlt : i < l0_1.length
        · obtain ⟨g, cap, e1, hgb, _, _⟩ := Kd.R_form HR1.out (by omega)
          injection e1 with ea en ec
          clear en ec cap; subst ea; obtain ⟨cs, hg1, hg2⟩ := sp_row_at HR1.out z86 i hlt 0 (by decide); obtain ⟨u, hc, hf⟩ := HS.out.shp.cell hg1 hg2; have hP : P0_1_ g := HR1.out.1 g rfl
          have hne : gm ≠ g ∨ l0_2.length = 0 := by
            by_cases h0 : 0 < l0_2.length
            · refine .inl fun e => ?_
              have h := HR2.out
              rw [HGM.out h0] at h
              obtain ⟨cs2, h2⟩ := Kd.R_typed h gm rfl; rw [e, hg1] at h2
              injection h2 with h2
              injection h2 with _ h2
              revert h2
              decide
            · exact .inr (by omega)
          have hmb : mb ≠ g := fun e => by have h1 := blk_lt hg1; have h2 := HMB.out; omega
          have HNX : Aside0 (SI w0 w (wr.setCell ⟨g, i * 3, none⟩ (.int .u8 77)) (fun k_ => P0_0_ k_ ∨ P0_1_ k_ ∨ P0_2_ k_) mb gm l0_2.length #[.slice Aa l0_0.length ca, .slice (some ⟨g, 0, none⟩) l0_1.length cb, .slice Am l0_2.length cm, .int .i64 a0_3]) := ⟨SI.set' HS.out g (i * 3) _ (.inl (.inr (.inl hP))) hgb hmb hne⟩; have hd : decide ((i : Int) < (l0_1.length : Int)) = true := decide_eq_true (by omega); have p0 : (0 ≤ (i : Int)) = True := eq_true (by omega); have q0 : ((i : Int) < (l0_1.length : Int)) = True := eq_true (by omega); replace hc : wr.cell? ⟨g, i * 3, none⟩ = some u := hc; replace hf : wr.frozen? ⟨g, i * 3, none⟩ = false := hf; clear hg1 hg2 hne hmb hP hgb HS; go_wp2
          go_roundg (gk - 1)
          case measure => omega
          case rel => exact ⟨i + 1, by first | rfl | (rw [hw]), ⟨by omega⟩, HNX⟩
        · obtain rfl : i = l0_1.length := by omega
          have hd : decide ((l0_1.length : Int) < (l0_1.length : Int)) = false := decide_eq_false (by omega); clear hI hw h10; go_wp2; clear hd hb0
          go_loopg [4] l0_2.length (fun kq v4 w' => ∃ j : Nat, v4 = .int .i64 (j : Int) ∧ Aside0 (kq + j = l0_2.length) ∧ Aside0 (SI w0 w w' (fun k_ => P0_0_ k_ ∨ P0_1_ k_ ∨ P0_2_ k_) mb gm l0_2.length #[.slice Aa l0_0.length ca, .slice Ab l0_1.length cb, .slice Am l0_2.length cm, .int .i64 a0_3]))
          case atStart => exact ⟨0, rfl, ⟨by omega⟩, HS⟩
          case round =>
            clear HS; obtain ⟨j, rfl, HJ, HS⟩ := hrel; have hJ := HJ.out; have hln := HL2.out; have hw3 : IntKind.i64.wrap ((j : Int) + 1) = ((j + 1 : Nat) : Int) := (i64_w _).trans (by unfold wrap64; omega); have hb2 : wr.cell? ⟨mb, 2, none⟩ = some (.slice Am l0_2.length cm) := (blk_cell HS.out.box 2).trans rfl
            by_cases hlt3 : j < l0_2.length
            · obtain rfl : Am = some ⟨gm, 0, none⟩ := HGM.out (by omega)
              obtain ⟨c, hcl, hM0, hcc, _⟩ := Kd.R_elem HR2.out z52 (j : Int) (by omega) (by omega); have hM : (k52).M w w0.heap.size (fun k => P0_2_ k ∧ k ≠ gm) (rd_T52 l0_2 (j : Int)) c := hM0; obtain ⟨ve0, ve1, ve7, rfl, ge0, ge1, ge7⟩ := k52_openM hM; obtain ⟨A0', c0', rfl⟩ := Kd.R_slice ge0; obtain ⟨A1', c1', rfl⟩ := Kd.R_slice ge1; obtain ⟨A7', c7', rfl⟩ := Kd.R_slice ge7; rw [Int.toNat_natCast] at hcc; obtain ⟨z4, hx4⟩ := HS.out.m4 j hlt3; have hx0 : wr.cell? ⟨gm, j * 8, none⟩ = some (.slice A0' (rd_T52 l0_2 (j : Int)).f0.length c0') := (HS.out.mt j 0 hlt3 (by decide) (by decide)).trans (hcc 0 _ rfl); have hx1 : wr.cell? ⟨gm, j * 8 + 1, none⟩ = some (.slice A1' (rd_T52 l0_2 (j : Int)).f1.length c1') := (HS.out.mt j 1 hlt3 (by decide) (by decide)).trans (hcc 1 _ rfl); have hx2 : wr.cell? ⟨gm, j * 8 + 2, none⟩ = some (.int .u8 (rd_T52 l0_2 (j : Int)).f2) := (HS.out.mt j 2 hlt3 (by decide) (by decide)).trans (hcc 2 _ rfl); have hx3 : wr.cell? ⟨gm, j * 8 + 3, none⟩ = some (.bool (rd_T52 l0_2 (j : Int)).f3) := (HS.out.mt j 3 hlt3 (by decide) (by decide)).trans (hcc 3 _ rfl); have hx5 : wr.cell? ⟨gm, j * 8 + 5, none⟩ = some (.int .i64 (rd_T52 l0_2 (j : Int)).f5) := (HS.out.mt j 5 hlt3 (by decide) (by decide)).trans (hcc 5 _ rfl); have hx6 : wr.cell? ⟨gm, j * 8 + 6, none⟩ = some (.int .i64 (rd_T52 l0_2 (j : Int)).f6) := (HS.out.mt j 6 hlt3 (by decide) (by decide)).trans (hcc 6 _ rfl); have hx7 : wr.cell? ⟨gm, j * 8 + 7, none⟩ = some (.slice A7' (rd_T52 l0_2 (j : Int)).f7.length c7') := (HS.out.mt j 7 hlt3 (by decide) (by decide)).trans (hcc 7 _ rfl)
              have G0 := Aside0.mk ge0; have G1 := Aside0.mk ge1; have G7 := Aside0.mk ge7
              have hj2 : l0_2[j]? = some (rd_T52 l0_2 (j : Int)) := by simp [rd_T52, hlt3]
              have hsm := List.all_eq_true.1 HGD.out _ (List.mem_of_getElem? hj2); simp only [Bool.and_eq_true, decide_eq_true_eq] at hsm; have HN0 : Aside0 ((rd_T52 l0_2 (j : Int)).f0.length ≤ 1000000) := ⟨hsm.1.1⟩; have HN1 : Aside0 ((rd_T52 l0_2 (j : Int)).f1.length ≤ 1000000) := ⟨hsm.1.2⟩; have HN7 : Aside0 ((rd_T52 l0_2 (j : Int)).f7.length ≤ 1000000) := ⟨hsm.2⟩; obtain ⟨csm, hgm1, hgm2⟩ := sp_row_at HR2.out z52 j hlt3 4 (by decide); have HGM1 := Aside0.mk hgm1; have HGM2 : Aside0 (j * 8 + 4 < csm.size) := ⟨hgm2⟩; have HPM : Aside0 (P0_2_ gm) := ⟨HR2.out.1 gm rfl⟩; have HGB : Aside0 (w0.heap.size ≤ gm) := ⟨Kd.R_base HR2.out gm rfl⟩; have HMM : Aside0 (mb ≠ gm) := ⟨fun e => by have h1 := blk_lt hgm1; have h2 := HMB.out; omega⟩; have HB' : Aside0 (w0.heap.size ≤ w.heap.size) := ⟨Nat.le_of_lt (Nat.lt_of_le_of_lt HGB.out (blk_lt hgm1))⟩; obtain ⟨csr, hgr, hgr2⟩ := HS.out.shp gm csm 52 hgm1; have HGL : Aside0 (gm < wr.heap.size) := ⟨blk_lt hgr⟩; have hd : decide ((j : Int) < (l0_2.length : Int)) = true := decide_eq_true (by omega); have p0 : (0 ≤ (j : Int)) = True := eq_true (by omega); have q0 : ((j : Int) < (l0_2.length : Int)) = True := eq_true (by omega); have HWL : Aside0 (w.heap.size ≤ wr.heap.size) := ⟨HS.out.kept.1⟩; have HML : Aside0 (mb < wr.heap.size) := ⟨blk_lt HS.out.box⟩; clear hM hM0 ge0 ge1 ge7 hcc hcl hj2 hsm hgm1 hgm2 hgr hgr2 csr
              go_wp2_with (first | ((with_reducible refine gate_dst (N := 5) rfl ?_); refine box_event ?hg (N := 5) ?hd (cs := #[.slice none 0 0, .slice none 0 0, .int .u8 0, .bool false, .int .i64 0, .int .i64 0, .int .i64 0, .slice none 0 0]) (t := 52) ?hr ?_; (case hd => rfl); (case hg => rfl); (case hr => first | (go_simp; done) | (go_simp; rfl)); intro gx hgx w21 hbox hbx; have BX := Aside0.mk hbox; have HGX := Aside0.mk hgx; have HBX := Aside0.mk hbx; clear hgx hbx; have hxz0 : w21.cell? ⟨gx, 0, none⟩ = some (.slice none 0 0) := (blk_cell hbox 0).trans rfl; have hxf0 := blk_frozen hbox 0; have hxz1 : w21.cell? ⟨gx, 1, none⟩ = some (.slice none 0 0) := (blk_cell hbox 1).trans rfl; have hxf1 := blk_frozen hbox 1; have hxz2 : w21.cell? ⟨gx, 2, none⟩ = some (.int .u8 0) := (blk_cell hbox 2).trans rfl; have hxf2 := blk_frozen hbox 2; have hxz3 : w21.cell? ⟨gx, 3, none⟩ = some (.bool false) := (blk_cell hbox 3).trans rfl; have hxf3 := blk_frozen hbox 3; have hxz4 : w21.cell? ⟨gx, 4, none⟩ = some (.int .i64 0) := (blk_cell hbox 4).trans rfl; have hxf4 := blk_frozen hbox 4; have hxz5 : w21.cell? ⟨gx, 5, none⟩ = some (.int .i64 0) := (blk_cell hbox 5).trans rfl; have hxf5 := blk_frozen hbox 5; have hxz6 : w21.cell? ⟨gx, 6, none⟩ = some (.int .i64 0) := (blk_cell hbox 6).trans rfl; have hxf6 := blk_frozen hbox 6; have hxz7 : w21.cell? ⟨gx, 7, none⟩ = some (.slice none 0 0) := (blk_cell hbox 7).trans rfl; have hxf7 := blk_frozen hbox 7; clear hbox))
              have HGX' : Aside0 (w.heap.size ≤ gx) := ⟨Nat.le_trans HWL.out (Nat.le_of_eq HGX.out.symm)⟩; have HMX : Aside0 (mb ≠ gx) := ⟨fun e => by have h1 := HML.out; have h2 := HGX.out; omega⟩; have HMG : Aside0 (gm ≠ gx) := ⟨fun e => by have h1 := HGL.out; have h2 := HGX.out; omega⟩; have HS8 := Aside0.mk (SI.set (SI.set (SI.set (SI.set (SI.set (SI.set (SI.set (SI.set (HS.out.below (fun _ => HGL.out) HBX.out) gx 0 (.slice A0' (rd_T52 l0_2 (j : Int)).f0.length c0') (.inr HGX'.out) (Nat.le_trans HB'.out HGX'.out) HMX.out HMG.out) gx 1 (.slice A1' (rd_T52 l0_2 (j : Int)).f1.length c1') (.inr HGX'.out) (Nat.le_trans HB'.out HGX'.out) HMX.out HMG.out) gx 2 (.int .u8 (rd_T52 l0_2 (j : Int)).f2) (.inr HGX'.out) (Nat.le_trans HB'.out HGX'.out) HMX.out HMG.out) gx 3 (.bool (rd_T52 l0_2 (j : Int)).f3) (.inr HGX'.out) (Nat.le_trans HB'.out HGX'.out) HMX.out HMG.out) gx 4 (.int .i64 z4) (.inr HGX'.out) (Nat.le_trans HB'.out HGX'.out) HMX.out HMG.out) gx 5 (.int .i64 (rd_T52 l0_2 (j : Int)).f5) (.inr HGX'.out) (Nat.le_trans HB'.out HGX'.out) HMX.out HMG.out) gx 6 (.int .i64 (rd_T52 l0_2 (j : Int)).f6) (.inr HGX'.out) (Nat.le_trans HB'.out HGX'.out) HMX.out HMG.out) gx 7 (.slice A7' (rd_T52 l0_2 (j : Int)).f7.length c7') (.inr HGX'.out) (Nat.le_trans HB'.out HGX'.out) HMX.out HMG.out); have BX8 := Aside0.mk (blk_put (blk_put (blk_put (blk_put (blk_put (blk_put (blk_put (blk_put BX.out 0 (.slice A0' (rd_T52 l0_2 (j : Int)).f0.length c0') rfl) 1 (.slice A1' (rd_T52 l0_2 (j : Int)).f1.length c1') rfl) 2 (.int .u8 (rd_T52 l0_2 (j : Int)).f2) rfl) 3 (.bool (rd_T52 l0_2 (j : Int)).f3) rfl) 4 (.int .i64 z4) rfl) 5 (.int .i64 (rd_T52 l0_2 (j : Int)).f5) rfl) 6 (.int .i64 (rd_T52 l0_2 (j : Int)).f6) rfl) 7 (.slice A7' (rd_T52 l0_2 (j : Int)).f7.length c7') rfl)
              clear HS BX hx0 hx1 hx2 hx3 hx4 hx5 hx6 hx7 p0 q0 hd hb2 hxz0 hxz1 hxz2 hxz3 hxz4 hxz5 hxz6 hxz7 hxf0 hxf1 hxf2 hxf3 hxf4 hxf5 hxf6 hxf7; have HS := HS8; have BX := BX8; clear HS8 BX8
              go_loopg [6] (rd_T52 l0_2 (j : Int)).f0.length (fun kq v6 w' => ∃ i : Nat, v6 = .int .i64 (i : Int) ∧ Aside0 (kq + i = (rd_T52 l0_2 (j : Int)).f0.length) ∧ Aside0 (SI w0 w w' (fun k_ => P0_0_ k_ ∨ P0_1_ k_ ∨ P0_2_ k_) mb gm l0_2.length #[.slice Aa l0_0.length ca, .slice Ab l0_1.length cb, .slice (some ⟨gm, 0, none⟩) l0_2.length cm, .int .i64 a0_3]) ∧ Aside0 (w'.heap[gx]? = some (.cells #[.slice A0' (rd_T52 l0_2 (j : Int)).f0.length c0', .slice A1' (rd_T52 l0_2 (j : Int)).f1.length c1', .int .u8 (rd_T52 l0_2 (j : Int)).f2, .bool (rd_T52 l0_2 (j : Int)).f3, .int .i64 z4, .int .i64 (rd_T52 l0_2 (j : Int)).f5, .int .i64 (rd_T52 l0_2 (j : Int)).f6, .slice A7' (rd_T52 l0_2 (j : Int)).f7.length c7'] 52 (0, 0))))
              case atStart => exact ⟨0, rfl, ⟨by omega⟩, HS, BX⟩
              case round =>
                clear HS BX; obtain ⟨i, rfl, HI, HS, BX⟩ := hrel; have hI := HI.out; have hln := HN0.out; clear HI; have hw : IntKind.i64.wrap ((i : Int) + 1) = ((i + 1 : Nat) : Int) := (i64_w _).trans (by unfold wrap64; omega); have hb0 : wr.cell? ⟨gx, 0, none⟩ = some (.slice A0' (rd_T52 l0_2 (j : Int)).f0.length c0') := (blk_cell BX.out 0).trans rfl
                by_cases hlt : i < (rd_T52 l0_2 (j : Int)).f0.length
                · obtain ⟨g, cap, e1, hgb, _, _⟩ := Kd.R_form G0.out (by omega)
                  injection e1 with ea en ec
                  clear en ec cap; subst ea; obtain ⟨cs, hg1, hg2⟩ := sp_row_at G0.out (0 : Int) i hlt 0 (by decide)
                  replace hg2 : i < cs.size := by have h : i * 1 + 0 < cs.size := hg2; omega
                  obtain ⟨u, hc, hf⟩ := HS.out.shp.cell hg1 hg2; have hP : P0_2_ g ∧ g ≠ gm := G0.out.1 g rfl; have hgl := blk_lt hg1; have HNX := Aside0.mk (HS.out.set g (i) (.int .u8 77) (.inl (.inr (.inr hP.1))) hgb (fun e => by have h2 := HMB.out; omega) (fun e => hP.2 e.symm)); have BNX := Aside0.mk (blk_far BX.out (p := ⟨g, i, none⟩) (fun e => by have h2 := HGX'.out; have h3 : gx = g := e; omega) (.int .u8 77)); have hd : decide ((i : Int) < ((rd_T52 l0_2 (j : Int)).f0.length : Int)) = true := decide_eq_true (by omega); have p0 : (0 ≤ (i : Int)) = True := eq_true (by omega); have q0 : ((i : Int) < ((rd_T52 l0_2 (j : Int)).f0.length : Int)) = True := eq_true (by omega); clear hg1 hg2 hP hgb HS BX hgl; go_wp2
                  go_roundg (gk - 1)
                  case measure => omega
                  case rel => exact ⟨i + 1, by first | rfl | (rw [hw]), ⟨by omega⟩, HNX, BNX⟩
                · obtain rfl : i = (rd_T52 l0_2 (j : Int)).f0.length := by omega
                  have hd : decide (((rd_T52 l0_2 (j : Int)).f0.length : Int) < ((rd_T52 l0_2 (j : Int)).f0.length : Int)) = false := decide_eq_false (by omega); clear hI hw hln; go_wp2
                  go_loopg [7] (rd_T52 l0_2 (j : Int)).f1.length (fun kq v7 w' => ∃ i : Nat, v7 = .int .i64 (i : Int) ∧ Aside0 (kq + i = (rd_T52 l0_2 (j : Int)).f1.length) ∧ Aside0 (SI w0 w w' (fun k_ => P0_0_ k_ ∨ P0_1_ k_ ∨ P0_2_ k_) mb gm l0_2.length #[.slice Aa l0_0.length ca, .slice Ab l0_1.length cb, .slice (some ⟨gm, 0, none⟩) l0_2.length cm, .int .i64 a0_3]) ∧ Aside0 (w'.heap[gx]? = some (.cells #[.slice A0' (rd_T52 l0_2 (j : Int)).f0.length c0', .slice A1' (rd_T52 l0_2 (j : Int)).f1.length c1', .int .u8 (rd_T52 l0_2 (j : Int)).f2, .bool (rd_T52 l0_2 (j : Int)).f3, .int .i64 z4, .int .i64 (rd_T52 l0_2 (j : Int)).f5, .int .i64 (rd_T52 l0_2 (j : Int)).f6, .slice A7' (rd_T52 l0_2 (j : Int)).f7.length c7'] 52 (0, 0))))
                  case atStart => exact ⟨0, rfl, ⟨by omega⟩, HS, BX⟩
                  case round =>
                    clear HS BX; obtain ⟨i, rfl, HI, HS, BX⟩ := hrel; have hI := HI.out; have hln := HN1.out; clear HI; have hw : IntKind.i64.wrap ((i : Int) + 1) = ((i + 1 : Nat) : Int) := (i64_w _).trans (by unfold wrap64; omega); have hb0 : wr.cell? ⟨gx, 1, none⟩ = some (.slice A1' (rd_T52 l0_2 (j : Int)).f1.length c1') := (blk_cell BX.out 1).trans rfl
                    by_cases hlt : i < (rd_T52 l0_2 (j : Int)).f1.length
                    · obtain ⟨g, cap, e1, hgb, _, _⟩ := Kd.R_form G1.out (by omega)
                      injection e1 with ea en ec
                      clear en ec cap; subst ea; obtain ⟨cs, hg1, hg2⟩ := sp_row_at G1.out (0 : Int) i hlt 0 (by decide)
                      replace hg2 : i < cs.size := by have h : i * 1 + 0 < cs.size := hg2; omega
                      obtain ⟨u, hc, hf⟩ := HS.out.shp.cell hg1 hg2; have hP : P0_2_ g ∧ g ≠ gm := G1.out.1 g rfl; have hgl := blk_lt hg1; have HNX := Aside0.mk (HS.out.set g (i) (.int .u8 77) (.inl (.inr (.inr hP.1))) hgb (fun e => by have h2 := HMB.out; omega) (fun e => hP.2 e.symm)); have BNX := Aside0.mk (blk_far BX.out (p := ⟨g, i, none⟩) (fun e => by have h2 := HGX'.out; have h3 : gx = g := e; omega) (.int .u8 77)); have hd : decide ((i : Int) < ((rd_T52 l0_2 (j : Int)).f1.length : Int)) = true := decide_eq_true (by omega); have p0 : (0 ≤ (i : Int)) = True := eq_true (by omega); have q0 : ((i : Int) < ((rd_T52 l0_2 (j : Int)).f1.length : Int)) = True := eq_true (by omega); clear hg1 hg2 hP hgb HS BX hgl; go_wp2
                      go_roundg (gk - 1)
                      case measure => omega
                      case rel => exact ⟨i + 1, by first | rfl | (rw [hw]), ⟨by omega⟩, HNX, BNX⟩
                    · obtain rfl : i = (rd_T52 l0_2 (j : Int)).f1.length := by omega
                      have hd : decide (((rd_T52 l0_2 (j : Int)).f1.length : Int) < ((rd_T52 l0_2 (j : Int)).f1.length : Int)) = false := decide_eq_false (by omega); clear hI hw hln; go_wp2
                      go_loopg [8] (rd_T52 l0_2 (j : Int)).f7.length (fun kq v8 w' => ∃ i : Nat, v8 = .int .i64 (i : Int) ∧ Aside0 (kq + i = (rd_T52 l0_2 (j : Int)).f7.length) ∧ Aside0 (SI w0 w w' (fun k_ => P0_0_ k_ ∨ P0_1_ k_ ∨ P0_2_ k_) mb gm l0_2.length #[.slice Aa l0_0.length ca, .slice Ab l0_1.length cb, .slice (some ⟨gm, 0, none⟩) l0_2.length cm, .int .i64 a0_3]) ∧ Aside0 (w'.heap[gx]? = some (.cells #[.slice A0' (rd_T52 l0_2 (j : Int)).f0.length c0', .slice A1' (rd_T52 l0_2 (j : Int)).f1.length c1', .int .u8 (rd_T52 l0_2 (j : Int)).f2, .bool (rd_T52 l0_2 (j : Int)).f3, .int .i64 z4, .int .i64 (rd_T52 l0_2 (j : Int)).f5, .int .i64 (rd_T52 l0_2 (j : Int)).f6, .slice A7' (rd_T52 l0_2 (j : Int)).f7.length c7'] 52 (0, 0))))
                      case atStart => exact ⟨0, rfl, ⟨by omega⟩, HS, BX⟩
                      case round =>
                        clear HS BX; obtain ⟨i, rfl, HI, HS, BX⟩ := hrel; have hI := HI.out; have hln := HN7.out; clear HI; have hw : IntKind.i64.wrap ((i : Int) + 1) = ((i + 1 : Nat) : Int) := (i64_w _).trans (by unfold wrap64; omega); have hb0 : wr.cell? ⟨gx, 7, none⟩ = some (.slice A7' (rd_T52 l0_2 (j : Int)).f7.length c7') := (blk_cell BX.out 7).trans rfl
                        by_cases hlt : i < (rd_T52 l0_2 (j : Int)).f7.length
                        · obtain ⟨g, cap, e1, hgb, _, _⟩ := Kd.R_form G7.out (by omega)
                          injection e1 with ea en ec
                          clear en ec cap; subst ea; obtain ⟨cs, hg1, hg2⟩ := sp_row_at G7.out z70 i hlt 0 (by decide)
                          replace hg2 : i * 3 < cs.size := by have h : i * 3 + 0 < cs.size := hg2; omega
                          obtain ⟨u, hc, hf⟩ := HS.out.shp.cell hg1 hg2; have hP : P0_2_ g ∧ g ≠ gm := G7.out.1 g rfl; have hgl := blk_lt hg1; have HNX := Aside0.mk (HS.out.set g (i * 3) (.int .u8 77) (.inl (.inr (.inr hP.1))) hgb (fun e => by have h2 := HMB.out; omega) (fun e => hP.2 e.symm)); have BNX := Aside0.mk (blk_far BX.out (p := ⟨g, i * 3, none⟩) (fun e => by have h2 := HGX'.out; have h3 : gx = g := e; omega) (.int .u8 77)); have hd : decide ((i : Int) < ((rd_T52 l0_2 (j : Int)).f7.length : Int)) = true := decide_eq_true (by omega); have p0 : (0 ≤ (i : Int)) = True := eq_true (by omega); have q0 : ((i : Int) < ((rd_T52 l0_2 (j : Int)).f7.length : Int)) = True := eq_true (by omega); clear hg1 hg2 hP hgb HS BX hgl; go_wp2
                          go_roundg (gk - 1)
                          case measure => omega
                          case rel => exact ⟨i + 1, by first | rfl | (rw [hw]), ⟨by omega⟩, HNX, BNX⟩
                        · obtain rfl : i = (rd_T52 l0_2 (j : Int)).f7.length := by omega
                          have hd : decide (((rd_T52 l0_2 (j : Int)).f7.length : Int) < ((rd_T52 l0_2 (j : Int)).f7.length : Int)) = false := decide_eq_false (by omega); clear hI hw hln; have hb2 : wr.cell? ⟨mb, 2, none⟩ = some (.slice (some ⟨gm, 0, none⟩) l0_2.length cm) := (blk_cell HS.out.box 2).trans rfl; obtain ⟨u, hc, hf⟩ := HS.out.shp.cell HGM1.out HGM2.out; have HNX := Aside0.mk (HS.out.fuel HGM1.out j 77 HGM2.out (.inr (.inr HPM.out)) HGB.out HMM.out); clear HS BX; go_wp2
                          go_roundg (l0_2.length - (j + 1))
                          case measure => have := HJ.out; omega
                          case rel => exact ⟨j + 1, by first | rfl | (rw [hw3]), ⟨by have := HJ.out; omega⟩, HNX⟩



            · obtain rfl : j = l0_2.length := by omega
              have hd : decide ((l0_2.length : Int) < (l0_2.length : Int)) = false := decide_eq_false (by omega); go_wp2
              first | refine bodyPost_end (results_none rfl _ _ _) rfl ?_ | refine bodyPost_ret (results_none rfl _ _ _) rfl ?_
              exact ⟨rfl, HS.out.hb, HS.out.kept⟩



end spoil

end Go.Proofs.Ytkmnachdibhdhaa.U
