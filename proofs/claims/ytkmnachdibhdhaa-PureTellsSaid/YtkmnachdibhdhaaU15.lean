/- Contracts of the functions of this seat (each: the call of the function does what the plain Lean function of the same name tells; the conditions stand in each statement). Written by a program of this session and by hand; checked by Lean. -/
import Derived.Test.YtkmnachdibhdhaaU0
import Derived.Test.YtkmnachdibhdhaaU8
import Derived.Test.YtkmnachdibhdhaaU9
import Derived.Test.YtkmnachdibhdhaaU10
namespace Go.Proofs.Ytkmnachdibhdhaa.U
open Go.RowKit Go.Proofs.YtkmnachdibhdhaaW.PrintWords Go.Proofs.YtkmnachdibhdhaaW.PrintLast Go.Proofs.YtkmnachdibhdhaaW.PrintMore
attribute [local go_sem] max2_int min2_int max_two min_two max_three min_three max_four min_four   -- for this text's walks alone
set_option linter.unusedVariables false
set_option linter.unusedSimpArgs false

-- NOT PRINTED: function 68 (slices_IndexFunc_int_int)

-- NOT PRINTED: function 50 (slices_ContainsFunc_int_int)

/-! ### pure_Check: function 21 -/
section pureck
set_option maxRecDepth 100000
/-! What pure.Check tells. -/
def pcSt (k : Nat) (ms : List S52) (i : Int) : Option Bool := pure_stores.f k (rd_T52 ms i).f0 (rd_T52 ms i).f1 (rd_T52 ms i).f2 (rd_T52 ms i).f3 (rd_T52 ms i).f4 (rd_T52 ms i).f5 (rd_T52 ms i).f6 (rd_T52 ms i).f7
def pcLoud (ms : List S52) (n : Int) : Bool := !(rd_T52 ms n).f3
def pcIn (n : Nat) (l : List Int) : Bool := l.all fun x => decide (0 ≤ x) && decide (x < (n : Int))
def pcRow (st : Int → Option Bool) (whom : List (List Int)) (ms : List S52) : Nat → Int → Option Int
  | 0, _ => none
  | d + 1, i => if i < (ms.length : Int) then (if (rd_T52 ms i).f3 = true then ((st i).bind fun s => if s = true then some 130 else (if pcIn ms.length (whom.getD i.toNat []) = true then (if (whom.getD i.toNat []).any (pcLoud ms) = true then some 130 else pcRow st whom ms d (wrap64 (i + 1))) else none)) else pcRow st whom ms d (wrap64 (i + 1))) else some 0
def pure_Check.f (k : Nat) (l0_0 l0_1 : List S86) (l0_2 : List S52) (a0_3 : Int) : Option Int := (pure_whom.f k l0_0 l0_1 l0_2 a0_3).bind fun p => if p.2 = 0 then (if p.1.length = l0_2.length ∧ l0_2.length ≤ 10000 ∧ p.1.all (fun l => decide (l.length ≤ 1000000)) = true then pcRow (pcSt k l0_2) p.1 l0_2 (l0_2.length + 1) 0 else none) else some p.2
theorem pcRow_mono {st st' : Int → Option Bool} (h : ∀ i, LeO (st i) (st' i)) (whom : List (List Int)) (ms : List S52) : ∀ d i, LeO (pcRow st whom ms d i) (pcRow st' whom ms d i) := by
  intro d
  induction d with
  | zero => exact fun _ => LeO.refl _
  | succ d ih =>
    intro i
    unfold pcRow
    split
    · split
      · refine LeO.bind (h i) fun s => ?_
        split
        · exact LeO.refl _
        · split
          · split
            · exact LeO.refl _
            · exact ih _
          · exact LeO.refl _
      · exact ih _
    · exact LeO.refl _
theorem pure_Check.mono : ∀ a0 a1 a2 a3 k, LeO (pure_Check.f k a0 a1 a2 a3) (pure_Check.f (k + 1) a0 a1 a2 a3) := by
  intro a0 a1 a2 a3 k
  unfold pure_Check.f
  refine LeO.bind (pure_whom.mono _ _ _ _ _) fun p => ?_
  split
  · split
    · exact pcRow_mono (fun i => pure_stores.mono _ _ _ _ _ _ _ _ _) _ _ _ _
    · exact LeO.refl _
  · exact LeO.refl _
set_option maxHeartbeats 8000000 in
theorem pc_loud (W : World) (mb : Nat) (v0 v1 v3 : Value) (A2 : Option Addr) (c2 : Nat) (ms : List S52) (hm : W.heap[mb]? = some (.cells #[v0, v1, .slice A2 ms.length c2, v3] 25 (0, 0))) (hC : Kd.C k52 W A2 ms.length ms) (n : Int) (h0 : 0 ≤ n) (h1 : n < (ms.length : Int)) :
    Calls Try.prog 49 #[.int .i64 n, .pointer (some ⟨mb, 0, none⟩)] W fun e w' => e = .returned (.bool (pcLoud ms n)) ∧ w' = W := by
  obtain ⟨adm, A0', c0', A1', c1', A7', c7', em, hx0, hx1, hx2, hx3, hx4, hx5, hx6, hx7, hl0, hi0, hl1, hi1, hl7, hi7⟩ := at_T52 hC n h0 h1; cases em; have hm2 : W.cell? ⟨mb, 2, none⟩ = some (.slice (some adm) ms.length c2) := blk_cell hm 2; clear hx0 hx1 hx2 hx4 hx5 hx6 hx7 hl0 hi0 hl1 hi1 hl7 hi7 hm; replace h0 := eq_true h0; replace h1 := eq_true h1
  go_enter Try.func49, Try.ntmps49
  go_wp2; go_ret; exact ⟨rfl, rfl⟩
set_option maxHeartbeats 8000000 in
theorem pc_index (W : World) (A : Option Addr) (c : Nat) (xs : List Int) (mb : Nat) (g : Int → Bool) (hC : Kd.C (Kd.int .i64) W A xs.length xs) (hl : xs.length ≤ 1000000)
    (hg : ∀ x ∈ xs, Calls Try.prog 49 #[.int .i64 x, .pointer (some ⟨mb, 0, none⟩)] W fun e w' => e = .returned (.bool (g x)) ∧ w' = W) :
    Calls Try.prog 68 #[.slice A xs.length c, .func (.func 49) #[] #[.pointer (some ⟨mb, 0, none⟩)]] W fun e w' => ∃ r : Int, e = .returned (.int .i64 r) ∧ decide (0 ≤ r) = xs.any g ∧ w' = W := by
  have HC := Aside0.mk hC; have HG := Aside0.mk hg; clear hC hg
  go_enter Try.func68, Try.ntmps68
  go_wp2
  go_loopg [8] xs.length (fun kq v8 w' => ∃ i : Nat, v8 = .int .i64 (i : Int) ∧ Aside0 (kq + i = xs.length) ∧ Aside0 ((xs.drop i).any g = xs.any g) ∧ Aside0 (w' = W))
  case atStart => exact ⟨0, rfl, ⟨by omega⟩, ⟨by simp⟩, ⟨rfl⟩⟩
  case round =>
    obtain ⟨i, rfl, HI, HA, HW⟩ := hrel; have hI := HI.out; obtain rfl := HW.out; clear HW; have hw : IntKind.i64.wrap ((i : Int) + 1) = ((i + 1 : Nat) : Int) := (i64_w _).trans (by unfold wrap64; omega)
    by_cases hlt : i < xs.length
    · obtain ⟨ad, e1, hx⟩ := pp_at_ints HC.out i hlt hlt
      cases e1; have hmem : xs[i] ∈ xs := List.getElem_mem hlt
      have hdrop : (xs.drop i).any g = (g xs[i] || (xs.drop (i + 1)).any g) := by rw [List.drop_eq_getElem_cons hlt, List.any_cons]
      have hcall := Aside0.mk (HG.out _ hmem); clear hmem
      generalize xs[i] = y at *
      have hd : decide ((i : Int) < (xs.length : Int)) = true := decide_eq_true (by omega); have p0 : (0 ≤ (i : Int)) = True := eq_true (by omega); have q0 : ((i : Int) < (xs.length : Int)) = True := eq_true (by omega)
      cases hgy : g y with
      | true =>
        rw [hgy] at hcall
        go_wp2_with (first | (go_at_call 49; (refine (hcall.out).mono ?_); rintro e w9 ⟨rfl, rfl⟩))
        go_ret; refine ⟨_, rfl, ?_, rfl⟩; rw [← HA.out, hdrop, hgy, Bool.true_or]; exact decide_eq_true (by omega)
      | false =>
        rw [hgy] at hcall
        go_wp2_with (first | (go_at_call 49; (refine (hcall.out).mono ?_); rintro e w9 ⟨rfl, rfl⟩))
        go_roundg (gk - 1)
        case measure => omega
        case rel => exact ⟨i + 1, by first | rfl | (simp; done) | (rw [hw]), ⟨by omega⟩, ⟨by rw [← HA.out, hdrop, hgy, Bool.false_or]⟩, ⟨rfl⟩⟩
    · obtain rfl : i = xs.length := by omega
      have hd : decide ((xs.length : Int) < (xs.length : Int)) = false := decide_eq_false (by omega); go_wp2; go_ret; refine ⟨_, rfl, ?_, rfl⟩; rw [← HA.out, List.drop_length]; rfl
set_option maxHeartbeats 8000000 in
theorem pc_contains (W : World) (A : Option Addr) (c : Nat) (xs : List Int) (mb : Nat) (g : Int → Bool) (hC : Kd.C (Kd.int .i64) W A xs.length xs) (hl : xs.length ≤ 1000000)
    (hg : ∀ x ∈ xs, Calls Try.prog 49 #[.int .i64 x, .pointer (some ⟨mb, 0, none⟩)] W fun e w' => e = .returned (.bool (g x)) ∧ w' = W) :
    Calls Try.prog 50 #[.slice A xs.length c, .func (.func 49) #[] #[.pointer (some ⟨mb, 0, none⟩)]] W fun e w' => e = .returned (.bool (xs.any g)) ∧ w' = W := by
  have HI := Aside0.mk (pc_index W A c xs mb g hC hl hg); clear hC hg
  go_enter Try.func50, Try.ntmps50
  go_wp2_with (first | (go_at_call 68; (refine (HI.out).mono ?_); rintro e w9 ⟨r, rfl, hr, rfl⟩))
  go_ret; exact ⟨by rw [← hr]; rfl, rfl⟩
set_option maxHeartbeats 8000000 in
theorem pure_Check.calls (k : Nat) (A0_0 : Option Addr) (c0_0 : Nat) (l0_0 : List (S86)) (A0_1 : Option Addr) (c0_1 : Nat) (l0_1 : List (S86)) (A0_2 : Option Addr) (c0_2 : Nat) (l0_2 : List (S52)) (a0_3 : Int) (r : Int) (w : World) (hr0_0 : Kd.C k86 w A0_0 l0_0.length l0_0) (hc0_0 : l0_0.length ≤ c0_0) (hr0_1 : Kd.C k86 w A0_1 l0_1.length l0_1) (hc0_1 : l0_1.length ≤ c0_1) (hr0_2 : Kd.C k52 w A0_2 l0_2.length l0_2) (hc0_2 : l0_2.length ≤ c0_2) (h : pure_Check.f k l0_0 l0_1 l0_2 a0_3 = some r) :
    Calls Try.prog 21 #[.agg #[.slice A0_0 l0_0.length c0_0, .slice A0_1 l0_1.length c0_1, .slice A0_2 l0_2.length c0_2, .int .i64 a0_3]] w fun e w' => e = .returned (.int .i64 r) ∧ Below w.heap.size w w' := by
  have HR0 := Aside0.mk hr0_0; have HR1 := Aside0.mk hr0_1; have HR2 := Aside0.mk hr0_2; have HC0 := Aside0.mk hc0_0; have HC1 := Aside0.mk hc0_1; have HC2 := Aside0.mk hc0_2; clear hr0_0 hr0_1 hr0_2 hc0_0 hc0_1 hc0_2
  unfold pure_Check.f at h
  obtain ⟨⟨whom, e0⟩, hall, h⟩ := Option.bind_eq_some_iff.mp h; have HA := Aside0.mk hall; clear hall
  dsimp only at h
  by_cases he : e0 = 0
  · subst he
    rw [if_pos rfl] at h
    by_cases hb : whom.length = l0_2.length ∧ l0_2.length ≤ 10000 ∧ whom.all (fun l => decide (l.length ≤ 1000000)) = true
    case neg => rw [if_neg hb] at h; cases h
    rw [if_pos hb] at h
    obtain ⟨hb1, hb3, hb2⟩ := hb; have HB1 := Aside0.mk hb1; have HB2 := Aside0.mk hb2; have HP := Aside0.mk h; clear h hb1 hb2
    go_enter Try.func21, Try.ntmps21
    go_wp2_with (first | (go_at_call 43; (refine (pure_whom.calls k A0_0 c0_0 l0_0 A0_1 c0_1 l0_1 A0_2 c0_2 l0_2 a0_3 whom 0 _ (Kd.C_alloc HR0.out _) HC0.out (Kd.C_alloc HR1.out _) HC1.out (Kd.C_alloc HR2.out _) HC2.out HA.out).mono ?_); rintro e w1 ⟨v1, rfl, hS1, hb1'⟩; have S1 := Aside0.mk hS1; have BKm := Aside0.mk ((hb1'.block w.heap.size (by simp)).trans (blk_new _ _) : w1.heap[w.heap.size]? = some (.cells #[.slice A0_0 l0_0.length c0_0, .slice A0_1 l0_1.length c0_1, .slice A0_2 l0_2.length c0_2, .int .i64 a0_3] 25 (0, 0))); have hm2 : w1.cell? ⟨w.heap.size, 2, none⟩ = some (.slice A0_2 l0_2.length c0_2) := blk_cell BKm.out 2; have B1 := Aside0.mk (((Below.refl w.heap.size w).alloc (Nat.le_refl _) (.cells #[.slice A0_0 l0_0.length c0_0, .slice A0_1 l0_1.length c0_1, .slice A0_2 l0_2.length c0_2, .int .i64 a0_3] 25)).trans (hb1'.mono (by simp))); obtain ⟨Aw, cw, rfl⟩ := Kd.R_slice (Kd.S_R hS1); clear hS1 hb1'))
    go_loopg [19] l0_2.length (fun kq v19 w' => ∃ i : Nat, v19 = .int .i64 (i : Int) ∧ Aside0 (kq + i = l0_2.length) ∧ Aside0 (pcRow (pcSt k l0_2) whom l0_2 (kq + 1) (i : Int) = some r) ∧ Aside0 (Below w1.heap.size w1 w'))
    case atStart => exact ⟨0, rfl, ⟨by omega⟩, ⟨HP.out⟩, ⟨Below.refl _ _⟩⟩
    case round =>
      clear HP hm2; obtain ⟨i, rfl, HI, HP, HW⟩ := hrel; have hI := HI.out; clear HI; have hw : IntKind.i64.wrap ((i : Int) + 1) = ((i + 1 : Nat) : Int) := (i64_w _).trans (by unfold wrap64; omega)
      have hw2 : wrap64 ((i : Int) + 1) = ((i + 1 : Nat) : Int) := by unfold wrap64; omega
      have hp := HP.out; clear HP
      by_cases hlt : i < l0_2.length
      · rw [pcRow, if_pos (by omega), hw2] at hp
        have p0 : 0 ≤ (i : Int) := by omega
        have q0 : (i : Int) < (l0_2.length : Int) := by omega
        have BW := Aside0.mk (B1.out.trans (HW.out.mono B1.out.size)); have HM := Aside0.mk (blk_below BKm.out HW.out); obtain ⟨adm, A0', c0', A1', c1', A7', c7', em, hx0, hx1, hx2, hx3, hx4, hx5, hx6, hx7, hl0, hi0, hl1, hi1, hl7, hi7⟩ := at_T52 HR2.out (i : Int) p0 q0; cases em; replace hx0 := (BW.out.cell (World.block_lt_of_cell? w _ hx0)).trans hx0; replace hx1 := (BW.out.cell (World.block_lt_of_cell? w _ hx1)).trans hx1; replace hx2 := (BW.out.cell (World.block_lt_of_cell? w _ hx2)).trans hx2; replace hx3 := (BW.out.cell (World.block_lt_of_cell? w _ hx3)).trans hx3; replace hx4 := (BW.out.cell (World.block_lt_of_cell? w _ hx4)).trans hx4; replace hx5 := (BW.out.cell (World.block_lt_of_cell? w _ hx5)).trans hx5; replace hx6 := (BW.out.cell (World.block_lt_of_cell? w _ hx6)).trans hx6; replace hx7 := (BW.out.cell (World.block_lt_of_cell? w _ hx7)).trans hx7; simp only [Int.toNat_natCast] at hx0 hx1 hx2 hx3 hx4 hx5 hx6 hx7; have HI0 := Aside0.mk hi0; have HI1 := Aside0.mk hi1; have HI7 := Aside0.mk hi7; clear hi0 hi1 hi7; have hd : decide ((i : Int) < (l0_2.length : Int)) = true := decide_eq_true q0; replace p0 := eq_true p0; replace q0 := eq_true q0
        cases hf3 : (rd_T52 l0_2 (i : Int)).f3 with
        | false =>
          rw [hf3, if_neg (by decide)] at hp; rw [hf3] at hx3; have HP2 := Aside0.mk hp; clear hp
          go_wp2_with (first | ((with_reducible refine gate_dst (N := 6) rfl ?_); refine box_event ?hg (N := 6) ?hd (cs := #[.slice none 0 0, .slice none 0 0, .int .u8 0, .bool false, .int .i64 0, .int .i64 0, .int .i64 0, .slice none 0 0]) (t := 52) ?hr ?_; (case hd => rfl); (case hg => rfl); (case hr => first | (go_simp; done) | (go_simp; rfl)); intro gb hgb w21 hbox hbx; have hgl : wr.heap.size ≤ gb := Nat.le_of_eq hgb.symm; clear hgb; have hcz0 : w21.cell? ⟨gb, 0, none⟩ = some (.slice none 0 0) := (blk_cell hbox 0).trans rfl; have hfz0 := blk_frozen hbox 0; have hcz1 : w21.cell? ⟨gb, 1, none⟩ = some (.slice none 0 0) := (blk_cell hbox 1).trans rfl; have hfz1 := blk_frozen hbox 1; have hcz2 : w21.cell? ⟨gb, 2, none⟩ = some (.int .u8 0) := (blk_cell hbox 2).trans rfl; have hfz2 := blk_frozen hbox 2; have hcz3 : w21.cell? ⟨gb, 3, none⟩ = some (.bool false) := (blk_cell hbox 3).trans rfl; have hfz3 := blk_frozen hbox 3; have hcz4 : w21.cell? ⟨gb, 4, none⟩ = some (.int .i64 0) := (blk_cell hbox 4).trans rfl; have hfz4 := blk_frozen hbox 4; have hcz5 : w21.cell? ⟨gb, 5, none⟩ = some (.int .i64 0) := (blk_cell hbox 5).trans rfl; have hfz5 := blk_frozen hbox 5; have hcz6 : w21.cell? ⟨gb, 6, none⟩ = some (.int .i64 0) := (blk_cell hbox 6).trans rfl; have hfz6 := blk_frozen hbox 6; have hcz7 : w21.cell? ⟨gb, 7, none⟩ = some (.slice none 0 0) := (blk_cell hbox 7).trans rfl; have hfz7 := blk_frozen hbox 7; have HSET := Aside0.mk (fun (z0 z1 z2 z3 z4 z5 z6 z7 : Value) => ((((((((hbx.setCell (p := ⟨gb, 0, none⟩) hgl z0).setCell (p := ⟨gb, 1, none⟩) hgl z1).setCell (p := ⟨gb, 2, none⟩) hgl z2).setCell (p := ⟨gb, 3, none⟩) hgl z3).setCell (p := ⟨gb, 4, none⟩) hgl z4).setCell (p := ⟨gb, 5, none⟩) hgl z5).setCell (p := ⟨gb, 6, none⟩) hgl z6).setCell (p := ⟨gb, 7, none⟩) hgl z7)); clear hbx hbox))
          go_roundg (gk - 1)
          case measure => omega
          case rel => exact ⟨i + 1, by first | rfl | (simp; done) | (rw [hw]), ⟨by omega⟩, ⟨by rw [show gk - 1 + 1 = gk by omega]; exact HP2.out⟩, ⟨HW.out.trans ((HSET.out _ _ _ _ _ _ _ _).mono HW.out.size)⟩⟩
        | true =>
          rw [hf3, if_pos rfl] at hp; rw [hf3] at hx3; obtain ⟨s, hs, hp⟩ := Option.bind_eq_some_iff.mp hp
          unfold pcSt at hs
          rw [hf3] at hs; have HS := Aside0.mk hs; clear hs
          cases s with
          | true =>
            rw [if_pos rfl] at hp; obtain rfl := Option.some.inj hp
            go_wp2_with (first | ((with_reducible refine gate_dst (N := 6) rfl ?_); refine box_event ?hg (N := 6) ?hd (cs := #[.slice none 0 0, .slice none 0 0, .int .u8 0, .bool false, .int .i64 0, .int .i64 0, .int .i64 0, .slice none 0 0]) (t := 52) ?hr ?_; (case hd => rfl); (case hg => rfl); (case hr => first | (go_simp; done) | (go_simp; rfl)); intro gb hgb w21 hbox hbx; have hgl : wr.heap.size ≤ gb := Nat.le_of_eq hgb.symm; clear hgb; have hcz0 : w21.cell? ⟨gb, 0, none⟩ = some (.slice none 0 0) := (blk_cell hbox 0).trans rfl; have hfz0 := blk_frozen hbox 0; have hcz1 : w21.cell? ⟨gb, 1, none⟩ = some (.slice none 0 0) := (blk_cell hbox 1).trans rfl; have hfz1 := blk_frozen hbox 1; have hcz2 : w21.cell? ⟨gb, 2, none⟩ = some (.int .u8 0) := (blk_cell hbox 2).trans rfl; have hfz2 := blk_frozen hbox 2; have hcz3 : w21.cell? ⟨gb, 3, none⟩ = some (.bool false) := (blk_cell hbox 3).trans rfl; have hfz3 := blk_frozen hbox 3; have hcz4 : w21.cell? ⟨gb, 4, none⟩ = some (.int .i64 0) := (blk_cell hbox 4).trans rfl; have hfz4 := blk_frozen hbox 4; have hcz5 : w21.cell? ⟨gb, 5, none⟩ = some (.int .i64 0) := (blk_cell hbox 5).trans rfl; have hfz5 := blk_frozen hbox 5; have hcz6 : w21.cell? ⟨gb, 6, none⟩ = some (.int .i64 0) := (blk_cell hbox 6).trans rfl; have hfz6 := blk_frozen hbox 6; have hcz7 : w21.cell? ⟨gb, 7, none⟩ = some (.slice none 0 0) := (blk_cell hbox 7).trans rfl; have hfz7 := blk_frozen hbox 7; have HSET := Aside0.mk (fun (z0 z1 z2 z3 z4 z5 z6 z7 : Value) => ((((((((hbx.setCell (p := ⟨gb, 0, none⟩) hgl z0).setCell (p := ⟨gb, 1, none⟩) hgl z1).setCell (p := ⟨gb, 2, none⟩) hgl z2).setCell (p := ⟨gb, 3, none⟩) hgl z3).setCell (p := ⟨gb, 4, none⟩) hgl z4).setCell (p := ⟨gb, 5, none⟩) hgl z5).setCell (p := ⟨gb, 6, none⟩) hgl z6).setCell (p := ⟨gb, 7, none⟩) hgl z7)); clear hbx hbox) | (go_at_call 42; (refine (pure_stores.calls k A0' c0' (rd_T52 l0_2 (i : Int)).f0 A1' c1' (rd_T52 l0_2 (i : Int)).f1 (rd_T52 l0_2 (i : Int)).f2 true (rd_T52 l0_2 (i : Int)).f4 (rd_T52 l0_2 (i : Int)).f5 (rd_T52 l0_2 (i : Int)).f6 A7' c7' (rd_T52 l0_2 (i : Int)).f7 true _ (Kd.C_below HI0.out (BW.out.trans ((HSET.out _ _ _ _ _ _ _ _).mono BW.out.size))) hl0 (Kd.C_below HI1.out (BW.out.trans ((HSET.out _ _ _ _ _ _ _ _).mono BW.out.size))) hl1 (Kd.C_below HI7.out (BW.out.trans ((HSET.out _ _ _ _ _ _ _ _).mono BW.out.size))) hl7 HS.out).mono ?_); rintro e w24 ⟨rfl, hb24⟩; have B9 := Aside0.mk ((HSET.out _ _ _ _ _ _ _ _).trans (hb24.mono (HSET.out _ _ _ _ _ _ _ _).size)); clear hb24))
            go_ret; exact ⟨rfl, BW.out.trans (B9.out.mono BW.out.size)⟩
          | false =>
            rw [if_neg (by decide), Int.toNat_natCast] at hp
            have hwl : (whom.getD i []).length ≤ 1000000 := by
              have := List.all_eq_true.1 HB2.out (whom.getD i []) (by rw [List.getD_eq_getElem?_getD, List.getElem?_eq_getElem (by have := HB1.out; omega)]; exact List.getElem_mem _)
              simpa using this
            by_cases hin : pcIn l0_2.length (whom.getD i []) = true
            case neg => rw [if_neg hin] at hp; cases hp
            rw [if_pos hin] at hp; have HIN : Aside0 (∀ x ∈ whom.getD i [], 0 ≤ x ∧ x < (l0_2.length : Int)) := ⟨fun x hx => by simpa using List.all_eq_true.1 hin x hx⟩; clear hin; obtain ⟨A1w, c1w, e1, hl1w, hC1⟩ := Kd.R_reads (Kd.S_R S1.out); cases e1; obtain ⟨adx, Ai, ci, hAd, px, hci, hCi⟩ := pp_at_rows (Kd.C_below hC1 HW.out) (i : Int) (by omega) (by have := HB1.out; omega); subst hAd; simp only [Int.toNat_natCast] at px hci hCi; have HCI := Aside0.mk hCi; clear hCi hC1; have r0 : ((i : Int) < (whom.length : Int)) = True := eq_true (by have := HB1.out; omega)
            generalize whom.getD i [] = lx at *
            cases hany : lx.any (pcLoud l0_2) with
            | true =>
              rw [hany, if_pos rfl] at hp; obtain rfl := Option.some.inj hp
              go_wp2_with (first | ((with_reducible refine gate_dst (N := 6) rfl ?_); refine box_event ?hg (N := 6) ?hd (cs := #[.slice none 0 0, .slice none 0 0, .int .u8 0, .bool false, .int .i64 0, .int .i64 0, .int .i64 0, .slice none 0 0]) (t := 52) ?hr ?_; (case hd => rfl); (case hg => rfl); (case hr => first | (go_simp; done) | (go_simp; rfl)); intro gb hgb w21 hbox hbx; have hgl : wr.heap.size ≤ gb := Nat.le_of_eq hgb.symm; clear hgb; have hcz0 : w21.cell? ⟨gb, 0, none⟩ = some (.slice none 0 0) := (blk_cell hbox 0).trans rfl; have hfz0 := blk_frozen hbox 0; have hcz1 : w21.cell? ⟨gb, 1, none⟩ = some (.slice none 0 0) := (blk_cell hbox 1).trans rfl; have hfz1 := blk_frozen hbox 1; have hcz2 : w21.cell? ⟨gb, 2, none⟩ = some (.int .u8 0) := (blk_cell hbox 2).trans rfl; have hfz2 := blk_frozen hbox 2; have hcz3 : w21.cell? ⟨gb, 3, none⟩ = some (.bool false) := (blk_cell hbox 3).trans rfl; have hfz3 := blk_frozen hbox 3; have hcz4 : w21.cell? ⟨gb, 4, none⟩ = some (.int .i64 0) := (blk_cell hbox 4).trans rfl; have hfz4 := blk_frozen hbox 4; have hcz5 : w21.cell? ⟨gb, 5, none⟩ = some (.int .i64 0) := (blk_cell hbox 5).trans rfl; have hfz5 := blk_frozen hbox 5; have hcz6 : w21.cell? ⟨gb, 6, none⟩ = some (.int .i64 0) := (blk_cell hbox 6).trans rfl; have hfz6 := blk_frozen hbox 6; have hcz7 : w21.cell? ⟨gb, 7, none⟩ = some (.slice none 0 0) := (blk_cell hbox 7).trans rfl; have hfz7 := blk_frozen hbox 7; have HSET := Aside0.mk (fun (z0 z1 z2 z3 z4 z5 z6 z7 : Value) => ((((((((hbx.setCell (p := ⟨gb, 0, none⟩) hgl z0).setCell (p := ⟨gb, 1, none⟩) hgl z1).setCell (p := ⟨gb, 2, none⟩) hgl z2).setCell (p := ⟨gb, 3, none⟩) hgl z3).setCell (p := ⟨gb, 4, none⟩) hgl z4).setCell (p := ⟨gb, 5, none⟩) hgl z5).setCell (p := ⟨gb, 6, none⟩) hgl z6).setCell (p := ⟨gb, 7, none⟩) hgl z7)); clear hbx hbox) | (go_at_call 42; (refine (pure_stores.calls k A0' c0' (rd_T52 l0_2 (i : Int)).f0 A1' c1' (rd_T52 l0_2 (i : Int)).f1 (rd_T52 l0_2 (i : Int)).f2 true (rd_T52 l0_2 (i : Int)).f4 (rd_T52 l0_2 (i : Int)).f5 (rd_T52 l0_2 (i : Int)).f6 A7' c7' (rd_T52 l0_2 (i : Int)).f7 false _ (Kd.C_below HI0.out (BW.out.trans ((HSET.out _ _ _ _ _ _ _ _).mono BW.out.size))) hl0 (Kd.C_below HI1.out (BW.out.trans ((HSET.out _ _ _ _ _ _ _ _).mono BW.out.size))) hl1 (Kd.C_below HI7.out (BW.out.trans ((HSET.out _ _ _ _ _ _ _ _).mono BW.out.size))) hl7 HS.out).mono ?_); rintro e w24 ⟨rfl, hb24⟩; have B9 := Aside0.mk ((HSET.out _ _ _ _ _ _ _ _).trans (hb24.mono (HSET.out _ _ _ _ _ _ _ _).size)); clear hb24; replace px := (B9.out.cell (World.block_lt_of_cell? wr _ px)).trans px) | (go_at_call 50; (refine (pc_contains _ Ai ci lx w.heap.size (pcLoud l0_2) (Kd.C_below HCI.out B9.out) hwl (fun x hx => pc_loud _ w.heap.size _ _ _ _ c0_2 l0_2 (blk_below HM.out B9.out) (Kd.C_below HR2.out (BW.out.trans (B9.out.mono BW.out.size))) x (HIN.out x hx).1 (HIN.out x hx).2)).mono ?_); rintro e w25 ⟨rfl, rfl⟩; rw [hany]))
              go_ret; exact ⟨rfl, BW.out.trans (B9.out.mono BW.out.size)⟩
            | false =>
              rw [hany, if_neg (by decide)] at hp; have HP2 := Aside0.mk hp; clear hp
              go_wp2_with (first | ((with_reducible refine gate_dst (N := 6) rfl ?_); refine box_event ?hg (N := 6) ?hd (cs := #[.slice none 0 0, .slice none 0 0, .int .u8 0, .bool false, .int .i64 0, .int .i64 0, .int .i64 0, .slice none 0 0]) (t := 52) ?hr ?_; (case hd => rfl); (case hg => rfl); (case hr => first | (go_simp; done) | (go_simp; rfl)); intro gb hgb w21 hbox hbx; have hgl : wr.heap.size ≤ gb := Nat.le_of_eq hgb.symm; clear hgb; have hcz0 : w21.cell? ⟨gb, 0, none⟩ = some (.slice none 0 0) := (blk_cell hbox 0).trans rfl; have hfz0 := blk_frozen hbox 0; have hcz1 : w21.cell? ⟨gb, 1, none⟩ = some (.slice none 0 0) := (blk_cell hbox 1).trans rfl; have hfz1 := blk_frozen hbox 1; have hcz2 : w21.cell? ⟨gb, 2, none⟩ = some (.int .u8 0) := (blk_cell hbox 2).trans rfl; have hfz2 := blk_frozen hbox 2; have hcz3 : w21.cell? ⟨gb, 3, none⟩ = some (.bool false) := (blk_cell hbox 3).trans rfl; have hfz3 := blk_frozen hbox 3; have hcz4 : w21.cell? ⟨gb, 4, none⟩ = some (.int .i64 0) := (blk_cell hbox 4).trans rfl; have hfz4 := blk_frozen hbox 4; have hcz5 : w21.cell? ⟨gb, 5, none⟩ = some (.int .i64 0) := (blk_cell hbox 5).trans rfl; have hfz5 := blk_frozen hbox 5; have hcz6 : w21.cell? ⟨gb, 6, none⟩ = some (.int .i64 0) := (blk_cell hbox 6).trans rfl; have hfz6 := blk_frozen hbox 6; have hcz7 : w21.cell? ⟨gb, 7, none⟩ = some (.slice none 0 0) := (blk_cell hbox 7).trans rfl; have hfz7 := blk_frozen hbox 7; have HSET := Aside0.mk (fun (z0 z1 z2 z3 z4 z5 z6 z7 : Value) => ((((((((hbx.setCell (p := ⟨gb, 0, none⟩) hgl z0).setCell (p := ⟨gb, 1, none⟩) hgl z1).setCell (p := ⟨gb, 2, none⟩) hgl z2).setCell (p := ⟨gb, 3, none⟩) hgl z3).setCell (p := ⟨gb, 4, none⟩) hgl z4).setCell (p := ⟨gb, 5, none⟩) hgl z5).setCell (p := ⟨gb, 6, none⟩) hgl z6).setCell (p := ⟨gb, 7, none⟩) hgl z7)); clear hbx hbox) | (go_at_call 42; (refine (pure_stores.calls k A0' c0' (rd_T52 l0_2 (i : Int)).f0 A1' c1' (rd_T52 l0_2 (i : Int)).f1 (rd_T52 l0_2 (i : Int)).f2 true (rd_T52 l0_2 (i : Int)).f4 (rd_T52 l0_2 (i : Int)).f5 (rd_T52 l0_2 (i : Int)).f6 A7' c7' (rd_T52 l0_2 (i : Int)).f7 false _ (Kd.C_below HI0.out (BW.out.trans ((HSET.out _ _ _ _ _ _ _ _).mono BW.out.size))) hl0 (Kd.C_below HI1.out (BW.out.trans ((HSET.out _ _ _ _ _ _ _ _).mono BW.out.size))) hl1 (Kd.C_below HI7.out (BW.out.trans ((HSET.out _ _ _ _ _ _ _ _).mono BW.out.size))) hl7 HS.out).mono ?_); rintro e w24 ⟨rfl, hb24⟩; have B9 := Aside0.mk ((HSET.out _ _ _ _ _ _ _ _).trans (hb24.mono (HSET.out _ _ _ _ _ _ _ _).size)); clear hb24; replace px := (B9.out.cell (World.block_lt_of_cell? wr _ px)).trans px) | (go_at_call 50; (refine (pc_contains _ Ai ci lx w.heap.size (pcLoud l0_2) (Kd.C_below HCI.out B9.out) hwl (fun x hx => pc_loud _ w.heap.size _ _ _ _ c0_2 l0_2 (blk_below HM.out B9.out) (Kd.C_below HR2.out (BW.out.trans (B9.out.mono BW.out.size))) x (HIN.out x hx).1 (HIN.out x hx).2)).mono ?_); rintro e w25 ⟨rfl, rfl⟩; rw [hany]))
              go_roundg (gk - 1)
              case measure => omega
              case rel => exact ⟨i + 1, by first | rfl | (simp; done) | (rw [hw]), ⟨by omega⟩, ⟨by rw [show gk - 1 + 1 = gk by omega]; exact HP2.out⟩, ⟨HW.out.trans (B9.out.mono HW.out.size)⟩⟩
      · obtain rfl : i = l0_2.length := by omega
        rw [pcRow, if_neg (by omega)] at hp; obtain rfl := Option.some.inj hp; have hd : decide ((l0_2.length : Int) < (l0_2.length : Int)) = false := decide_eq_false (by omega); go_wp2; go_ret; exact ⟨rfl, B1.out.trans (HW.out.mono B1.out.size)⟩
  · rw [if_neg he] at h
    obtain rfl := Option.some.inj h
    have hne : (e0 != 0) = true := by rw [bne_iff_ne]; exact he
    go_enter Try.func21, Try.ntmps21
    go_wp2_with (first | (go_at_call 43; (refine (pure_whom.calls k A0_0 c0_0 l0_0 A0_1 c0_1 l0_1 A0_2 c0_2 l0_2 a0_3 whom e0 _ (Kd.C_alloc HR0.out _) HC0.out (Kd.C_alloc HR1.out _) HC1.out (Kd.C_alloc HR2.out _) HC2.out HA.out).mono ?_); rintro e w1 ⟨v1, rfl, hS1, hb1'⟩; have S1 := Aside0.mk hS1; have BKm := Aside0.mk ((hb1'.block w.heap.size (by simp)).trans (blk_new _ _) : w1.heap[w.heap.size]? = some (.cells #[.slice A0_0 l0_0.length c0_0, .slice A0_1 l0_1.length c0_1, .slice A0_2 l0_2.length c0_2, .int .i64 a0_3] 25 (0, 0))); have hm2 : w1.cell? ⟨w.heap.size, 2, none⟩ = some (.slice A0_2 l0_2.length c0_2) := blk_cell BKm.out 2; have B1 := Aside0.mk (((Below.refl w.heap.size w).alloc (Nat.le_refl _) (.cells #[.slice A0_0 l0_0.length c0_0, .slice A0_1 l0_1.length c0_1, .slice A0_2 l0_2.length c0_2, .int .i64 a0_3] 25)).trans (hb1'.mono (by simp))); obtain ⟨Aw, cw, rfl⟩ := Kd.R_slice (Kd.S_R hS1); clear hS1 hb1'))
    go_ret; exact ⟨rfl, B1.out⟩
end pureck

end Go.Proofs.Ytkmnachdibhdhaa.U
