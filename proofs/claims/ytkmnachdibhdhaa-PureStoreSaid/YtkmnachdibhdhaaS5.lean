/- Contracts of the functions of this seat (each: the call of the function does what the plain Lean function of the same name tells; the conditions stand in each statement). Written by a program of this session and by hand; checked by Lean. -/
import Derived.Test.YtkmnachdibhdhaaS0
import Derived.Test.YtkmnachdibhdhaaS3
import Derived.Test.YtkmnachdibhdhaaS4
namespace Go.Proofs.Ytkmnachdibhdhaa.S
open Go.RowKit Go.Proofs.YtkmnachdibhdhaaW.PrintWords Go.Proofs.YtkmnachdibhdhaaW.PrintLast Go.Proofs.YtkmnachdibhdhaaW.PrintMore
attribute [local go_sem] max2_int min2_int max_two min_two max_three min_three max_four min_four   -- for this text's walks alone
set_option linter.unusedVariables false
set_option linter.unusedSimpArgs false

/-! ### pure_Check: function 21 -/
section pureck
set_option maxRecDepth 100000
/-! What pure.Check tells. -/
def pcSt (k : Nat) (ms : List S52) (i : Int) : Option Bool := pure_stores.f k (rd_T52 ms i).f0 (rd_T52 ms i).f1 (rd_T52 ms i).f2 (rd_T52 ms i).f3 (rd_T52 ms i).f4 (rd_T52 ms i).f5 (rd_T52 ms i).f6 (rd_T52 ms i).f7
def pcLoud (ms : List S52) (n : Int) : Bool := !(rd_T52 ms n).f3
def pcIn (n : Nat) (l : List Int) : Bool := l.all fun x => decide (0 ≤ x) && decide (x < (n : Int))
def pcRow (st : Int → Option Bool) (whom : List (List Int)) (ms : List S52) : Nat → Int → Option Int
  | 0, _ => none
  | d + 1, i => if i < (ms.length : Int) then (if (rd_T52 ms i).f3 = true then ((st i).bind fun s => if s = true then some 130 else (if pcIn ms.length (whom.getD i.toNat []) = true then (if (whom.getD i.toNat []).any (pcLoud ms) = true then some 130 else pcRow st whom ms d (wrap64 (i + 1))) else none)) else pcRow st whom ms d (wrap64 (i + 1))) else some 0
def pure_Check.f (k : Nat) (l0_0 l0_1 : List S86) (l0_2 : List S52) (a0_3 : Int) : Option Int := (pure_whom.f k l0_0 l0_1 l0_2 a0_3).bind fun p => if p.2 = 0 then (if p.1.length = l0_2.length ∧ l0_2.length ≤ 10000 ∧ p.1.all (fun l => decide (l.length ≤ 1000000)) = true then pcRow (pcSt k l0_2) p.1 l0_2 (l0_2.length + 1) 0 else none) else some p.2
theorem pcRow_mono {st st' : Int → Option Bool} (h : ∀ i, LeO (st i) (st' i)) (whom : List (List Int)) (ms : List S52) : ∀ d i, LeO (pcRow st whom ms d i) (pcRow st' whom ms d i) := by
  intro d
  induction d with
  | zero => exact fun _ => LeO.refl _
  | succ d ih =>
    intro i
    unfold pcRow
    split
    · split
      · refine LeO.bind (h i) fun s => ?_
        split
        · exact LeO.refl _
        · split
          · split
            · exact LeO.refl _
            · exact ih _
          · exact LeO.refl _
      · exact ih _
    · exact LeO.refl _
theorem pure_Check.mono : ∀ a0 a1 a2 a3 k, LeO (pure_Check.f k a0 a1 a2 a3) (pure_Check.f (k + 1) a0 a1 a2 a3) := by
  intro a0 a1 a2 a3 k
  unfold pure_Check.f
  refine LeO.bind (pure_whom.mono _ _ _ _ _) fun p => ?_
  split
  · split
    · exact pcRow_mono (fun i => pure_stores.mono _ _ _ _ _ _ _ _ _) _ _ _ _
    · exact LeO.refl _
  · exact LeO.refl _
set_option maxHeartbeats 8000000 in
theorem pc_loud (W : World) (mb : Nat) (v0 v1 v3 : Value) (A2 : Option Addr) (c2 : Nat) (ms : List S52) (hm : W.heap[mb]? = some (.cells #[v0, v1, .slice A2 ms.length c2, v3] 25 (0, 0))) (hC : Kd.C k52 W A2 ms.length ms) (n : Int) (h0 : 0 ≤ n) (h1 : n < (ms.length : Int)) :
    Calls Try.prog 49 #[.int .i64 n, .pointer (some ⟨mb, 0, none⟩)] W fun e w' => e = .returned (.bool (pcLoud ms n)) ∧ w' = W := by
  obtain ⟨adm, A0', c0', A1', c1', A7', c7', em, hx0, hx1, hx2, hx3, hx4, hx5, hx6, hx7, hl0, hi0, hl1, hi1, hl7, hi7⟩ := at_T52 hC n h0 h1
  cases em
  have hm2 : W.cell? ⟨mb, 2, none⟩ = some (.slice (some adm) ms.length c2) := blk_cell hm 2
  clear hx0 hx1 hx2 hx4 hx5 hx6 hx7 hl0 hi0 hl1 hi1 hl7 hi7 hm
  replace h0 := eq_true h0
  replace h1 := eq_true h1
  go_enter Try.func49, Try.ntmps49
  go_wp2
  go_ret
  exact ⟨rfl, rfl⟩
set_option maxHeartbeats 8000000 in
theorem pc_index (W : World) (A : Option Addr) (c : Nat) (xs : List Int) (mb : Nat) (g : Int → Bool) (hC : Kd.C (Kd.int .i64) W A xs.length xs) (hl : xs.length ≤ 1000000)
    (hg : ∀ x ∈ xs, Calls Try.prog 49 #[.int .i64 x, .pointer (some ⟨mb, 0, none⟩)] W fun e w' => e = .returned (.bool (g x)) ∧ w' = W) :
    Calls Try.prog 68 #[.slice A xs.length c, .func (.func 49) #[] #[.pointer (some ⟨mb, 0, none⟩)]] W fun e w' => ∃ r : Int, e = .returned (.int .i64 r) ∧ decide (0 ≤ r) = xs.any g ∧ w' = W := by
  have HC := Aside0.mk hC
  have HG := Aside0.mk hg
  clear hC hg
  go_enter Try.func68, Try.ntmps68
  go_wp2
  go_loopg [8] xs.length (fun kq v8 w' => ∃ i : Nat, v8 = .int .i64 (i : Int) ∧ Aside0 (kq + i = xs.length) ∧ Aside0 ((xs.drop i).any g = xs.any g) ∧ Aside0 (w' = W))
  case atStart => exact ⟨0, rfl, ⟨by omega⟩, ⟨by simp⟩, ⟨rfl⟩⟩
  case round =>
    obtain ⟨i, rfl, HI, HA, HW⟩ := hrel
    have hI := HI.out
    obtain rfl := HW.out
    clear HW
    have hw : IntKind.i64.wrap ((i : Int) + 1) = ((i + 1 : Nat) : Int) := (i64_w _).trans (by unfold wrap64; omega)
    by_cases hlt : i < xs.length
    · obtain ⟨ad, e1, hx⟩ := pp_at_ints HC.out i hlt hlt
      cases e1
      have hmem : xs[i] ∈ xs := List.getElem_mem hlt
      have hdrop : (xs.drop i).any g = (g xs[i] || (xs.drop (i + 1)).any g) := by rw [List.drop_eq_getElem_cons hlt, List.any_cons]
      have hcall := Aside0.mk (HG.out _ hmem)
      clear hmem
      generalize xs[i] = y at *
      have hd : decide ((i : Int) < (xs.length : Int)) = true := decide_eq_true (by omega)
      have p0 : (0 ≤ (i : Int)) = True := eq_true (by omega)
      have q0 : ((i : Int) < (xs.length : Int)) = True := eq_true (by omega)
      cases hgy : g y with
      | true =>
        rw [hgy] at hcall
        go_wp2_with (first | (go_at_call 49; (refine (hcall.out).mono ?_); rintro e w9 ⟨rfl, rfl⟩))
        go_ret
        refine ⟨_, rfl, ?_, rfl⟩
        rw [← HA.out, hdrop, hgy, Bool.true_or]
        exact decide_eq_true (by omega)
      | false =>
        rw [hgy] at hcall
        go_wp2_with (first | (go_at_call 49; (refine (hcall.out).mono ?_); rintro e w9 ⟨rfl, rfl⟩))
        go_roundg (gk - 1)
        case measure => omega
        case rel => exact ⟨i + 1, by first | rfl | (simp; done) | (rw [hw]), ⟨by omega⟩, ⟨by rw [← HA.out, hdrop, hgy, Bool.false_or]⟩, ⟨rfl⟩⟩
    · obtain rfl : i = xs.length := by omega
      have hd : decide ((xs.length : Int) < (xs.length : Int)) = false := decide_eq_false (by omega)
      go_wp2
      go_ret
      refine ⟨_, rfl, ?_, rfl⟩
      rw [← HA.out, List.drop_length]
      rfl
set_option maxHeartbeats 8000000 in
theorem pc_contains (W : World) (A : Option Addr) (c : Nat) (xs : List Int) (mb : Nat) (g : Int → Bool) (hC : Kd.C (Kd.int .i64) W A xs.length xs) (hl : xs.length ≤ 1000000)
    (hg : ∀ x ∈ xs, Calls Try.prog 49 #[.int .i64 x, .pointer (some ⟨mb, 0, none⟩)] W fun e w' => e = .returned (.bool (g x)) ∧ w' = W) :
    Calls Try.prog 50 #[.slice A xs.length c, .func (.func 49) #[] #[.pointer (some ⟨mb, 0, none⟩)]] W fun e w' => e = .returned (.bool (xs.any g)) ∧ w' = W := by
  have HI := Aside0.mk (pc_index W A c xs mb g hC hl hg)
  clear hC hg
  go_enter Try.func50, Try.ntmps50
  go_wp2_with (first | (go_at_call 68; (refine (HI.out).mono ?_); rintro e w9 ⟨r, rfl, hr, rfl⟩))
  go_ret
  exact ⟨by rw [← hr]; rfl, rfl⟩
set_option maxHeartbeats 8000000 in
theorem pure_Check.calls (k : Nat) (A0_0 : Option Addr) (c0_0 : Nat) (l0_0 : List (S86)) (A0_1 : Option Addr) (c0_1 : Nat) (l0_1 : List (S86)) (A0_2 : Option Addr) (c0_2 : Nat) (l0_2 : List (S52)) (a0_3 : Int) (r : Int) (w : World) (hr0_0 : Kd.C k86 w A0_0 l0_0.length l0_0) (hc0_0 : l0_0.length ≤ c0_0) (hr0_1 : Kd.C k86 w A0_1 l0_1.length l0_1) (hc0_1 : l0_1.length ≤ c0_1) (hr0_2 : Kd.C k52 w A0_2 l0_2.length l0_2) (hc0_2 : l0_2.length ≤ c0_2) (h : pure_Check.f k l0_0 l0_1 l0_2 a0_3 = some r) :
    Calls Try.prog 21 #[.agg #[.slice A0_0 l0_0.length c0_0, .slice A0_1 l0_1.length c0_1, .slice A0_2 l0_2.length c0_2, .int .i64 a0_3]] w fun e w' => e = .returned (.int .i64 r) ∧ Below w.heap.size w w' := by
  have HR0 := Aside0.mk hr0_0
  have HR1 := Aside0.mk hr0_1
  have HR2 := Aside0.mk hr0_2
  have HC0 := Aside0.mk hc0_0
  have HC1 := Aside0.mk hc0_1
  have HC2 := Aside0.mk hc0_2
  clear hr0_0 hr0_1 hr0_2 hc0_0 hc0_1 hc0_2
  unfold pure_Check.f at h
  obtain ⟨⟨whom, e0⟩, hall, h⟩ := Option.bind_eq_some_iff.mp h
  have HA := Aside0.mk hall
  clear hall
  dsimp only at h
  by_cases he : e0 = 0
  · subst he
    rw [if_pos rfl] at h
    by_cases hb : whom.length = l0_2.length ∧ l0_2.length ≤ 10000 ∧ whom.all (fun l => decide (l.length ≤ 1000000)) = true
    case neg => rw [if_neg hb] at h; cases h
    rw [if_pos hb] at h
    obtain ⟨hb1, hb3, hb2⟩ := hb
    have HB1 := Aside0.mk hb1
    have HB2 := Aside0.mk hb2
    have HP := Aside0.mk h
    clear h hb1 hb2
    go_enter Try.func21, Try.ntmps21
    go_wp2_with (first | (go_at_call 43; (refine (pure_whom.calls k A0_0 c0_0 l0_0 A0_1 c0_1 l0_1 A0_2 c0_2 l0_2 a0_3 whom 0 _ (Kd.C_alloc HR0.out _) HC0.out (Kd.C_alloc HR1.out _) HC1.out (Kd.C_alloc HR2.out _) HC2.out HA.out).mono ?_); rintro e w1 ⟨v1, rfl, hS1, hb1'⟩; have S1 := Aside0.mk hS1; have BKm := Aside0.mk ((hb1'.block w.heap.size (by simp)).trans (blk_new _ _) : w1.heap[w.heap.size]? = some (.cells #[.slice A0_0 l0_0.length c0_0, .slice A0_1 l0_1.length c0_1, .slice A0_2 l0_2.length c0_2, .int .i64 a0_3] 25 (0, 0))); have hm2 : w1.cell? ⟨w.heap.size, 2, none⟩ = some (.slice A0_2 l0_2.length c0_2) := blk_cell BKm.out 2; have B1 := Aside0.mk (((Below.refl w.heap.size w).alloc (Nat.le_refl _) (.cells #[.slice A0_0 l0_0.length c0_0, .slice A0_1 l0_1.length c0_1, .slice A0_2 l0_2.length c0_2, .int .i64 a0_3] 25)).trans (hb1'.mono (by simp))); obtain ⟨Aw, cw, rfl⟩ := Kd.R_slice (Kd.S_R hS1); clear hS1 hb1'))
    go_loopg [19] l0_2.length (fun kq v19 w' => ∃ i : Nat, v19 = .int .i64 (i : Int) ∧ Aside0 (kq + i = l0_2.length) ∧ Aside0 (pcRow (pcSt k l0_2) whom l0_2 (kq + 1) (i : Int) = some r) ∧ Aside0 (Below w1.heap.size w1 w'))
    case atStart => exact ⟨0, rfl, ⟨by omega⟩, ⟨HP.out⟩, ⟨Below.refl _ _⟩⟩
    case round =>
      clear HP hm2
      obtain ⟨i, rfl, HI, HP, HW⟩ := hrel
      have hI := HI.out
      clear HI
      have hw : IntKind.i64.wrap ((i : Int) + 1) = ((i + 1 : Nat) : Int) := (i64_w _).trans (by unfold wrap64; omega)
      have hw2 : wrap64 ((i : Int) + 1) = ((i + 1 : Nat) : Int) := by unfold wrap64; omega
      have hp := HP.out
      clear HP
      by_cases hlt : i < l0_2.length
      · rw [pcRow, if_pos (by omega), hw2] at hp
        have p0 : 0 ≤ (i : Int) := by omega
        have q0 : (i : Int) < (l0_2.length : Int) := by omega
        have BW := Aside0.mk (B1.out.trans (HW.out.mono B1.out.size))
        have HM := Aside0.mk (blk_below BKm.out HW.out)
        obtain ⟨adm, A0', c0', A1', c1', A7', c7', em, hx0, hx1, hx2, hx3, hx4, hx5, hx6, hx7, hl0, hi0, hl1, hi1, hl7, hi7⟩ := at_T52 HR2.out (i : Int) p0 q0
        cases em
        replace hx0 := (BW.out.cell (World.block_lt_of_cell? w _ hx0)).trans hx0; replace hx1 := (BW.out.cell (World.block_lt_of_cell? w _ hx1)).trans hx1; replace hx2 := (BW.out.cell (World.block_lt_of_cell? w _ hx2)).trans hx2; replace hx3 := (BW.out.cell (World.block_lt_of_cell? w _ hx3)).trans hx3; replace hx4 := (BW.out.cell (World.block_lt_of_cell? w _ hx4)).trans hx4; replace hx5 := (BW.out.cell (World.block_lt_of_cell? w _ hx5)).trans hx5; replace hx6 := (BW.out.cell (World.block_lt_of_cell? w _ hx6)).trans hx6; replace hx7 := (BW.out.cell (World.block_lt_of_cell? w _ hx7)).trans hx7
        simp only [Int.toNat_natCast] at hx0 hx1 hx2 hx3 hx4 hx5 hx6 hx7
        have HI0 := Aside0.mk hi0
        have HI1 := Aside0.mk hi1
        have HI7 := Aside0.mk hi7
        clear hi0 hi1 hi7
        have hd : decide ((i : Int) < (l0_2.length : Int)) = true := decide_eq_true q0
        replace p0 := eq_true p0
        replace q0 := eq_true q0
        cases hf3 : (rd_T52 l0_2 (i : Int)).f3 with
        | false =>
          rw [hf3, if_neg (by decide)] at hp
          rw [hf3] at hx3
          have HP2 := Aside0.mk hp
          clear hp
          go_wp2_with (first | ((with_reducible refine gate_dst (N := 6) rfl ?_); refine box_event ?hg (N := 6) ?hd (cs := #[.slice none 0 0, .slice none 0 0, .int .u8 0, .bool false, .int .i64 0, .int .i64 0, .int .i64 0, .slice none 0 0]) (t := 52) ?hr ?_; (case hd => rfl); (case hg => rfl); (case hr => first | (go_simp; done) | (go_simp; rfl)); intro gb hgb w21 hbox hbx; have hgl : wr.heap.size ≤ gb := Nat.le_of_eq hgb.symm; clear hgb; have hcz0 : w21.cell? ⟨gb, 0, none⟩ = some (.slice none 0 0) := (blk_cell hbox 0).trans rfl; have hfz0 := blk_frozen hbox 0; have hcz1 : w21.cell? ⟨gb, 1, none⟩ = some (.slice none 0 0) := (blk_cell hbox 1).trans rfl; have hfz1 := blk_frozen hbox 1; have hcz2 : w21.cell? ⟨gb, 2, none⟩ = some (.int .u8 0) := (blk_cell hbox 2).trans rfl; have hfz2 := blk_frozen hbox 2; have hcz3 : w21.cell? ⟨gb, 3, none⟩ = some (.bool false) := (blk_cell hbox 3).trans rfl; have hfz3 := blk_frozen hbox 3; have hcz4 : w21.cell? ⟨gb, 4, none⟩ = some (.int .i64 0) := (blk_cell hbox 4).trans rfl; have hfz4 := blk_frozen hbox 4; have hcz5 : w21.cell? ⟨gb, 5, none⟩ = some (.int .i64 0) := (blk_cell hbox 5).trans rfl; have hfz5 := blk_frozen hbox 5; have hcz6 : w21.cell? ⟨gb, 6, none⟩ = some (.int .i64 0) := (blk_cell hbox 6).trans rfl; have hfz6 := blk_frozen hbox 6; have hcz7 : w21.cell? ⟨gb, 7, none⟩ = some (.slice none 0 0) := (blk_cell hbox 7).trans rfl; have hfz7 := blk_frozen hbox 7; have HSET := Aside0.mk (fun (z0 z1 z2 z3 z4 z5 z6 z7 : Value) => ((((((((hbx.setCell (p := ⟨gb, 0, none⟩) hgl z0).setCell (p := ⟨gb, 1, none⟩) hgl z1).setCell (p := ⟨gb, 2, none⟩) hgl z2).setCell (p := ⟨gb, 3, none⟩) hgl z3).setCell (p := ⟨gb, 4, none⟩) hgl z4).setCell (p := ⟨gb, 5, none⟩) hgl z5).setCell (p := ⟨gb, 6, none⟩) hgl z6).setCell (p := ⟨gb, 7, none⟩) hgl z7)); clear hbx hbox))
          go_roundg (gk - 1)
          case measure => omega
          case rel => exact ⟨i + 1, by first | rfl | (simp; done) | (rw [hw]), ⟨by omega⟩, ⟨by rw [show gk - 1 + 1 = gk by omega]; exact HP2.out⟩, ⟨HW.out.trans ((HSET.out _ _ _ _ _ _ _ _).mono HW.out.size)⟩⟩
        | true =>
          rw [hf3, if_pos rfl] at hp
          rw [hf3] at hx3
          obtain ⟨s, hs, hp⟩ := Option.bind_eq_some_iff.mp hp
          unfold pcSt at hs
          rw [hf3] at hs
          have HS := Aside0.mk hs
          clear hs
          cases s with
          | true =>
            rw [if_pos rfl] at hp
            obtain rfl := Option.some.inj hp
            go_wp2_with (first | ((with_reducible refine gate_dst (N := 6) rfl ?_); refine box_event ?hg (N := 6) ?hd (cs := #[.slice none 0 0, .slice none 0 0, .int .u8 0, .bool false, .int .i64 0, .int .i64 0, .int .i64 0, .slice none 0 0]) (t := 52) ?hr ?_; (case hd => rfl); (case hg => rfl); (case hr => first | (go_simp; done) | (go_simp; rfl)); intro gb hgb w21 hbox hbx; have hgl : wr.heap.size ≤ gb := Nat.le_of_eq hgb.symm; clear hgb; have hcz0 : w21.cell? ⟨gb, 0, none⟩ = some (.slice none 0 0) := (blk_cell hbox 0).trans rfl; have hfz0 := blk_frozen hbox 0; have hcz1 : w21.cell? ⟨gb, 1, none⟩ = some (.slice none 0 0) := (blk_cell hbox 1).trans rfl; have hfz1 := blk_frozen hbox 1; have hcz2 : w21.cell? ⟨gb, 2, none⟩ = some (.int .u8 0) := (blk_cell hbox 2).trans rfl; have hfz2 := blk_frozen hbox 2; have hcz3 : w21.cell? ⟨gb, 3, none⟩ = some (.bool false) := (blk_cell hbox 3).trans rfl; have hfz3 := blk_frozen hbox 3; have hcz4 : w21.cell? ⟨gb, 4, none⟩ = some (.int .i64 0) := (blk_cell hbox 4).trans rfl; have hfz4 := blk_frozen hbox 4; have hcz5 : w21.cell? ⟨gb, 5, none⟩ = some (.int .i64 0) := (blk_cell hbox 5).trans rfl; have hfz5 := blk_frozen hbox 5; have hcz6 : w21.cell? ⟨gb, 6, none⟩ = some (.int .i64 0) := (blk_cell hbox 6).trans rfl; have hfz6 := blk_frozen hbox 6; have hcz7 : w21.cell? ⟨gb, 7, none⟩ = some (.slice none 0 0) := (blk_cell hbox 7).trans rfl; have hfz7 := blk_frozen hbox 7; have HSET := Aside0.mk (fun (z0 z1 z2 z3 z4 z5 z6 z7 : Value) => ((((((((hbx.setCell (p := ⟨gb, 0, none⟩) hgl z0).setCell (p := ⟨gb, 1, none⟩) hgl z1).setCell (p := ⟨gb, 2, none⟩) hgl z2).setCell (p := ⟨gb, 3, none⟩) hgl z3).setCell (p := ⟨gb, 4, none⟩) hgl z4).setCell (p := ⟨gb, 5, none⟩) hgl z5).setCell (p := ⟨gb, 6, none⟩) hgl z6).setCell (p := ⟨gb, 7, none⟩) hgl z7)); clear hbx hbox) | (go_at_call 42; (refine (pure_stores.calls k A0' c0' (rd_T52 l0_2 (i : Int)).f0 A1' c1' (rd_T52 l0_2 (i : Int)).f1 (rd_T52 l0_2 (i : Int)).f2 true (rd_T52 l0_2 (i : Int)).f4 (rd_T52 l0_2 (i : Int)).f5 (rd_T52 l0_2 (i : Int)).f6 A7' c7' (rd_T52 l0_2 (i : Int)).f7 true _ (Kd.C_below HI0.out (BW.out.trans ((HSET.out _ _ _ _ _ _ _ _).mono BW.out.size))) hl0 (Kd.C_below HI1.out (BW.out.trans ((HSET.out _ _ _ _ _ _ _ _).mono BW.out.size))) hl1 (Kd.C_below HI7.out (BW.out.trans ((HSET.out _ _ _ _ _ _ _ _).mono BW.out.size))) hl7 HS.out).mono ?_); rintro e w24 ⟨rfl, hb24⟩; have B9 := Aside0.mk ((HSET.out _ _ _ _ _ _ _ _).trans (hb24.mono (HSET.out _ _ _ _ _ _ _ _).size)); clear hb24))
            go_ret
            exact ⟨rfl, BW.out.trans (B9.out.mono BW.out.size)⟩
          | false =>
            rw [if_neg (by decide), Int.toNat_natCast] at hp
            have hwl : (whom.getD i []).length ≤ 1000000 := by
              have := List.all_eq_true.1 HB2.out (whom.getD i []) (by rw [List.getD_eq_getElem?_getD, List.getElem?_eq_getElem (by have := HB1.out; omega)]; exact List.getElem_mem _)
              simpa using this
            by_cases hin : pcIn l0_2.length (whom.getD i []) = true
            case neg => rw [if_neg hin] at hp; cases hp
            rw [if_pos hin] at hp
            have HIN : Aside0 (∀ x ∈ whom.getD i [], 0 ≤ x ∧ x < (l0_2.length : Int)) := ⟨fun x hx => by simpa using List.all_eq_true.1 hin x hx⟩
            clear hin
            obtain ⟨A1w, c1w, e1, hl1w, hC1⟩ := Kd.R_reads (Kd.S_R S1.out)
            cases e1
            obtain ⟨adx, Ai, ci, hAd, px, hci, hCi⟩ := pp_at_rows (Kd.C_below hC1 HW.out) (i : Int) (by omega) (by have := HB1.out; omega)
            subst hAd
            simp only [Int.toNat_natCast] at px hci hCi
            have HCI := Aside0.mk hCi
            clear hCi hC1
            have r0 : ((i : Int) < (whom.length : Int)) = True := eq_true (by have := HB1.out; omega)
            generalize whom.getD i [] = lx at *
            cases hany : lx.any (pcLoud l0_2) with
            | true =>
              rw [hany, if_pos rfl] at hp
              obtain rfl := Option.some.inj hp
              go_wp2_with (first | ((with_reducible refine gate_dst (N := 6) rfl ?_); refine box_event ?hg (N := 6) ?hd (cs := #[.slice none 0 0, .slice none 0 0, .int .u8 0, .bool false, .int .i64 0, .int .i64 0, .int .i64 0, .slice none 0 0]) (t := 52) ?hr ?_; (case hd => rfl); (case hg => rfl); (case hr => first | (go_simp; done) | (go_simp; rfl)); intro gb hgb w21 hbox hbx; have hgl : wr.heap.size ≤ gb := Nat.le_of_eq hgb.symm; clear hgb; have hcz0 : w21.cell? ⟨gb, 0, none⟩ = some (.slice none 0 0) := (blk_cell hbox 0).trans rfl; have hfz0 := blk_frozen hbox 0; have hcz1 : w21.cell? ⟨gb, 1, none⟩ = some (.slice none 0 0) := (blk_cell hbox 1).trans rfl; have hfz1 := blk_frozen hbox 1; have hcz2 : w21.cell? ⟨gb, 2, none⟩ = some (.int .u8 0) := (blk_cell hbox 2).trans rfl; have hfz2 := blk_frozen hbox 2; have hcz3 : w21.cell? ⟨gb, 3, none⟩ = some (.bool false) := (blk_cell hbox 3).trans rfl; have hfz3 := blk_frozen hbox 3; have hcz4 : w21.cell? ⟨gb, 4, none⟩ = some (.int .i64 0) := (blk_cell hbox 4).trans rfl; have hfz4 := blk_frozen hbox 4; have hcz5 : w21.cell? ⟨gb, 5, none⟩ = some (.int .i64 0) := (blk_cell hbox 5).trans rfl; have hfz5 := blk_frozen hbox 5; have hcz6 : w21.cell? ⟨gb, 6, none⟩ = some (.int .i64 0) := (blk_cell hbox 6).trans rfl; have hfz6 := blk_frozen hbox 6; have hcz7 : w21.cell? ⟨gb, 7, none⟩ = some (.slice none 0 0) := (blk_cell hbox 7).trans rfl; have hfz7 := blk_frozen hbox 7; have HSET := Aside0.mk (fun (z0 z1 z2 z3 z4 z5 z6 z7 : Value) => ((((((((hbx.setCell (p := ⟨gb, 0, none⟩) hgl z0).setCell (p := ⟨gb, 1, none⟩) hgl z1).setCell (p := ⟨gb, 2, none⟩) hgl z2).setCell (p := ⟨gb, 3, none⟩) hgl z3).setCell (p := ⟨gb, 4, none⟩) hgl z4).setCell (p := ⟨gb, 5, none⟩) hgl z5).setCell (p := ⟨gb, 6, none⟩) hgl z6).setCell (p := ⟨gb, 7, none⟩) hgl z7)); clear hbx hbox) | (go_at_call 42; (refine (pure_stores.calls k A0' c0' (rd_T52 l0_2 (i : Int)).f0 A1' c1' (rd_T52 l0_2 (i : Int)).f1 (rd_T52 l0_2 (i : Int)).f2 true (rd_T52 l0_2 (i : Int)).f4 (rd_T52 l0_2 (i : Int)).f5 (rd_T52 l0_2 (i : Int)).f6 A7' c7' (rd_T52 l0_2 (i : Int)).f7 false _ (Kd.C_below HI0.out (BW.out.trans ((HSET.out _ _ _ _ _ _ _ _).mono BW.out.size))) hl0 (Kd.C_below HI1.out (BW.out.trans ((HSET.out _ _ _ _ _ _ _ _).mono BW.out.size))) hl1 (Kd.C_below HI7.out (BW.out.trans ((HSET.out _ _ _ _ _ _ _ _).mono BW.out.size))) hl7 HS.out).mono ?_); rintro e w24 ⟨rfl, hb24⟩; have B9 := Aside0.mk ((HSET.out _ _ _ _ _ _ _ _).trans (hb24.mono (HSET.out _ _ _ _ _ _ _ _).size)); clear hb24; replace px := (B9.out.cell (World.block_lt_of_cell? wr _ px)).trans px) | (go_at_call 50; (refine (pc_contains _ Ai ci lx w.heap.size (pcLoud l0_2) (Kd.C_below HCI.out B9.out) hwl (fun x hx => pc_loud _ w.heap.size _ _ _ _ c0_2 l0_2 (blk_below HM.out B9.out) (Kd.C_below HR2.out (BW.out.trans (B9.out.mono BW.out.size))) x (HIN.out x hx).1 (HIN.out x hx).2)).mono ?_); rintro e w25 ⟨rfl, rfl⟩; rw [hany]))
              go_ret
              exact ⟨rfl, BW.out.trans (B9.out.mono BW.out.size)⟩
            | false =>
              rw [hany, if_neg (by decide)] at hp
              have HP2 := Aside0.mk hp
              clear hp
              go_wp2_with (first | ((with_reducible refine gate_dst (N := 6) rfl ?_); refine box_event ?hg (N := 6) ?hd (cs := #[.slice none 0 0, .slice none 0 0, .int .u8 0, .bool false, .int .i64 0, .int .i64 0, .int .i64 0, .slice none 0 0]) (t := 52) ?hr ?_; (case hd => rfl); (case hg => rfl); (case hr => first | (go_simp; done) | (go_simp; rfl)); intro gb hgb w21 hbox hbx; have hgl : wr.heap.size ≤ gb := Nat.le_of_eq hgb.symm; clear hgb; have hcz0 : w21.cell? ⟨gb, 0, none⟩ = some (.slice none 0 0) := (blk_cell hbox 0).trans rfl; have hfz0 := blk_frozen hbox 0; have hcz1 : w21.cell? ⟨gb, 1, none⟩ = some (.slice none 0 0) := (blk_cell hbox 1).trans rfl; have hfz1 := blk_frozen hbox 1; have hcz2 : w21.cell? ⟨gb, 2, none⟩ = some (.int .u8 0) := (blk_cell hbox 2).trans rfl; have hfz2 := blk_frozen hbox 2; have hcz3 : w21.cell? ⟨gb, 3, none⟩ = some (.bool false) := (blk_cell hbox 3).trans rfl; have hfz3 := blk_frozen hbox 3; have hcz4 : w21.cell? ⟨gb, 4, none⟩ = some (.int .i64 0) := (blk_cell hbox 4).trans rfl; have hfz4 := blk_frozen hbox 4; have hcz5 : w21.cell? ⟨gb, 5, none⟩ = some (.int .i64 0) := (blk_cell hbox 5).trans rfl; have hfz5 := blk_frozen hbox 5; have hcz6 : w21.cell? ⟨gb, 6, none⟩ = some (.int .i64 0) := (blk_cell hbox 6).trans rfl; have hfz6 := blk_frozen hbox 6; have hcz7 : w21.cell? ⟨gb, 7, none⟩ = some (.slice none 0 0) := (blk_cell hbox 7).trans rfl; have hfz7 := blk_frozen hbox 7; have HSET := Aside0.mk (fun (z0 z1 z2 z3 z4 z5 z6 z7 : Value) => ((((((((hbx.setCell (p := ⟨gb, 0, none⟩) hgl z0).setCell (p := ⟨gb, 1, none⟩) hgl z1).setCell (p := ⟨gb, 2, none⟩) hgl z2).setCell (p := ⟨gb, 3, none⟩) hgl z3).setCell (p := ⟨gb, 4, none⟩) hgl z4).setCell (p := ⟨gb, 5, none⟩) hgl z5).setCell (p := ⟨gb, 6, none⟩) hgl z6).setCell (p := ⟨gb, 7, none⟩) hgl z7)); clear hbx hbox) | (go_at_call 42; (refine (pure_stores.calls k A0' c0' (rd_T52 l0_2 (i : Int)).f0 A1' c1' (rd_T52 l0_2 (i : Int)).f1 (rd_T52 l0_2 (i : Int)).f2 true (rd_T52 l0_2 (i : Int)).f4 (rd_T52 l0_2 (i : Int)).f5 (rd_T52 l0_2 (i : Int)).f6 A7' c7' (rd_T52 l0_2 (i : Int)).f7 false _ (Kd.C_below HI0.out (BW.out.trans ((HSET.out _ _ _ _ _ _ _ _).mono BW.out.size))) hl0 (Kd.C_below HI1.out (BW.out.trans ((HSET.out _ _ _ _ _ _ _ _).mono BW.out.size))) hl1 (Kd.C_below HI7.out (BW.out.trans ((HSET.out _ _ _ _ _ _ _ _).mono BW.out.size))) hl7 HS.out).mono ?_); rintro e w24 ⟨rfl, hb24⟩; have B9 := Aside0.mk ((HSET.out _ _ _ _ _ _ _ _).trans (hb24.mono (HSET.out _ _ _ _ _ _ _ _).size)); clear hb24; replace px := (B9.out.cell (World.block_lt_of_cell? wr _ px)).trans px) | (go_at_call 50; (refine (pc_contains _ Ai ci lx w.heap.size (pcLoud l0_2) (Kd.C_below HCI.out B9.out) hwl (fun x hx => pc_loud _ w.heap.size _ _ _ _ c0_2 l0_2 (blk_below HM.out B9.out) (Kd.C_below HR2.out (BW.out.trans (B9.out.mono BW.out.size))) x (HIN.out x hx).1 (HIN.out x hx).2)).mono ?_); rintro e w25 ⟨rfl, rfl⟩; rw [hany]))
              go_roundg (gk - 1)
              case measure => omega
              case rel => exact ⟨i + 1, by first | rfl | (simp; done) | (rw [hw]), ⟨by omega⟩, ⟨by rw [show gk - 1 + 1 = gk by omega]; exact HP2.out⟩, ⟨HW.out.trans (B9.out.mono HW.out.size)⟩⟩
      · obtain rfl : i = l0_2.length := by omega
        rw [pcRow, if_neg (by omega)] at hp
        obtain rfl := Option.some.inj hp
        have hd : decide ((l0_2.length : Int) < (l0_2.length : Int)) = false := decide_eq_false (by omega)
        go_wp2
        go_ret
        exact ⟨rfl, B1.out.trans (HW.out.mono B1.out.size)⟩
  · rw [if_neg he] at h
    obtain rfl := Option.some.inj h
    have hne : (e0 != 0) = true := by rw [bne_iff_ne]; exact he
    go_enter Try.func21, Try.ntmps21
    go_wp2_with (first | (go_at_call 43; (refine (pure_whom.calls k A0_0 c0_0 l0_0 A0_1 c0_1 l0_1 A0_2 c0_2 l0_2 a0_3 whom e0 _ (Kd.C_alloc HR0.out _) HC0.out (Kd.C_alloc HR1.out _) HC1.out (Kd.C_alloc HR2.out _) HC2.out HA.out).mono ?_); rintro e w1 ⟨v1, rfl, hS1, hb1'⟩; have S1 := Aside0.mk hS1; have BKm := Aside0.mk ((hb1'.block w.heap.size (by simp)).trans (blk_new _ _) : w1.heap[w.heap.size]? = some (.cells #[.slice A0_0 l0_0.length c0_0, .slice A0_1 l0_1.length c0_1, .slice A0_2 l0_2.length c0_2, .int .i64 a0_3] 25 (0, 0))); have hm2 : w1.cell? ⟨w.heap.size, 2, none⟩ = some (.slice A0_2 l0_2.length c0_2) := blk_cell BKm.out 2; have B1 := Aside0.mk (((Below.refl w.heap.size w).alloc (Nat.le_refl _) (.cells #[.slice A0_0 l0_0.length c0_0, .slice A0_1 l0_1.length c0_1, .slice A0_2 l0_2.length c0_2, .int .i64 a0_3] 25)).trans (hb1'.mono (by simp))); obtain ⟨Aw, cw, rfl⟩ := Kd.R_slice (Kd.S_R hS1); clear hS1 hb1'))
    go_ret
    exact ⟨rfl, B1.out⟩
end pureck

/-! ### capstanlaw13_three: function 51 -/
mutual
def capstanlaw13_three.j0 : Nat → Int → List (List (S70)) → Int → Option ((List (S86)) × (List (S86)) × (List (S52)) × Int)
 | 0, _, _, _ => none
 | k + 1, x0, x6, x162003 => capstanlaw13_three.l0 k x0 x6 0 ([] : List (S52)) x162003
def capstanlaw13_three.l0 : Nat → Int → List (List (S70)) → Int → List (S52) → Int → Option ((List (S86)) × (List (S86)) × (List (S52)) × Int)
 | 0, _, _, _, _, _ => none
 | k + 1, x0, x6, x7, x162002, x162003 => if x7 < 3 then (if 0 ≤ x7 then (if x7 < (x6.length : Int) then (if x162002.length < 1353245080339 then (capstanlaw13_three.l0 k x0 x6 (wrap64 (x7 + 1)) (x162002 ++ [(⟨([] : List Int), ([] : List Int), 0, ((Go.bits .and .u8 (shr .u8 x0 x7) 1) == 1), 0, 0, 0, rd_L5 x6 x7⟩ : S52)]) x162003) else (none)) else (none)) else (none)) else (some (([] : List (S86)), ([] : List (S86)), x162002, x162003))
end
def capstanlaw13_three.f (k : Nat) (a0 : Int) (a1 : Int) : Option ((List (S86)) × (List (S86)) × (List (S52)) × Int) := (some (([(([(⟨30, 1, 0⟩ : S70)] : List (S70))), (([(⟨5, 0, 0⟩ : S70)] : List (S70))), (([(⟨0, 0, 0⟩ : S70)] : List (S70)))] : List (List (S70))) : List (List (S70)))).bind fun y171 => (if a1 ≥ 0 then (if 2 < (y171.length : Int) then (capstanlaw13_three.j0 k a0 (y171.set (2 : Int).toNat (([(⟨30, a1, 0⟩ : S70)] : List (S70)))) (-1)) else (none)) else (capstanlaw13_three.j0 k a0 y171 (-1)))
theorem capstanlaw13_three.mono_l : ∀ k, (∀ y0 y1 y2, LeO (capstanlaw13_three.j0 k y0 y1 y2) (capstanlaw13_three.j0 (k + 1) y0 y1 y2)) ∧ (∀ y0 y1 y2 y3 y4, LeO (capstanlaw13_three.l0 k y0 y1 y2 y3 y4) (capstanlaw13_three.l0 (k + 1) y0 y1 y2 y3 y4))
 | 0 => ⟨fun _ _ _ r h => by simp [capstanlaw13_three.j0] at h, fun _ _ _ _ _ r h => by simp [capstanlaw13_three.l0] at h⟩
 | k + 1 => by
  obtain ⟨ih0, ih1⟩ := capstanlaw13_three.mono_l k
  refine ⟨?_, ?_⟩
  ·
   intro y0 y1 y2
   unfold capstanlaw13_three.j0
   repeat' first
   | (with_reducible exact ih0 _ _ _)
   | (with_reducible exact ih1 _ _ _ _ _)
   | (with_reducible exact LeO.refl _)
   | (with_reducible exact LeO.none _)
   | (with_reducible refine LeO.ite ?_ ?_)
   | (with_reducible refine LeO.bind ?_ (fun _ => ?_))
   | exact ih0 _ _ _
   | exact ih1 _ _ _ _ _
   | exact LeO.none _
   | refine LeO.ite ?_ ?_
   | refine LeO.bind ?_ (fun _ => ?_)
  ·
   intro y0 y1 y2 y3 y4
   unfold capstanlaw13_three.l0
   repeat' first
   | (with_reducible exact ih0 _ _ _)
   | (with_reducible exact ih1 _ _ _ _ _)
   | (with_reducible exact LeO.refl _)
   | (with_reducible exact LeO.none _)
   | (with_reducible refine LeO.ite ?_ ?_)
   | (with_reducible refine LeO.bind ?_ (fun _ => ?_))
   | exact ih0 _ _ _
   | exact ih1 _ _ _ _ _
   | exact LeO.none _
   | refine LeO.ite ?_ ?_
   | refine LeO.bind ?_ (fun _ => ?_)
theorem capstanlaw13_three.mono : ∀ a0 a1 k, LeO (capstanlaw13_three.f k a0 a1) (capstanlaw13_three.f (k + 1) a0 a1) := by
 intro a0 a1 k
 obtain ⟨ih0, ih1⟩ := capstanlaw13_three.mono_l k
 unfold capstanlaw13_three.f
 repeat' first
   | (with_reducible exact ih0 _ _ _)
   | (with_reducible exact ih1 _ _ _ _ _)
   | (with_reducible exact LeO.refl _)
   | (with_reducible exact LeO.none _)
   | (with_reducible refine LeO.ite ?_ ?_)
   | (with_reducible refine LeO.bind ?_ (fun _ => ?_))
   | exact ih0 _ _ _
   | exact ih1 _ _ _ _ _
   | exact LeO.none _
   | refine LeO.ite ?_ ?_
   | refine LeO.bind ?_ (fun _ => ?_)
def capstanlaw13_three.T8 : Bool × List (List Nat × List Nat) := (true, [([], []), ([0], [0]), ([], []), ([], []), ([2, 3], [2, 3]), ([4], [4]), ([5], [5]), ([], []), ([], []), ([7, 8], [7, 8]), ([9], [9]), ([6, 10], [6, 10]), ([11], [11]), ([1, 12], [1, 12]), ([0, 1, 2, 3, 4, 5, 6, 7, 8, 9, 10, 11, 12, 13], []), ([14, 13, 13, 0, 1, 2, 3, 4, 5, 6, 7, 8, 9, 10, 11, 12, 13], [13, 14])])
def capstanlaw13_three.B8 : List Nat := [0, 1, 0, 0, 12, 28, 60, 0, 0, 384, 896, 2044, 4092, 8191, 16383, 32767]
theorem capstanlaw13_three.tab8 : rtab .any (opsOf Try.f51 8) = capstanlaw13_three.T8 := by kernel_rfl
theorem capstanlaw13_three.bits8 : waitsOk capstanlaw13_three.T8.2 capstanlaw13_three.B8 = true := by kernel_rfl
set_option maxHeartbeats 8000000 in
set_option maxRecDepth 100000 in
theorem capstanlaw13_three.calls (k : Nat) (a0 : Int) (a1 : Int) (r1 : List (S86)) (r2 : List (S86)) (r3 : List (S52)) (r4 : Int) (w : World) (h : capstanlaw13_three.f k a0 a1 = some (r1, r2, r3, r4)) :
  Calls Try.prog 51 #[.int .u8 a0, .int .i64 a1] w fun e w' => ∃ v0_ v1_ v2_ : Value, e = .returned (.agg #[v0_, v1_, v2_, .int .i64 r4]) ∧ Kd.R k86 86 w' w.heap.size (fun k_ => (w.heap.size ≤ k_) ∧ some k_ ≠ (v1_ : Value).ownBlock) v0_ r1 ∧ Kd.R k86 86 w' w.heap.size (fun k_ => (w.heap.size ≤ k_) ∧ some k_ ≠ (v0_ : Value).ownBlock) v1_ r2 ∧ Kd.N k52 52 w' w.heap.size (fun k_ => (w.heap.size ≤ k_) ∧ some k_ ≠ (v0_ : Value).ownBlock ∧ some k_ ≠ (v1_ : Value).ownBlock) v2_ r3 ∧ Below w.heap.size w w' := by
 have hu25 := Try.underlying25
 have hu70 := Try.underlying70
 have hu52 := Try.underlying52
 have HB := Aside0.mk (Below.refl w.heap.size w)
 have H : ((some (([(([(⟨30, 1, 0⟩ : S70)] : List (S70))), (([(⟨5, 0, 0⟩ : S70)] : List (S70))), (([(⟨0, 0, 0⟩ : S70)] : List (S70)))] : List (List (S70))) : List (List (S70)))).bind fun y171 => (if a1 ≥ 0 then (if 2 < (y171.length : Int) then (capstanlaw13_three.j0 k a0 (y171.set (2 : Int).toNat (([(⟨30, a1, 0⟩ : S70)] : List (S70)))) (-1)) else (none)) else (capstanlaw13_three.j0 k a0 y171 (-1)))) = some (r1, r2, r3, r4) := h
 clear h
 obtain ⟨y162, hy162⟩ : ∃ y_ : List (S70), y_ = (([(⟨30, 1, 0⟩ : S70)] : List (S70))) := ⟨_, rfl⟩
 replace H : ((some (([y162, (([(⟨5, 0, 0⟩ : S70)] : List (S70))), (([(⟨0, 0, 0⟩ : S70)] : List (S70)))] : List (List (S70))) : List (List (S70)))).bind fun y171 => (if a1 ≥ 0 then (if 2 < (y171.length : Int) then (capstanlaw13_three.j0 k a0 (y171.set (2 : Int).toNat (([(⟨30, a1, 0⟩ : S70)] : List (S70)))) (-1)) else (none)) else (capstanlaw13_three.j0 k a0 y171 (-1)))) = some (r1, r2, r3, r4) := by first | (rw [hy162]; with_reducible exact H) | (have H2_ := (Option.bind_some _ _).symm.trans H; rw [hy162]; with_reducible exact H2_) | (have H2_ := (Option.bind_some _ _).symm.trans H; with_reducible exact H2_) | with_reducible exact H | (rw [hy162]; exact H) | exact H
 have Ny162 := Aside0.mk hy162
 clear hy162
 obtain ⟨y165, hy165⟩ : ∃ y_ : List (S70), y_ = (([(⟨5, 0, 0⟩ : S70)] : List (S70))) := ⟨_, rfl⟩
 replace H : ((some (([y162, y165, (([(⟨0, 0, 0⟩ : S70)] : List (S70)))] : List (List (S70))) : List (List (S70)))).bind fun y171 => (if a1 ≥ 0 then (if 2 < (y171.length : Int) then (capstanlaw13_three.j0 k a0 (y171.set (2 : Int).toNat (([(⟨30, a1, 0⟩ : S70)] : List (S70)))) (-1)) else (none)) else (capstanlaw13_three.j0 k a0 y171 (-1)))) = some (r1, r2, r3, r4) := by first | (rw [hy165]; with_reducible exact H) | (have H2_ := (Option.bind_some _ _).symm.trans H; rw [hy165]; with_reducible exact H2_) | (have H2_ := (Option.bind_some _ _).symm.trans H; with_reducible exact H2_) | with_reducible exact H | (rw [hy165]; exact H) | exact H
 have Ny165 := Aside0.mk hy165
 clear hy165
 obtain ⟨y168, hy168⟩ : ∃ y_ : List (S70), y_ = (([(⟨0, 0, 0⟩ : S70)] : List (S70))) := ⟨_, rfl⟩
 replace H : ((some (([y162, y165, y168] : List (List (S70))) : List (List (S70)))).bind fun y171 => (if a1 ≥ 0 then (if 2 < (y171.length : Int) then (capstanlaw13_three.j0 k a0 (y171.set (2 : Int).toNat (([(⟨30, a1, 0⟩ : S70)] : List (S70)))) (-1)) else (none)) else (capstanlaw13_three.j0 k a0 y171 (-1)))) = some (r1, r2, r3, r4) := by first | (rw [hy168]; with_reducible exact H) | (have H2_ := (Option.bind_some _ _).symm.trans H; rw [hy168]; with_reducible exact H2_) | (have H2_ := (Option.bind_some _ _).symm.trans H; with_reducible exact H2_) | with_reducible exact H | (rw [hy168]; exact H) | exact H
 have Ny168 := Aside0.mk hy168
 clear hy168
 obtain ⟨y171, hy171⟩ : ∃ y_ : List (List (S70)), y_ = (([y162, y165, y168] : List (List (S70)))) := ⟨_, rfl⟩
 replace H : (if a1 ≥ 0 then (if 2 < (y171.length : Int) then (capstanlaw13_three.j0 k a0 (y171.set (2 : Int).toNat (([(⟨30, a1, 0⟩ : S70)] : List (S70)))) (-1)) else (none)) else (capstanlaw13_three.j0 k a0 y171 (-1))) = some (r1, r2, r3, r4) := by first | (rw [hy171]; with_reducible exact H) | (have H2_ := (Option.bind_some _ _).symm.trans H; rw [hy171]; with_reducible exact H2_) | (have H2_ := (Option.bind_some _ _).symm.trans H; with_reducible exact H2_) | with_reducible exact H | (rw [hy171]; exact H) | exact H
 have Ny171 := Aside0.mk hy171
 clear hy171
 have HC3 := Aside0.mk H
 clear H
 go_enter Try.func51, Try.ntmps51
 go_upto_if 17 with (first | ((with_reducible refine gate_dst (N := 4) rfl ?_); refine box_event ?hg (N := 4) ?hd (cs := #[.slice none 0 0, .slice none 0 0, .slice none 0 0, .int .i64 0]) (t := 25) ?hr ?_; (case hd => rfl); (case hg => rfl); (case hr => first | (go_simp; done) | (go_simp; rfl)); intro gb160 hg w4 hbox hb; have n0_ := Aside0.mk (below_step (au1) hb); have n1_ := Aside0.mk (hbox); have n2_ := Aside0.mk ((au51 : w.heap.size ≤ gb160)); have n3_ := Aside0.mk ((au51 : w.heap.size ≤ gb160)); clear HB; have HB := n0_; have BK160 := n1_; have GW160 := n2_; have GE160 := n3_; clear n0_ n1_ n2_ n3_; clear hb hbox hg) | ((with_reducible refine gate_dst (N := 5) rfl ?_); refine box_event ?hg (N := 5) ?hd (cs := #[.slice none 0 0, .slice none 0 0, .slice none 0 0, .int .i64 0]) (t := 25) ?hr ?_; (case hd => rfl); (case hg => rfl); (case hr => first | (go_simp; done) | (go_simp; rfl)); intro gb161 hg w5 hbox hb; have n0_ := Aside0.mk (blk_below (g := gb160) (o := .cells #[.slice none 0 0, .slice none 0 0, .slice none 0 0, .int .i64 0] 25 (0, 0)) (au31) hb); have n1_ := Aside0.mk (below_step (au70) hb); have n2_ := Aside0.mk (hbox); have n3_ := Aside0.mk ((by rw [hg]; exact (below_size (au70)) : w.heap.size ≤ gb161)); have n4_ := Aside0.mk ((by rw [hg]; exact (below_size (au70)) : w.heap.size ≤ gb161)); have n5_ := Aside0.mk ((by rw [hg]; exact Nat.ne_of_lt (blk_lt (g := gb160) (o := .cells #[.slice none 0 0, .slice none 0 0, .slice none 0 0, .int .i64 0] 25 (0, 0)) (au31)) : gb160 ≠ gb161)); have n6_ := Aside0.mk ((by rw [hg]; exact Nat.ne_of_gt (blk_lt (g := gb160) (o := .cells #[.slice none 0 0, .slice none 0 0, .slice none 0 0, .int .i64 0] 25 (0, 0)) (au31)) : gb161 ≠ gb160)); clear BK160; clear HB; have BK160 := n0_; have HB := n1_; have BK161 := n2_; have GW161 := n3_; have GE161 := n4_; have NB160_161 := n5_; have NB161_160 := n6_; clear n0_ n1_ n2_ n3_ n4_ n5_ n6_; clear hb hbox hg; have hnb6 := NB161_160.out; have hnc6 := NB160_161.out; obtain ⟨hcz7_0, hcz7_1, hcz7_2, hcz7_3, hfz7_0, hfz7_1, hfz7_2, hfz7_3⟩ := blk_all4 BK161.out) | ((with_reducible refine gate_dst (N := 10) rfl ?_); refine Kd.R_lit k70 _ 70 ?hg (N := 10) ?hd (xs := ([(⟨30, 1, 0⟩ : S70)] : List (S70))) (inner := [.int .u8 30, .int .i64 1, .int .i64 0]) (ok := fun _ => True) (okp := fun _ => True) ?hr ?hp (fun _ hk => hk) trivial (Below.refl _ _) (Nat.le_refl _) (by simp) ?_; (case hd => rfl); (case hg => rfl); (case hr => first | (go_simp; done) | (go_simp; rfl)); (case hp => exact (Reps.c3 (show Kd.M k70 _ _ _ (⟨30, 1, 0⟩ : S70) [.int .u8 30, .int .i64 1, .int .i64 0] from (k70_mkM _ _ _ (⟨30, 1, 0⟩ : S70) )) (Reps.none _ _))); intro v163 w8 ho9 hb hg_ hnew_; clear hg_ hnew_; (first | rw [← Ny162.out] at ho9 | (simp only [Int.reduceToNat] at ho9; rw [← Ny162.out] at ho9)); have n0_ := Aside0.mk (Kd.R_lower (Kd.R_newM (M := fun k_ => (w.heap.size ≤ k_)) ho9 (below_size (au3)) (fun k_ h_ => h_)) (below_size (au3))); have n1_ := Aside0.mk (blk_below (g := gb160) (o := .cells #[.slice none 0 0, .slice none 0 0, .slice none 0 0, .int .i64 0] 25 (0, 0)) (by (with_reducible repeat (first | refine blk_drewN ?_ _ | refine blk_drew ?_ | refine blk_alloc ?_ _)); refine blk_far ?_ NB160_161.out _; (with_reducible repeat (first | refine blk_drewN ?_ _ | refine blk_drew ?_ | refine blk_alloc ?_ _)); refine blk_far ?_ NB160_161.out _; (with_reducible repeat (first | refine blk_drewN ?_ _ | refine blk_drew ?_ | refine blk_alloc ?_ _)); refine blk_far ?_ NB160_161.out _; (with_reducible repeat (first | refine blk_drewN ?_ _ | refine blk_drew ?_ | refine blk_alloc ?_ _)); refine blk_far ?_ NB160_161.out _; (with_reducible repeat (first | refine blk_drewN ?_ _ | refine blk_drew ?_ | refine blk_alloc ?_ _)); exact BK160.out) hb); have n2_ := Aside0.mk (blk_below (g := gb161) (o := .cells #[.slice none 0 0, .slice none 0 0, .slice none 0 0, .int .i64 (-1)] 25 (0, 0)) (by (with_reducible repeat (first | refine blk_drewN ?_ _ | refine blk_drew ?_ | refine blk_alloc ?_ _)); refine blk_put (cs := #[.slice none 0 0, .slice none 0 0, .slice none 0 0, .int .i64 0]) ?_ 3 _ rfl; (with_reducible repeat (first | refine blk_drewN ?_ _ | refine blk_drew ?_ | refine blk_alloc ?_ _)); refine blk_put (cs := #[.slice none 0 0, .slice none 0 0, .slice none 0 0, .int .i64 0]) ?_ 2 _ rfl; (with_reducible repeat (first | refine blk_drewN ?_ _ | refine blk_drew ?_ | refine blk_alloc ?_ _)); refine blk_put (cs := #[.slice none 0 0, .slice none 0 0, .slice none 0 0, .int .i64 0]) ?_ 1 _ rfl; (with_reducible repeat (first | refine blk_drewN ?_ _ | refine blk_drew ?_ | refine blk_alloc ?_ _)); refine blk_put (cs := #[.slice none 0 0, .slice none 0 0, .slice none 0 0, .int .i64 0]) ?_ 0 _ rfl; (with_reducible repeat (first | refine blk_drewN ?_ _ | refine blk_drew ?_ | refine blk_alloc ?_ _)); exact BK161.out) hb); have n3_ := Aside0.mk (below_step (au3) hb); clear BK160; clear BK161; clear HB; have HO164 := n0_; have BK160 := n1_; have BK161 := n2_; have HB := n3_; clear n0_ n1_ n2_ n3_; clear hb ho9) | ((with_reducible refine gate_dst (N := 12) rfl ?_); refine Kd.R_lit k70 _ 70 ?hg (N := 12) ?hd (xs := ([(⟨5, 0, 0⟩ : S70)] : List (S70))) (inner := [.int .u8 5, .int .i64 0, .int .i64 0]) (ok := fun _ => True) (okp := fun _ => True) ?hr ?hp (fun _ hk => hk) trivial (Below.refl _ _) (Nat.le_refl _) (by simp) ?_; (case hd => rfl); (case hg => rfl); (case hr => first | (go_simp; done) | (go_simp; rfl)); (case hp => exact (Reps.c3 (show Kd.M k70 _ _ _ (⟨5, 0, 0⟩ : S70) [.int .u8 5, .int .i64 0, .int .i64 0] from (k70_mkM _ _ _ (⟨5, 0, 0⟩ : S70) )) (Reps.none _ _))); intro v166 w10 ho11 hb hg_ hnew_; clear hg_ hnew_; (first | rw [← Ny165.out] at ho11 | (simp only [Int.reduceToNat] at ho11; rw [← Ny165.out] at ho11)); have n0_ := Aside0.mk (Kd.R_elder' (au72) (Kd.R_base ho11) hb); have n1_ := Aside0.mk (Kd.R_lower (Kd.R_new' (Kd.R_newM (M := fun k_ => (w.heap.size ≤ k_)) ho11 (below_size (au3)) (fun k_ h_ => h_)) (Kd.R_lt (au72))) (below_size (au3))); have n2_ := Aside0.mk (blk_below (g := gb160) (o := .cells #[.slice none 0 0, .slice none 0 0, .slice none 0 0, .int .i64 0] 25 (0, 0)) (au31) hb); have n3_ := Aside0.mk (blk_below (g := gb161) (o := .cells #[.slice none 0 0, .slice none 0 0, .slice none 0 0, .int .i64 (-1)] 25 (0, 0)) (au40) hb); have n4_ := Aside0.mk (below_step (au3) hb); clear HO164; clear BK160; clear BK161; clear HB; have HO164 := n0_; have HO167 := n1_; have BK160 := n2_; have BK161 := n3_; have HB := n4_; clear n0_ n1_ n2_ n3_ n4_; clear hb ho11) | ((with_reducible refine gate_dst (N := 14) rfl ?_); refine Kd.R_lit k70 _ 70 ?hg (N := 14) ?hd (xs := ([(⟨0, 0, 0⟩ : S70)] : List (S70))) (inner := [.int .u8 0, .int .i64 0, .int .i64 0]) (ok := fun _ => True) (okp := fun _ => True) ?hr ?hp (fun _ hk => hk) trivial (Below.refl _ _) (Nat.le_refl _) (by simp) ?_; (case hd => rfl); (case hg => rfl); (case hr => first | (go_simp; done) | (go_simp; rfl)); (case hp => exact (Reps.c3 (show Kd.M k70 _ _ _ (⟨0, 0, 0⟩ : S70) [.int .u8 0, .int .i64 0, .int .i64 0] from (k70_mkM _ _ _ (⟨0, 0, 0⟩ : S70) )) (Reps.none _ _))); intro v169 w12 ho13 hb hg_ hnew_; clear hg_ hnew_; (first | rw [← Ny168.out] at ho13 | (simp only [Int.reduceToNat] at ho13; rw [← Ny168.out] at ho13)); have n0_ := Aside0.mk (Kd.R_elder' (au72) (Kd.R_base ho13) hb); have n1_ := Aside0.mk (Kd.R_elder' (by (with_reducible repeat (first | apply Kd.R_alloc | apply Kd.R_drewN | apply Kd.R_drew)); first | exact HO167.out | exact Kd.R_mono (HO167.out) (fun _ h_ => h_.2)) (Kd.R_base ho13) hb); have n2_ := Aside0.mk (Kd.R_lower (Kd.R_new' (Kd.R_new' (Kd.R_newM (M := fun k_ => (w.heap.size ≤ k_)) ho13 (below_size (au3)) (fun k_ h_ => h_)) (Kd.R_lt (au72))) (Kd.R_lt (by (with_reducible repeat (first | apply Kd.R_alloc | apply Kd.R_drewN | apply Kd.R_drew)); first | exact HO167.out | exact Kd.R_mono (HO167.out) (fun _ h_ => h_.2)))) (below_size (au3))); have n3_ := Aside0.mk (blk_below (g := gb160) (o := .cells #[.slice none 0 0, .slice none 0 0, .slice none 0 0, .int .i64 0] 25 (0, 0)) (au31) hb); have n4_ := Aside0.mk (blk_below (g := gb161) (o := .cells #[.slice none 0 0, .slice none 0 0, .slice none 0 0, .int .i64 (-1)] 25 (0, 0)) (au40) hb); have n5_ := Aside0.mk (below_step (au3) hb); clear HO164; clear HO167; clear BK160; clear BK161; clear HB; have HO164 := n0_; have HO167 := n1_; have HO170 := n2_; have BK160 := n3_; have BK161 := n4_; have HB := n5_; clear n0_ n1_ n2_ n3_ n4_ n5_; clear hb ho13; obtain ⟨Ao14, co14, eo14⟩ := Kd.R_slice HO164.out; subst eo14; obtain ⟨Ao15, co15, eo15⟩ := Kd.R_slice HO167.out; subst eo15; obtain ⟨Ao16, co16, eo16⟩ := Kd.R_slice HO170.out; subst eo16) | ((with_reducible refine gate_dst (N := 15) rfl ?_); refine Kd.N_lit (Kd.slice 70 k70) _ 50 ?hg (N' := 15) ?hd (xs := ([y162, y165, y168] : List (List (S70)))) (inner := [.slice Ao14 y162.length co14, .slice Ao15 y165.length co15, .slice Ao16 y168.length co16]) (ok := (fun k_ => (w.heap.size ≤ k_) ∧ k_ ≠ gb160 ∧ k_ ≠ gb161)) (okp := (fun k_ => (w.heap.size ≤ k_) ∧ k_ ≠ gb160 ∧ k_ ≠ gb161)) ?hr ?hp (fun _ hk => hk) ((show ∀ k_, w12.heap.size ≤ k_ → (fun k_ => (w.heap.size ≤ k_) ∧ k_ ≠ gb160 ∧ k_ ≠ gb161) k_ from fun k_ hk => ⟨(Nat.le_trans (below_size (au3)) hk), Kd.freshB (g := gb160) (o := .cells #[.slice none 0 0, .slice none 0 0, .slice none 0 0, .int .i64 0] 25 (0, 0)) (au31) k_ hk, Kd.freshB (g := gb161) (o := .cells #[.slice none 0 0, .slice none 0 0, .slice none 0 0, .int .i64 (-1)] 25 (0, 0)) (au40) k_ hk⟩) _ (Nat.le_refl _)) (Below.refl _ _) (Nat.le_refl _) (by simp) ?_; (case hd => rfl); (case hg => rfl); (case hr => first | (go_simp; done) | (go_simp; rfl)); (case hp => exact (Reps.one (show Kd.FK (Kd.slice 70 k70) _ _ y162 [.slice Ao14 y162.length co14] from (Kd.FK_slice_mk (Kd.R_reads' (Kd.R_mono (ok' := (fun k_ => (w.heap.size ≤ k_) ∧ k_ ≠ gb160 ∧ k_ ≠ gb161)) (Kd.R_types (Kd.R_types (HO164.out) BK160.out (by decide)) BK161.out (by decide)) (fun k_ hk => ⟨hk.1.1.1.1.1, ⟨hk.1.2, hk.2⟩⟩))).2.1 (Kd.R_F (Kd.R_mono (ok' := (fun k_ => (w.heap.size ≤ k_) ∧ k_ ≠ gb160 ∧ k_ ≠ gb161)) (Kd.R_types (Kd.R_types (HO164.out) BK160.out (by decide)) BK161.out (by decide)) (fun k_ hk => ⟨hk.1.1.1.1.1, ⟨hk.1.2, hk.2⟩⟩))))) (Reps.one (show Kd.FK (Kd.slice 70 k70) _ _ y165 [.slice Ao15 y165.length co15] from (Kd.FK_slice_mk (Kd.R_reads' (Kd.R_mono (ok' := (fun k_ => (w.heap.size ≤ k_) ∧ k_ ≠ gb160 ∧ k_ ≠ gb161)) (Kd.R_types (Kd.R_types (HO167.out) BK160.out (by decide)) BK161.out (by decide)) (fun k_ hk => ⟨hk.1.1.1.1.1, ⟨hk.1.2, hk.2⟩⟩))).2.1 (Kd.R_F (Kd.R_mono (ok' := (fun k_ => (w.heap.size ≤ k_) ∧ k_ ≠ gb160 ∧ k_ ≠ gb161)) (Kd.R_types (Kd.R_types (HO167.out) BK160.out (by decide)) BK161.out (by decide)) (fun k_ hk => ⟨hk.1.1.1.1.1, ⟨hk.1.2, hk.2⟩⟩))))) (Reps.one (show Kd.FK (Kd.slice 70 k70) _ _ y168 [.slice Ao16 y168.length co16] from (Kd.FK_slice_mk (Kd.R_reads' (Kd.R_mono (ok' := (fun k_ => (w.heap.size ≤ k_) ∧ k_ ≠ gb160 ∧ k_ ≠ gb161)) (Kd.R_types (Kd.R_types (HO170.out) BK160.out (by decide)) BK161.out (by decide)) (fun k_ hk => ⟨hk.1.1.1.1.1, ⟨hk.1.2, hk.2⟩⟩))).2.1 (Kd.R_F (Kd.R_mono (ok' := (fun k_ => (w.heap.size ≤ k_) ∧ k_ ≠ gb160 ∧ k_ ≠ gb161)) (Kd.R_types (Kd.R_types (HO170.out) BK160.out (by decide)) BK161.out (by decide)) (fun k_ hk => ⟨hk.1.1.1.1.1, ⟨hk.1.2, hk.2⟩⟩))))) (Reps.none _ _))))); intro v172 w17 ho18 hb hg_ hnew_; clear hg_ hnew_; (first | rw [← Ny171.out] at ho18 | (simp only [Int.reduceToNat] at ho18; rw [← Ny171.out] at ho18)); have n0_ := Aside0.mk (Kd.N_lower ho18 (below_size (au3))); have n1_ := Aside0.mk (blk_below (g := gb160) (o := .cells #[.slice none 0 0, .slice none 0 0, .slice none 0 0, .int .i64 0] 25 (0, 0)) (au31) hb); have n2_ := Aside0.mk (blk_below (g := gb161) (o := .cells #[.slice none 0 0, .slice none 0 0, .slice none 0 0, .int .i64 (-1)] 25 (0, 0)) (au40) hb); have n3_ := Aside0.mk (below_step (au3) hb); clear BK160; clear BK161; clear HB; clear HO164; clear HO167; clear HO170; have HO173 := n0_; have BK160 := n1_; have BK161 := n2_; have HB := n3_; clear n0_ n1_ n2_ n3_; clear hb ho18))
 (try simp only [Act.put, List.setIfInBounds_toArray, List.set_cons_zero, List.set_cons_succ])
 go_cut [] (fun wc => ∃ (kq : Nat) (x6_2 : List (List (S70))), Aside0 (capstanlaw13_three.j0 kq a0 x6_2 (-1) = some (r1, r2, r3, r4)) ∧ Aside0 (kq ≤ k) ∧ Aside0 (Kd.N (Kd.slice 70 k70) 50 wc w.heap.size (fun k_ => (w.heap.size ≤ k_) ∧ k_ ≠ gb160 ∧ k_ ≠ gb161) v172 x6_2) ∧ Aside0 (wc.heap[gb160]? = some (.cells #[(.slice none 0 0), (.slice none 0 0), (.slice none 0 0), .int .i64 0] 25 (0, 0))) ∧ Aside0 (wc.heap[gb161]? = some (.cells #[(.slice none 0 0), (.slice none 0 0), (.slice none 0 0), .int .i64 (-1)] 25 (0, 0))) ∧ Aside0 (Below w.heap.size w wc))
 case first =>
  have H := HC3.out
  clear HC3
  by_cases c19 : a1 ≥ 0
  ·
   rw [if_pos c19] at H
   have c19b0 : decide (0 ≤ a1) = true := decide_eq_true c19
   clear c19
   (first | rw [c19b0] | (simp only [i64_w, i32_w]; rw [c19b0]) | skip)
   obtain ⟨y174, hy174⟩ : ∃ y_ : List (S70), y_ = (([(⟨30, a1, 0⟩ : S70)] : List (S70))) := ⟨_, rfl⟩
   replace H : (if 2 < (y171.length : Int) then (capstanlaw13_three.j0 k a0 (y171.set (2 : Int).toNat y174) (-1)) else (none)) = some (r1, r2, r3, r4) := by first | (rw [hy174]; with_reducible exact H) | (have H2_ := (Option.bind_some _ _).symm.trans H; rw [hy174]; with_reducible exact H2_) | (have H2_ := (Option.bind_some _ _).symm.trans H; with_reducible exact H2_) | with_reducible exact H | (rw [hy174]; exact H) | exact H
   have Ny174 := Aside0.mk hy174
   clear hy174
   by_cases c20 : 2 < (y171.length : Int)
   ·
    rw [if_pos c20] at H
    have c20b0 : decide (2 < (y171.length : Int)) = true := decide_eq_true c20
    have c20b1 : decide (2 < y171.length) = true := decide_eq_true (by omega)
    clear c20
    obtain ⟨y177, hy177⟩ : ∃ y_ : List (List (S70)), y_ = (y171.set (2 : Int).toNat y174) := ⟨_, rfl⟩
    replace H : (capstanlaw13_three.j0 k a0 y177 (-1)) = some (r1, r2, r3, r4) := by first | (rw [hy177]; with_reducible exact H) | (have H2_ := (Option.bind_some _ _).symm.trans H; rw [hy177]; with_reducible exact H2_) | (have H2_ := (Option.bind_some _ _).symm.trans H; with_reducible exact H2_) | with_reducible exact H | (rw [hy177]; exact H) | exact H
    have Ny177 := Aside0.mk hy177
    clear hy177
    have H' := Aside0.mk H
    clear H
    go_wp2_with (first | ((with_reducible refine gate_dst (N := 21) rfl ?_); refine Kd.R_lit k70 _ 70 ?hg (N := 21) ?hd (xs := ([(⟨30, a1, 0⟩ : S70)] : List (S70))) (inner := [.int .u8 30, .int .i64 a1, .int .i64 0]) (ok := fun _ => True) (okp := fun _ => True) ?hr ?hp (fun _ hk => hk) trivial (Below.refl _ _) (Nat.le_refl _) (by simp) ?_; (case hd => rfl); (case hg => rfl); (case hr => first | (go_simp; done) | (go_simp; rfl)); (case hp => exact (Reps.c3 (show Kd.M k70 _ _ _ (⟨30, a1, 0⟩ : S70) [.int .u8 30, .int .i64 a1, .int .i64 0] from (k70_mkM _ _ _ (⟨30, a1, 0⟩ : S70) )) (Reps.none _ _))); intro v175 w22 ho23 hb hg_ hnew_; clear hg_ hnew_; (first | rw [← Ny174.out] at ho23 | (simp only [Int.reduceToNat] at ho23; rw [← Ny174.out] at ho23)); have n0_ := Aside0.mk (Kd.N_elder' (au92) (Kd.R_base ho23) hb); have n1_ := Aside0.mk (Kd.R_lower (Kd.R_newM (M := fun k_ => (w.heap.size ≤ k_)) ho23 (below_size (au3)) (fun k_ h_ => h_)) (below_size (au3))); have n2_ := Aside0.mk (blk_below (g := gb160) (o := .cells #[.slice none 0 0, .slice none 0 0, .slice none 0 0, .int .i64 0] 25 (0, 0)) (au31) hb); have n3_ := Aside0.mk (blk_below (g := gb161) (o := .cells #[.slice none 0 0, .slice none 0 0, .slice none 0 0, .int .i64 (-1)] 25 (0, 0)) (au40) hb); have n4_ := Aside0.mk (below_step (au3) hb); clear HO173; clear BK160; clear BK161; clear HB; have HO173 := n0_; have HO176 := n1_; have BK160 := n2_; have BK161 := n3_; have HB := n4_; clear n0_ n1_ n2_ n3_ n4_; clear hb ho23; have p21 : 0 ≤ (2 : Int) := (by omega); have q21 : (2 : Int) < ((y171.length : Int) : Int) := of_decide_eq_true (au10); have qi21 : (2 < y171.length) = True := eq_true (by omega); obtain ⟨go21, co21, eo21, gb21, gl21, cl21, HG21⟩ := Kd.N_form HO173.out (by omega); (first | cases eo21 | (injection eo21 with ea_ en_ ec_; (first | subst ea_ | (injection ea_ with ea_; subst ea_)); subst ec_; clear en_)); have GB21 := Aside0.mk gb21; have GG21 := Aside0.mk HG21; clear gb21 gl21 HG21; obtain ⟨ce21, hcl21, hM21, hcc21, hfr21⟩ := Kd.N_elem HO173.out [] (2 : Int) p21 q21; obtain ⟨ua21_0, uc21_0, rfl, ul21_0, ge21_0⟩ := Kd.FK_slice_open hM21; have hx21_0 := hcc21 0 _ rfl; have hf21_0 := hfr21 0; (try simp only [show ((Kd.slice 70 k70)).sz = 1 from rfl, Nat.mul_one, Nat.add_zero] at hx21_0); (try simp only [show ((Kd.slice 70 k70)).sz = 1 from rfl, Nat.mul_one, Nat.add_zero] at hf21_0); clear hcl21 hcc21 hfr21 hM21; (try rw [show ((2 : Int)).toNat = 2 from rfl] at hx21_0); (try simp only [Nat.reduceMul, Nat.zero_mul, Nat.zero_add, Nat.reduceAdd] at hx21_0); (try rw [show ((2 : Int)).toNat = 2 from rfl] at hf21_0); (try simp only [Nat.reduceMul, Nat.zero_mul, Nat.zero_add, Nat.reduceAdd] at hf21_0); replace p21 := eq_true p21; replace q21 := eq_true q21; have n_ := Aside0.mk (Kd.N_mono (ok' := (fun k_ => (w.heap.size ≤ k_) ∧ some k_ ≠ (v175 : Value).ownBlock ∧ k_ ≠ gb160 ∧ k_ ≠ gb161)) HO173.out (fun k_ hk => ⟨hk.1.1, ⟨hk.2, ⟨hk.1.2.1, hk.1.2.2⟩⟩⟩)); clear HO173; have HO173 := n_; clear n_; have HX24 := Aside0.mk (show Kd.N (Kd.slice 70 k70) 50 w22 w.heap.size (fun k_ => (w.heap.size ≤ k_) ∧ k_ ≠ gb160 ∧ k_ ≠ gb161) (.slice (some ⟨go21, 0, none⟩) y171.length co21) y171 from (by (with_reducible repeat (first | apply Kd.N_alloc | apply Kd.N_drewN | apply Kd.N_drew)); first | exact Kd.N_mono HO173.out (fun _ hk => ⟨hk.1, ⟨hk.2.2.1, hk.2.2.2⟩⟩) | exact Kd.N_mono (Kd.N_mono HO173.out (fun _ hk => ⟨hk.1, ⟨hk.2.2.1, hk.2.2.2⟩⟩)) (fun _ h_ => h_.2))); obtain ⟨ce24, hcl24, hM24, hcc24, hfr24⟩ := Kd.N_elem HX24.out [] (2 : Int) (by omega) (by have h_ : (2 : Int) < ((y171.length : Int) : Int) := of_decide_eq_true (au10); first | exact h_ | (have e_ := (Kd.N_reads' HO173.out).1; omega) | simpa using h_); obtain ⟨ua24_0, uc24_0, rfl, ul24_0, ge24_0⟩ := Kd.FK_slice_open hM24; have HP24 := Kd.N_seg HX24.out (2 : Int) (by omega) (by have h_ : (2 : Int) < ((y171.length : Int) : Int) := of_decide_eq_true (au10); first | exact h_ | (have e_ := (Kd.N_reads' HO173.out).1; omega) | simpa using h_) (seg := [v175]) (j := 0) hcl24 hcc24 (show 1 ≤ 1 from by decide) (x' := y174) (by obtain ⟨Ax_, cx_, ex_⟩ := Kd.R_slice HO176.out; have HX_ := HO176.out; rw [ex_] at HX_ ⊢; exact Kd.FK_slice_mk (Kd.R_reads' (Kd.R_mono (ok' := (fun k_ => ((fun k_ => (w.heap.size ≤ k_) ∧ k_ ≠ gb160 ∧ k_ ≠ gb161)) k_ ∧ k_ ≠ go21)) (Kd.R_types (Kd.R_types (Kd.R_apart' (HX_) (Kd.N_typed HO173.out) (by decide)) BK160.out (by decide)) BK161.out (by decide)) (fun k_ hk => ⟨⟨hk.1.1.1.1, ⟨hk.1.2, hk.2⟩⟩, fun e_ => (hk.1.1.2) (by rw [e_]; rfl)⟩))).2.1 (Kd.R_F (Kd.R_mono (ok' := (fun k_ => ((fun k_ => (w.heap.size ≤ k_) ∧ k_ ≠ gb160 ∧ k_ ≠ gb161)) k_ ∧ k_ ≠ go21)) (Kd.R_types (Kd.R_types (Kd.R_apart' (HX_) (Kd.N_typed HO173.out) (by decide)) BK160.out (by decide)) BK161.out (by decide)) (fun k_ hk => ⟨⟨hk.1.1.1.1, ⟨hk.1.2, hk.2⟩⟩, fun e_ => (hk.1.1.2) (by rw [e_]; rfl)⟩)))) (fun _ hk => hk); have hx24_0 := hcc24 0 _ rfl; (try simp only [show ((Kd.slice 70 k70)).sz = 1 from rfl, Nat.mul_one, Nat.add_zero] at hx24_0); (try rw [show ((2 : Int)).toNat = 2 from rfl] at hx24_0); (try simp only [Nat.reduceMul, Nat.zero_mul, Nat.zero_add, Nat.reduceAdd] at hx24_0); have hf24_0 := hfr24 0; (try simp only [show ((Kd.slice 70 k70)).sz = 1 from rfl, Nat.mul_one, Nat.add_zero] at hf24_0); (try rw [show ((2 : Int)).toNat = 2 from rfl] at hf24_0); (try simp only [Nat.reduceMul, Nat.zero_mul, Nat.zero_add, Nat.reduceAdd] at hf24_0); clear hcl24 hcc24 hfr24 hM24; (try simp only [show ((Kd.slice 70 k70)).sz = 1 from rfl, Nat.mul_one, Nat.add_zero] at HP24); (try simp only [show ((Kd.slice 70 k70)).sz = 1 from rfl, Nat.mul_one, Nat.add_zero] at HP24); obtain ⟨Ax_, cx_, ex_⟩ := Kd.R_slice HO176.out; have EX_ := Aside0.mk ex_; clear ex_; rw [EX_.out]) | ((with_reducible refine gate_store (t := 50) (p := 22) rfl ?_); refine store_event (t := 50) (p := 22) (v := ?vo_w25) (w1 := (w22.setCell ⟨go21, 2, none⟩ (v175))) ?hg ?ho ?hn ?hr ?_; (case ho => rfl); (case hg => rfl); (case hn => rfl); (case hr => first | (rw [EX_.out]; go_simp; done) | (rw [EX_.out]; go_simp; rfl)); intro w25 hw; have hg : w22.grownBy w25 (some go21) := (by rw [hw]; exact HP24.2); have hp_ : Kd.N (Kd.slice 70 k70) 50 w25 w.heap.size (fun k_ => (w.heap.size ≤ k_) ∧ k_ ≠ gb160 ∧ k_ ≠ gb161) (.slice (some ⟨go21, 0, none⟩) y171.length co21) y177 := (by rw [hw, Ny177.out]; exact HP24.1); clear HP24; have n0_ := Aside0.mk (blk_grown (g := gb160) (o := .cells #[.slice none 0 0, .slice none 0 0, .slice none 0 0, .int .i64 0] 25 (0, 0)) (au31) hg (Kd.N_ne HO173.out BK160.out (by decide))); have n1_ := Aside0.mk (blk_grown (g := gb161) (o := .cells #[.slice none 0 0, .slice none 0 0, .slice none 0 0, .int .i64 (-1)] 25 (0, 0)) (au40) hg (Kd.N_ne HO173.out BK161.out (by decide))); have n2_ := Aside0.mk (hp_); have n3_ := Aside0.mk ((by rw [hw]; exact below_set (HB.out) GB21.out : Below w.heap.size w w25)); clear BK160; clear BK161; clear HO173; clear HB; clear HO176; have BK160 := n0_; have BK161 := n1_; have HO173 := n2_; have HB := n3_; clear n0_ n1_ n2_ n3_; clear hg hw hp_))
    go_meet
    case rel => exact ⟨_, (y177), H', ⟨by first | omega | exact Nat.le_refl _⟩, ⟨au92⟩, ⟨au31⟩, ⟨au40⟩, ⟨au3⟩⟩
   ·
    rw [if_neg c20] at H
    exact absurd H (by simp)
  ·
   rw [if_neg c19] at H
   have c19b0 : decide (0 ≤ a1) = false := decide_eq_false c19
   clear c19
   (first | rw [c19b0] | (simp only [i64_w, i32_w]; rw [c19b0]) | skip)
   have H' := Aside0.mk H
   clear H
   go_wp2
   go_meet
   case rel => exact ⟨_, (y171), H', ⟨by first | omega | exact Nat.le_refl _⟩, ⟨au92⟩, ⟨au31⟩, ⟨au40⟩, ⟨au3⟩⟩
 case rest =>
  clear HC3
  try clear c1
  try clear c2
  try clear p2
  try clear q2
  try clear hx2
  try clear qi2
  try clear hf2
  try clear c3
  try clear c5
  try clear c6
  try clear c19
  try clear c19b0
  try clear c20
  try clear c20b0
  try clear c20b1
  try clear c21
  try clear p21
  try clear q21
  try clear hx21
  try clear qi21
  try clear hf21
  try clear c24
  try clear hx24
  try clear hf24
  try clear hcz7_0
  try clear hcz7_1
  try clear hcz7_2
  try clear hcz7_3
  try clear hfz7_0
  try clear hfz7_1
  try clear hfz7_2
  try clear hfz7_3
  try clear hx21_0
  try clear hx24_0
  try clear p21
  try clear q21
  obtain ⟨kq, x6_2, HA, HJ2, HO_6, BK160, BK161, HB⟩ := hcut
  cases kq with
  | zero => exact absurd HA.out (by simp [capstanlaw13_three.j0])
  | succ kj2 =>
   have H := HA.out
   clear HA
   simp only [capstanlaw13_three.j0] at H
   have H' := Aside0.mk H
   clear H
   go_wp2
   go_loopg [7] kj2 (fun kq v7 w' => ∃ (x7_2 : Int) (x162002_2 : List (S52)) (u162002 : Value), v7 = .int .i64 x7_2 ∧ Aside0 (capstanlaw13_three.l0 kq a0 x6_2 x7_2 x162002_2 (-1) = some (r1, r2, r3, r4)) ∧ Aside0 (kq ≤ kj2) ∧ Aside0 (Kd.N (Kd.slice 70 k70) 50 w' w.heap.size (fun k_ => (w.heap.size ≤ k_) ∧ some k_ ≠ (u162002 : Value).ownBlock ∧ k_ ≠ gb160 ∧ k_ ≠ gb161) v172 x6_2) ∧ Aside0 (Kd.N k52 52 w' w.heap.size (fun k_ => (w.heap.size ≤ k_) ∧ some k_ ≠ (v172 : Value).ownBlock ∧ k_ ≠ gb160 ∧ k_ ≠ gb161) u162002 x162002_2) ∧ Aside0 (w'.heap[gb160]? = some (.cells #[(.slice none 0 0), (.slice none 0 0), (.slice none 0 0), .int .i64 0] 25 (0, 0))) ∧ Aside0 (w'.heap[gb161]? = some (.cells #[(.slice none 0 0), (.slice none 0 0), u162002, .int .i64 (-1)] 25 (0, 0))) ∧ Aside0 (Below w.heap.size w w'))
   case atStart => exact ⟨(0), (([] : List (S52))), (.slice none 0 0), (au37), H', ⟨Nat.le_refl _⟩, ⟨by (with_reducible repeat (first | apply Kd.N_alloc | apply Kd.N_drewN | apply Kd.N_drew)); first | exact Kd.N_mono HO_6.out (fun _ hk => ⟨hk.1, ⟨(by simp [Value.ownBlock]), ⟨hk.2.1, hk.2.2⟩⟩⟩) | exact Kd.N_mono (Kd.N_mono HO_6.out (fun _ hk => ⟨hk.1, ⟨(by simp [Value.ownBlock]), ⟨hk.2.1, hk.2.2⟩⟩⟩)) (fun _ h_ => h_.2)⟩, ⟨au57⟩, ⟨au31⟩, ⟨au40⟩, ⟨au3⟩⟩
   case round =>
    clear H'
    try clear c1
    try clear c2
    try clear p2
    try clear q2
    try clear hx2
    try clear qi2
    try clear hf2
    try clear c3
    try clear c5
    try clear c6
    try clear c19
    try clear c19b0
    try clear c20
    try clear c20b0
    try clear c20b1
    try clear c21
    try clear p21
    try clear q21
    try clear hx21
    try clear qi21
    try clear hf21
    try clear c24
    try clear hx24
    try clear hf24
    try clear hcz7_0
    try clear hcz7_1
    try clear hcz7_2
    try clear hcz7_3
    try clear hfz7_0
    try clear hfz7_1
    try clear hfz7_2
    try clear hfz7_3
    try clear hx21_0
    try clear hx24_0
    try clear p2
    try clear p21
    try clear q2
    try clear q21
    obtain ⟨x7_2, x162002_2, u162002, rfl, HA, HK2, HO_6, HO_162002, BK160, BK161, HB⟩ := hrel
    cases gk with
    | zero => exact absurd HA.out (by simp [capstanlaw13_three.l0])
    | succ k2 =>
     have H := HA.out
     clear HA
     simp only [capstanlaw13_three.l0] at H
     by_cases c26 : x7_2 < 3
     ·
      rw [if_pos c26] at H
      have c26b0 : decide (x7_2 < 3) = true := decide_eq_true c26
      clear c26
      by_cases c27 : 0 ≤ x7_2
      ·
       rw [if_pos c27] at H
       have c27b0 := eq_true c27
       have c27b1 : decide (0 ≤ x7_2) = true := decide_eq_true c27
       clear c27
       obtain ⟨ji28, hji28⟩ : ∃ j_ : Int, (shr .u8 a0 x7_2) = j_ := ⟨_, rfl⟩
       replace H : (if x7_2 < (x6_2.length : Int) then (if x162002_2.length < 1353245080339 then (capstanlaw13_three.l0 k2 a0 x6_2 (wrap64 (x7_2 + 1)) (x162002_2 ++ [(⟨([] : List Int), ([] : List Int), 0, ((Go.bits .and .u8 (ji28) 1) == 1), 0, 0, 0, rd_L5 x6_2 x7_2⟩ : S52)]) (-1)) else (none)) else (none)) = some (r1, r2, r3, r4) := by first | (rw [hji28] at H; exact H) | (simp only [hji28] at H ⊢; exact H)
       have hji28_ : (a0 / 2 ^ min x7_2.toNat 8) = ji28 := hji28
       have hji28z : x7_2 ≤ 8 → (a0 / 2 ^ x7_2.toNat) = ji28 := shr_small hji28
       by_cases c29 : x7_2 < (x6_2.length : Int)
       ·
        rw [if_pos c29] at H
        have c29b0 : decide (x7_2 < (x6_2.length : Int)) = true := decide_eq_true c29
        clear c29
        by_cases c30 : x162002_2.length < 1353245080339
        ·
         rw [if_pos c30] at H
         have LMc30 := Aside0.mk c30
         clear c30
         obtain ⟨y179, hy179⟩ : ∃ y_ : List (S52), y_ = (x162002_2 ++ [(⟨([] : List Int), ([] : List Int), 0, ((Go.bits .and .u8 (ji28) 1) == 1), 0, 0, 0, rd_L5 x6_2 x7_2⟩ : S52)]) := ⟨_, rfl⟩
         replace H : (capstanlaw13_three.l0 k2 a0 x6_2 (wrap64 (x7_2 + 1)) y179 (-1)) = some (r1, r2, r3, r4) := by first | (rw [hy179]; with_reducible exact H) | (have H2_ := (Option.bind_some _ _).symm.trans H; rw [hy179]; with_reducible exact H2_) | (have H2_ := (Option.bind_some _ _).symm.trans H; with_reducible exact H2_) | with_reducible exact H | (rw [hy179]; exact H) | exact H
         have Ny179 := Aside0.mk hy179
         clear hy179
         have H' := Aside0.mk H
         clear H
         try go_wp2
         (try (rw [drewN_self wr]; generalize hq_ : World.drewN wr _ = wr; have n0_ : Aside0 (Kd.N k52 52 wr w.heap.size (fun k_ => (w.heap.size ≤ k_) ∧ some k_ ≠ (v172 : Value).ownBlock ∧ k_ ≠ gb160 ∧ k_ ≠ gb161) u162002 x162002_2) := ⟨by rw [← hq_]; exact (by (with_reducible repeat (first | apply Kd.N_alloc | apply Kd.N_drewN | apply Kd.N_drew)); first | exact HO_162002.out | exact Kd.N_mono (HO_162002.out) (fun _ h_ => h_.2))⟩; have n1_ : Aside0 (Kd.N (Kd.slice 70 k70) 50 wr w.heap.size (fun k_ => (w.heap.size ≤ k_) ∧ some k_ ≠ (u162002 : Value).ownBlock ∧ k_ ≠ gb160 ∧ k_ ≠ gb161) v172 x6_2) := ⟨by rw [← hq_]; exact (by (with_reducible repeat (first | apply Kd.N_alloc | apply Kd.N_drewN | apply Kd.N_drew)); first | exact HO_6.out | exact Kd.N_mono (HO_6.out) (fun _ h_ => h_.2))⟩; have n2_ : Aside0 (wr.heap[gb160]? = some (.cells #[.slice none 0 0, .slice none 0 0, .slice none 0 0, .int .i64 0] 25 (0, 0))) := ⟨by rw [← hq_]; exact (au31)⟩; have n3_ : Aside0 (wr.heap[gb161]? = some (.cells #[.slice none 0 0, .slice none 0 0, u162002, .int .i64 (-1)] 25 (0, 0))) := ⟨by rw [← hq_]; exact (au40)⟩; have n4_ : Aside0 (Below w.heap.size w wr) := ⟨by rw [← hq_]; exact (au3)⟩; clear HO_162002 HO_6 BK160 BK161 HB hq_; have HO_162002 := n0_; have HO_6 := n1_; have BK160 := n2_; have BK161 := n3_; have HB := n4_; clear n0_ n1_ n2_ n3_ n4_))
         (try obtain ⟨hcu31_0, hcu31_1, hcu31_2, hcu31_3, hfu31_0, hfu31_1, hfu31_2, hfu31_3⟩ := blk_all4 BK160.out)
         (try obtain ⟨hcu32_0, hcu32_1, hcu32_2, hcu32_3, hfu32_0, hfu32_1, hfu32_2, hfu32_3⟩ := blk_all4 BK161.out)
         have n0_ := Aside0.mk (Kd.N_drew HO_6.out)
         have n1_ := Aside0.mk (Kd.N_drew HO_162002.out)
         have n2_ := Aside0.mk (blk_drew BK160.out)
         have n3_ := Aside0.mk (blk_drew BK161.out)
         have n4_ := Aside0.mk (below_drew1 HB.out)
         clear HO_6
         clear HO_162002
         clear BK160
         clear BK161
         clear HB
         have HO_6 := n0_
         have HO_162002 := n1_
         have BK160 := n2_
         have BK161 := n3_
         have HB := n4_
         clear n0_ n1_ n2_ n3_ n4_
         obtain ⟨Ao34, co34, eo34⟩ := Kd.N_slice HO_6.out
         (first | subst eo34 | (injection eo34 with f1_ f2_ f3_; have f4_ := f1_.symm; have f5_ := f3_.symm; clear f1_ f2_ f3_; subst f4_; subst f5_))
         have p178 : 0 ≤ (x7_2 : Int) := of_decide_eq_true (au10)
         have q178 : x7_2 < (x6_2.length : Int) := of_decide_eq_true (au10)
         obtain ⟨ad178, A178_0, c178_0, e178, hx178_0, hl178_0, hi178_0⟩ := at_L5 (Kd.N_reads' HO_6.out).2.2 x7_2 p178 q178
         cases e178
         obtain ⟨ce178, hce178, hMe178, hcc178⟩ := Kd.N_get HO_6.out [] x7_2 p178 (by first | exact q178 | exact of_decide_eq_true (au10) | (have e_ := (Kd.N_reads' HO_6.out).1; omega))
         obtain ⟨ua178_0, uc178_0, rfl, ul178_0, ge178_0⟩ := Kd.FK_slice_open hMe178
         have hv178_0 := hcc178 0 _ rfl
         rw [Nat.add_zero, show ((Kd.slice 70 k70)).sz = 1 from rfl, Nat.mul_one] at hv178_0
         replace hv178_0 := Option.some.inj (hv178_0.symm.trans hx178_0)
         injection hv178_0 with hva_ hvn_ hvc_
         rw [hva_] at ge178_0
         rw [hvc_] at ul178_0
         have HL178_0 := Aside0.mk (show Kd.V k70 70 _ w.heap.size _ _ (rd_L5 x6_2 x7_2) from Kd.V_mk ul178_0 ge178_0)
         clear hva_ hvn_ hvc_ ge178_0 ul178_0
         clear hcc178 hce178
         have HR178_0 := Aside0.mk hi178_0
         have HC178_0 := Aside0.mk hl178_0
         clear hi178_0 hl178_0
         replace p178 := eq_true p178
         replace q178 := eq_true q178
         refine start_ (n := 16) (S := fun w' => w'.cell? ⟨gb161, 0, none⟩ = some (.slice none 0 0) ∧ w'.cell? ⟨gb161, 1, none⟩ = some (.slice none 0 0) ∧ w'.cell? ⟨gb161, 2, none⟩ = some (u162002) ∧ w'.cell? ⟨gb161, 3, none⟩ = some (.int .i64 (-1)) ∧ w'.cell? (ad178.add (x7_2).toNat) = some (.slice A178_0 (rd_L5 x6_2 x7_2).length c178_0)) (ds := [13, 15]) #[false, false, false, false, false, false, false, false, false, false, false, false, false, false, false, false] (by kernel_rfl) rfl rfl ⟨(blk_cell BK161.out 0).trans rfl, (blk_cell BK161.out 1).trans rfl, (blk_cell BK161.out 2).trans rfl, (blk_cell BK161.out 3).trans rfl, hx178_0⟩ (fun hHeld => ?_); refine with_tabW capstanlaw13_three.tab8 capstanlaw13_three.bits8 (fun HT_ HW_ => ?_)
         generalize wr.drew = w33 at HO_6 HO_162002 BK160 BK161 HB HL178_0 HR178_0 hx178_0 hHeld ⊢
         refine pure_ (i := 0) (N := some 27) (v := ?_) (a' := ?_) #[true, false, false, false, false, false, false, false, false, false, false, false, false, false, false, false] rfl rfl (any_of HT_.out (by kernel_rfl)) (fun _ _ _ h => h) (Or.inl ⟨by rfl, ?_⟩) ?_ ?_
         rotate_left
         ·
          intro w'
          go_simp
          with_reducible rfl
         rotate_left
         ·
          simp only [Act.put, List.setIfInBounds_toArray, List.set_cons_zero, List.set_cons_succ, i64_w, i32_w]
          rfl
         refine pure_ (i := 2) (N := some 29) (v := ?_) (a' := ?_) #[true, false, true, false, false, false, false, false, false, false, false, false, false, false, false, false] rfl rfl (any_of HT_.out (by kernel_rfl)) (fun _ _ _ h => h) (Or.inl ⟨by rfl, ?_⟩) ?_ ?_
         rotate_left
         ·
          intro w'
          go_simp
          with_reducible rfl
         rotate_left
         ·
          simp only [Act.put, List.setIfInBounds_toArray, List.set_cons_zero, List.set_cons_succ, i64_w, i32_w]
          rfl
         refine pure_ (i := 3) (N := some 30) (v := ?_) (a' := ?_) #[true, false, true, true, false, false, false, false, false, false, false, false, false, false, false, false] rfl rfl (any_of HT_.out (by kernel_rfl)) (fun _ _ _ h => h) (Or.inl ⟨by rfl, ?_⟩) ?_ ?_
         rotate_left
         ·
          intro w'
          go_simp
          with_reducible rfl
         rotate_left
         ·
          simp only [Act.put, List.setIfInBounds_toArray, List.set_cons_zero, List.set_cons_succ, i64_w, i32_w]
          rfl
         refine pure_ (i := 4) (N := some 31) (v := ?_) (a' := ?_) #[true, false, true, true, true, false, false, false, false, false, false, false, false, false, false, false] rfl rfl (any_of HT_.out (by kernel_rfl)) (fun _ _ _ h => h) (Or.inl ⟨by rfl, ?_⟩) ?_ ?_
         rotate_left
         ·
          intro w'
          go_simp
          with_reducible rfl
         rotate_left
         ·
          simp only [Act.put, List.setIfInBounds_toArray, List.set_cons_zero, List.set_cons_succ, i64_w, i32_w]
          rfl
         refine pure_ (i := 5) (N := some 32) (v := ?_) (a' := ?_) #[true, false, true, true, true, true, false, false, false, false, false, false, false, false, false, false] rfl rfl (any_of HT_.out (by kernel_rfl)) (fun _ _ _ h => h) (Or.inl ⟨by rfl, ?_⟩) ?_ ?_
         rotate_left
         ·
          intro w'
          go_simp
          with_reducible rfl
         rotate_left
         ·
          simp only [Act.put, List.setIfInBounds_toArray, List.set_cons_zero, List.set_cons_succ, i64_w, i32_w]
          rfl
         refine pure_ (i := 6) (N := some 33) (v := ?_) (a' := ?_) #[true, false, true, true, true, true, true, false, false, false, false, false, false, false, false, false] rfl rfl (any_of HT_.out (by kernel_rfl)) (fun _ _ _ h => h) (Or.inl ⟨by rfl, ?_⟩) ?_ ?_
         rotate_left
         ·
          intro w'
          go_simp
          with_reducible rfl
         rotate_left
         ·
          simp only [Act.put, List.setIfInBounds_toArray, List.set_cons_zero, List.set_cons_succ, i64_w, i32_w]
          rfl
         refine pure_ (i := 7) (N := some 34) (v := ?_) (a' := ?_) #[true, false, true, true, true, true, true, true, false, false, false, false, false, false, false, false] rfl rfl (any_of HT_.out (by kernel_rfl)) (fun _ _ _ h => h) (Or.inl ⟨by rfl, ?_⟩) ?_ ?_
         rotate_left
         ·
          intro w'
          go_simp
          with_reducible rfl
         rotate_left
         ·
          simp only [Act.put, List.setIfInBounds_toArray, List.set_cons_zero, List.set_cons_succ, i64_w, i32_w]
          rfl
         refine pure_ (i := 8) (N := some 35) (v := ?_) (a' := ?_) #[true, false, true, true, true, true, true, true, true, false, false, false, false, false, false, false] rfl rfl (any_of HT_.out (by kernel_rfl)) (fun _ _ _ h => h) (Or.inl ⟨by rfl, ?_⟩) ?_ ?_
         rotate_left
         ·
          intro w'
          go_simp
          with_reducible rfl
         rotate_left
         ·
          simp only [Act.put, List.setIfInBounds_toArray, List.set_cons_zero, List.set_cons_succ, i64_w, i32_w]
          rfl
         refine pure_ (i := 9) (N := some 36) (v := ?_) (a' := ?_) #[true, false, true, true, true, true, true, true, true, true, false, false, false, false, false, false] rfl rfl (any_of HT_.out (by kernel_rfl)) (fun _ _ _ h => h) (Or.inl ⟨by rfl, ?_⟩) ?_ ?_
         rotate_left
         ·
          intro w'
          go_simp
          with_reducible rfl
         rotate_left
         ·
          simp only [Act.put, List.setIfInBounds_toArray, List.set_cons_zero, List.set_cons_succ, i64_w, i32_w]
          rfl
         refine take_ (i := 1) (N := some 28) (v := ?_) (a' := ?_) #[true, true, true, true, true, true, true, true, true, true, false, false, false, false, false, false] rfl rfl (take_ofW HT_.out HW_.out (by kernel_rfl)) (fun _ _ _ h => h) (Or.inl ⟨by rfl, ?_⟩) hHeld ?_ ?_
         rotate_left
         ·
          rintro w' ⟨s0, s1, s2, s3, s4⟩
          go_simp
          with_reducible rfl
         rotate_left
         ·
          simp only [Act.put, List.setIfInBounds_toArray, List.set_cons_zero, List.set_cons_succ, i64_w, i32_w]
          rfl
         refine take_ (i := 10) (N := some 37) (v := ?_) (a' := ?_) #[true, true, true, true, true, true, true, true, true, true, true, false, false, false, false, false] rfl rfl (take_ofW HT_.out HW_.out (by kernel_rfl)) (fun _ _ _ h => h) (Or.inl ⟨by rfl, ?_⟩) hHeld ?_ ?_
         rotate_left
         ·
          rintro w' ⟨s0, s1, s2, s3, s4⟩
          go_simp
          with_reducible rfl
         rotate_left
         ·
          simp only [Act.put, List.setIfInBounds_toArray, List.set_cons_zero, List.set_cons_succ, i64_w, i32_w]
          rfl
         refine pure_ (i := 11) (N := some 38) (v := ?_) (a' := ?_) #[true, true, true, true, true, true, true, true, true, true, true, true, false, false, false, false] rfl rfl (any_of HT_.out (by kernel_rfl)) (fun _ _ _ h => h) (Or.inl ⟨by rfl, ?_⟩) ?_ ?_
         rotate_left
         ·
          intro w'
          go_simp
          with_reducible rfl
         rotate_left
         ·
          simp only [Act.put, List.setIfInBounds_toArray, List.set_cons_zero, List.set_cons_succ, i64_w, i32_w]
          rfl
         refine one_ (i := 12) (N := some 39) #[true, true, true, true, true, true, true, true, true, true, true, true, true, false, false, false] rfl rfl (one_of HT_.out (by kernel_rfl)) (by decide) (fun K hK => ?_)
         refine value_ (w1 := ?_) (v := ?_) (by rfl) rfl ?_ ?_
         rotate_left 2
         ·
          go_simp
          constructor
          ·
           rfl
          ·
           rfl
         refine hK.out _ _ ⟨(blk_cell (blk_alloc BK161.out _) 0).trans rfl, (blk_cell (blk_alloc BK161.out _) 1).trans rfl, (blk_cell (blk_alloc BK161.out _) 2).trans rfl, (blk_cell (blk_alloc BK161.out _) 3).trans rfl, (World.cell?_alloc_lt _ _ _ (World.block_lt_of_cell? _ _ (hHeld.2.2.2.2))).trans (hHeld.2.2.2.2)⟩ (fun hHeld => ?_)
         clear hK K
         refine norm_ (a' := ?_) ?_ ?_
         rotate_left
         ·
          show Act.put _ (some 39) _ = _
          simp only [Act.put, List.setIfInBounds_toArray, List.set_cons_zero, List.set_cons_succ, i64_w, i32_w]
          rfl
         refine last_ (i := 13) (N := some 40) #[true, true, true, true, true, true, true, true, true, true, true, true, true, true, false, false] rfl rfl (one_of HT_.out (by kernel_rfl)) (by decide) (fun K hK => ?_)
         refine Kd.N_append_step k52 (w0 := w) w.heap.size (by rfl) (.tmp 28) (.tmp 39) 23 52 (.agg #[(.slice none 0 0), (.slice none 0 0), (.int .u8 0), (.bool false), (.int .i64 0), (.int .i64 0), (.int .i64 0), (.slice none 0 0)]) 104 rfl Try.underlying23 info52 rfl (by decide) (by omega) u162002 x162002_2 (⟨([] : List Int), ([] : List Int), 0, ((Go.bits .and .u8 (ji28) 1) == 1), 0, 0, 0, rd_L5 x6_2 x7_2⟩ : S52) [.slice none 0 0, .slice none 0 0, .int .u8 0, .bool ((Go.bits .and .u8 (ji28) 1) == 1), .int .i64 0, .int .i64 0, .int .i64 0, .slice A178_0 (rd_L5 x6_2 x7_2).length c178_0] (fun k_ => (w.heap.size ≤ k_) ∧ some k_ ≠ (.slice (some ad178) x6_2.length co34 : Value).ownBlock ∧ k_ ≠ gb160 ∧ k_ ≠ gb161) (fun k_ => ((fun k_ => (w.heap.size ≤ k_) ∧ some k_ ≠ (.slice (some ad178) x6_2.length co34 : Value).ownBlock ∧ k_ ≠ gb160 ∧ k_ ≠ gb161)) k_ ∧ some k_ ≠ (u162002 : Value).ownBlock) rfl rfl ?aP (fun _ hk => hk) ?aF ?aO ?aB ?aS ?aL ?_
         (case aP => exact (k52_mkF _ _ (⟨([] : List Int), ([] : List Int), 0, ((Go.bits .and .u8 (ji28) 1) == 1), 0, 0, 0, rd_L5 x6_2 x7_2⟩ : S52) (Nat.le_refl _) (Kd.F_nil _ _ _) (Nat.le_refl _) (Kd.F_nil _ _ _) (Kd.V_reads' (Kd.V_mono (ok' := (fun k_ => ((fun k_ => (w.heap.size ≤ k_) ∧ some k_ ≠ (.slice (some ad178) x6_2.length co34 : Value).ownBlock ∧ k_ ≠ gb160 ∧ k_ ≠ gb161)) k_ ∧ some k_ ≠ (u162002 : Value).ownBlock)) (HL178_0.out) (fun k_ hk => ⟨⟨hk.1.1, ⟨hk.2, ⟨hk.1.2.2.1, hk.1.2.2.2⟩⟩⟩, hk.1.2.1⟩))).2.1 (Kd.V_F (Kd.V_mono (ok' := (fun k_ => ((fun k_ => (w.heap.size ≤ k_) ∧ some k_ ≠ (.slice (some ad178) x6_2.length co34 : Value).ownBlock ∧ k_ ≠ gb160 ∧ k_ ≠ gb161)) k_ ∧ some k_ ≠ (u162002 : Value).ownBlock)) (HL178_0.out) (fun k_ hk => ⟨⟨hk.1.1, ⟨hk.2, ⟨hk.1.2.2.1, hk.1.2.2.2⟩⟩⟩, hk.1.2.1⟩)))))
         (case aB => exact (au3))
         (case aF => exact (fun k_ hk => ⟨(Nat.le_trans (below_size (au3)) hk), Kd.fresh' (Kd.N_lt (by (with_reducible repeat (first | apply Kd.N_alloc | apply Kd.N_drewN | apply Kd.N_drew)); first | exact HO_6.out | exact Kd.N_mono (HO_6.out) (fun _ h_ => h_.2))) k_ hk, Kd.freshB (g := gb160) (o := .cells #[.slice none 0 0, .slice none 0 0, .slice none 0 0, .int .i64 0] 25 (0, 0)) (au31) k_ hk, Kd.freshB (g := gb161) (o := .cells #[.slice none 0 0, .slice none 0 0, u162002, .int .i64 (-1)] 25 (0, 0)) (au40) k_ hk⟩))
         (case aO => exact (by (with_reducible repeat (first | apply Kd.N_alloc | apply Kd.N_drewN | apply Kd.N_drew)); first | exact HO_162002.out | exact Kd.N_mono (HO_162002.out) (fun _ h_ => h_.2)))
         (case aS => exact (below_size (au3)))
         (case aL => have := LMc30.out; omega)
         intro v180 w35 ho hb hg hat
         rw [← Ny179.out] at ho
         have n0_ := Aside0.mk (Kd.N_afterv (ok := (fun k_ => (w.heap.size ≤ k_) ∧ k_ ≠ gb160 ∧ k_ ≠ gb161)) (by (with_reducible repeat (first | apply Kd.N_alloc | apply Kd.N_drewN | apply Kd.N_drew)); first | exact Kd.N_mono HO_6.out (fun _ hk => ⟨⟨hk.1, ⟨hk.2.2.1, hk.2.2.2⟩⟩, hk.2.1⟩) | exact Kd.N_mono (Kd.N_mono HO_6.out (fun _ hk => ⟨⟨hk.1, ⟨hk.2.2.1, hk.2.2.2⟩⟩, hk.2.1⟩)) (fun _ h_ => h_.2)) hg hat)
         have n1_ := Aside0.mk (blk_grown (g := gb160) (o := .cells #[.slice none 0 0, .slice none 0 0, .slice none 0 0, .int .i64 0] 25 (0, 0)) (au31) hg (Kd.N_ne HO_162002.out BK160.out (by decide)))
         have n2_ := Aside0.mk (blk_grown (g := gb161) (o := .cells #[.slice none 0 0, .slice none 0 0, u162002, .int .i64 (-1)] 25 (0, 0)) (au40) hg (Kd.N_ne HO_162002.out BK161.out (by decide)))
         have n3_ := Aside0.mk (Kd.V_afterv (ok := (fun k_ => (w.heap.size ≤ k_) ∧ some k_ ≠ (.slice (some ad178) x6_2.length co34 : Value).ownBlock ∧ k_ ≠ gb160 ∧ k_ ≠ gb161)) (by (with_reducible repeat (first | apply Kd.V_alloc | apply Kd.V_drewN | apply Kd.V_drew)); first | exact Kd.V_mono HL178_0.out (fun _ hk => ⟨⟨hk.1.1, ⟨hk.2, ⟨hk.1.2.2.1, hk.1.2.2.2⟩⟩⟩, hk.1.2.1⟩) | exact Kd.V_mono (Kd.V_mono HL178_0.out (fun _ hk => ⟨⟨hk.1.1, ⟨hk.2, ⟨hk.1.2.2.1, hk.1.2.2.2⟩⟩⟩, hk.1.2.1⟩)) (fun _ h_ => h_.2)) hg hat)
         have n4_ := Aside0.mk (hb)
         have n5_ := Aside0.mk (ho)
         clear HO_6
         clear BK160
         clear BK161
         clear HL178_0
         clear HB
         clear HO_162002
         have HO_6 := n0_
         have BK160 := n1_
         have BK161 := n2_
         have HL178_0 := n3_
         have HB := n4_
         have HO181 := n5_
         clear n0_ n1_ n2_ n3_ n4_ n5_
         clear ho hb hg hat
         obtain ⟨Ao36, co36, eo36⟩ := Kd.N_slice HO181.out
         (first | subst eo36 | (injection eo36 with f1_ f2_ f3_; have f4_ := f1_.symm; have f5_ := f3_.symm; clear f1_ f2_ f3_; subst f4_; subst f5_))
         refine hK.out _ _ ?_
         clear hK K
         refine norm_ (a' := ?_) ?_ ?_
         rotate_left
         ·
          show Act.put _ (some 40) _ = _
          simp only [Act.put, List.setIfInBounds_toArray, List.set_cons_zero, List.set_cons_succ, i64_w, i32_w]
          rfl
         refine pure_ (i := 14) (N := some 41) (v := ?_) (a' := ?_) #[true, true, true, true, true, true, true, true, true, true, true, true, true, true, true, false] rfl rfl (any_of HT_.out (by kernel_rfl)) (fun _ _ _ h => h) (Or.inl ⟨by rfl, ?_⟩) ?_ ?_
         rotate_left
         ·
          intro w'
          go_simp
          with_reducible rfl
         rotate_left
         ·
          simp only [Act.put, List.setIfInBounds_toArray, List.set_cons_zero, List.set_cons_succ, i64_w, i32_w]
          rfl
         refine last_ (i := 15) (N := none) #[true, true, true, true, true, true, true, true, true, true, true, true, true, true, true, true] rfl rfl (one_of HT_.out (by kernel_rfl)) (by decide) (fun K hK => ?_)
         have hs37 : w35.cell? ⟨gb161, 2, none⟩ = some (u162002) := (blk_cell BK161.out 2).trans rfl
         have hfs37 := blk_frozen BK161.out 2
         have hns37_0 := NB160_161.out
         have hms37_0 := NB161_160.out
         refine skip_ (w1 := ?_) (by rfl) rfl ?_ ?_
         rotate_left
         ·
          go_simp
          rfl
         refine hK.out _ _ ?_
         clear hK K
         refine done_ (done_of HT_.out (by kernel_rfl)) ?_
         try go_wp2
         go_roundg k2
         case measure => have := HJ2.out; have := HK2.out; omega
         case rel => exact ⟨(wrap64 (x7_2 + 1)), (y179), (.slice Ao36 y179.length co36), (au37), H', ⟨by have := HJ2.out; have := HK2.out; omega⟩, ⟨by (with_reducible repeat (first | apply Kd.N_alloc | apply Kd.N_drewN | apply Kd.N_drew)); first | exact Kd.N_mono (Kd.N_far (p := ⟨gb161, 2, none⟩) (Kd.N_mono HO_6.out (fun k_ hk => (⟨hk, hk.1.2.2⟩ : _ ∧ k_ ≠ gb161))) (fun _ hk => hk.2) (.slice Ao36 y179.length co36)) (fun _ hk => ⟨hk.1.1.1, ⟨hk.1.2, ⟨hk.1.1.2.1, hk.1.1.2.2⟩⟩⟩) | exact Kd.N_mono (Kd.N_mono (Kd.N_far (p := ⟨gb161, 2, none⟩) (Kd.N_mono HO_6.out (fun k_ hk => (⟨hk, hk.1.2.2⟩ : _ ∧ k_ ≠ gb161))) (fun _ hk => hk.2) (.slice Ao36 y179.length co36)) (fun _ hk => ⟨hk.1.1.1, ⟨hk.1.2, ⟨hk.1.1.2.1, hk.1.1.2.2⟩⟩⟩)) (fun _ h_ => h_.2)⟩, ⟨by (with_reducible repeat (first | apply Kd.N_alloc | apply Kd.N_drewN | apply Kd.N_drew)); first | exact Kd.N_mono (Kd.N_far (p := ⟨gb161, 2, none⟩) (Kd.N_mono HO181.out (fun k_ hk => (⟨hk, hk.2.2.2⟩ : _ ∧ k_ ≠ gb161))) (fun _ hk => hk.2) (.slice Ao36 y179.length co36)) (fun _ hk => ⟨hk.1.1, ⟨hk.1.2.1, ⟨hk.1.2.2.1, hk.1.2.2.2⟩⟩⟩) | exact Kd.N_mono (Kd.N_mono (Kd.N_far (p := ⟨gb161, 2, none⟩) (Kd.N_mono HO181.out (fun k_ hk => (⟨hk, hk.2.2.2⟩ : _ ∧ k_ ≠ gb161))) (fun _ hk => hk.2) (.slice Ao36 y179.length co36)) (fun _ hk => ⟨hk.1.1, ⟨hk.1.2.1, ⟨hk.1.2.2.1, hk.1.2.2.2⟩⟩⟩)) (fun _ h_ => h_.2)⟩, ⟨by (with_reducible repeat (first | refine blk_drewN ?_ _ | refine blk_drew ?_ | refine blk_alloc ?_ _)); refine blk_far ?_ NB160_161.out _; (with_reducible repeat (first | refine blk_drewN ?_ _ | refine blk_drew ?_ | refine blk_alloc ?_ _)); exact BK160.out⟩, ⟨by (with_reducible repeat (first | refine blk_drewN ?_ _ | refine blk_drew ?_ | refine blk_alloc ?_ _)); refine blk_put (cs := #[.slice none 0 0, .slice none 0 0, u162002, .int .i64 (-1)]) ?_ 2 _ rfl; (with_reducible repeat (first | refine blk_drewN ?_ _ | refine blk_drew ?_ | refine blk_alloc ?_ _)); exact BK161.out⟩, ⟨au3⟩⟩
        ·
         rw [if_neg c30] at H
         exact absurd H (by simp)
       ·
        rw [if_neg c29] at H
        exact absurd H (by simp)
      ·
       rw [if_neg c27] at H
       exact absurd H (by simp)
     ·
      rw [if_neg c26] at H
      have c26b0 : decide (x7_2 < 3) = false := decide_eq_false c26
      clear c26
      simp only [Option.some.injEq, Prod.mk.injEq] at H
      obtain ⟨rfl, rfl, rfl, rfl⟩ := H
      have hnb38 := NB161_160.out
      have hnc38 := NB160_161.out
      obtain ⟨hcz39_0, hcz39_1, hcz39_2, hcz39_3, hfz39_0, hfz39_1, hfz39_2, hfz39_3⟩ := blk_all4 BK161.out
      obtain ⟨hcz40_0, hcz40_1, hcz40_2, hcz40_3, hfz40_0, hfz40_1, hfz40_2, hfz40_3⟩ := blk_all4 BK160.out
      obtain ⟨Ao41, co41, eo41⟩ := Kd.N_slice HO_162002.out
      subst eo41
      go_wp2
      refine bodyPost_ret (results_cell_row rfl _ _ gb160 25 #[.slice none 0 0, .slice none 0 0, .slice Ao41 x162002_2.length co41, .int .i64 (-1)] (0, 0) _ rfl (by (with_reducible repeat (first | refine blk_drewN ?_ _ | refine blk_drew ?_ | refine blk_alloc ?_ _)); refine blk_put (cs := #[.slice none 0 0, .slice none 0 0, .slice Ao41 x162002_2.length co41, .int .i64 0]) ?_ 3 _ rfl; (with_reducible repeat (first | refine blk_drewN ?_ _ | refine blk_drew ?_ | refine blk_alloc ?_ _)); refine blk_put (cs := #[.slice none 0 0, .slice none 0 0, .slice none 0 0, .int .i64 0]) ?_ 2 _ rfl; (with_reducible repeat (first | refine blk_drewN ?_ _ | refine blk_drew ?_ | refine blk_alloc ?_ _)); refine blk_put (cs := #[.slice none 0 0, .slice none 0 0, .slice none 0 0, .int .i64 0]) ?_ 1 _ rfl; (with_reducible repeat (first | refine blk_drewN ?_ _ | refine blk_drew ?_ | refine blk_alloc ?_ _)); refine blk_put (cs := #[.slice none 0 0, .slice none 0 0, .slice none 0 0, .int .i64 0]) ?_ 0 _ rfl; (with_reducible repeat (first | refine blk_drewN ?_ _ | refine blk_drew ?_ | refine blk_alloc ?_ _)); exact BK160.out) Try.underlying25 rfl (by kernel_rfl)) rfl ?_
      exact ⟨_, _, _, au20, by first | exact Kd.R_nil _ _ _ _ _ | exact Kd.N_nil _ _ _ _ _ | exact Kd.V_nil _ _ _ _ _ | exact Kd.Q_nil _ _ _ _ _ | exact Kd.S_nil _ _ _ _ _, by first | exact Kd.R_nil _ _ _ _ _ | exact Kd.N_nil _ _ _ _ _ | exact Kd.V_nil _ _ _ _ _ | exact Kd.Q_nil _ _ _ _ _ | exact Kd.S_nil _ _ _ _ _, by (with_reducible repeat (first | apply Kd.N_alloc | apply Kd.N_drewN | apply Kd.N_drew)); first | exact Kd.N_mono (Kd.N_far (p := ⟨gb160, 3, none⟩) (Kd.N_far (p := ⟨gb160, 2, none⟩) (Kd.N_far (p := ⟨gb160, 1, none⟩) (Kd.N_far (p := ⟨gb160, 0, none⟩) (Kd.N_mono HO_162002.out (fun k_ hk => (⟨hk, hk.2.2.1⟩ : _ ∧ k_ ≠ gb160))) (fun _ hk => hk.2) (.slice none 0 0)) (fun _ hk => hk.2) (.slice none 0 0)) (fun _ hk => hk.2) (.slice Ao41 x162002_2.length co41)) (fun _ hk => hk.2) (.int .i64 (-1))) (fun _ hk => ⟨hk.1.1, ⟨(by simp [Value.ownBlock]), (by simp [Value.ownBlock])⟩⟩) | exact Kd.N_mono (Kd.N_mono (Kd.N_far (p := ⟨gb160, 3, none⟩) (Kd.N_far (p := ⟨gb160, 2, none⟩) (Kd.N_far (p := ⟨gb160, 1, none⟩) (Kd.N_far (p := ⟨gb160, 0, none⟩) (Kd.N_mono HO_162002.out (fun k_ hk => (⟨hk, hk.2.2.1⟩ : _ ∧ k_ ≠ gb160))) (fun _ hk => hk.2) (.slice none 0 0)) (fun _ hk => hk.2) (.slice none 0 0)) (fun _ hk => hk.2) (.slice Ao41 x162002_2.length co41)) (fun _ hk => hk.2) (.int .i64 (-1))) (fun _ hk => ⟨hk.1.1, ⟨(by simp [Value.ownBlock]), (by simp [Value.ownBlock])⟩⟩)) (fun _ h_ => h_.2), au3⟩

end Go.Proofs.Ytkmnachdibhdhaa.S
