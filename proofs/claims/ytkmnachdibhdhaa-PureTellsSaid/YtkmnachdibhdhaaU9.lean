/- Contracts of the functions of this seat (each: the call of the function does what the plain Lean function of the same name tells; the conditions stand in each statement). Written by a program of this session and by hand; checked by Lean. -/
import Derived.Test.YtkmnachdibhdhaaU0
namespace Go.Proofs.Ytkmnachdibhdhaa.U
open Go.RowKit Go.Proofs.YtkmnachdibhdhaaW.PrintWords Go.Proofs.YtkmnachdibhdhaaW.PrintLast Go.Proofs.YtkmnachdibhdhaaW.PrintMore
attribute [local go_sem] max2_int min2_int max_two min_two max_three min_three max_four min_four   -- for this text's walks alone
set_option linter.unusedVariables false
set_option linter.unusedSimpArgs false

/-! ### calls_Whom: function 29 -/
/-- A row of ints of one's own, in the kit's words. -/
theorem R_ints {q : IntKind} {e : Nat} {W : World} {base : Nat} {ok : Nat → Prop} {v : Value} {xs : List Int} : Kd.R (Kd.int q) e W base ok v xs ↔ (∀ k, v.ownBlock = some k → ok k) ∧ W.ownsRow base e 1 v xs.length (xs.map (Value.int q)) := by
  constructor
  · rintro ⟨h0, inner, ho, hl, hr⟩
    refine ⟨h0, ?_⟩
    have he : inner = xs.map (Value.int q) := by
      have hl' : inner.length = xs.length := by rw [hl]; show xs.length * 1 = _; omega
      apply List.ext_getElem (by rw [List.length_map]; exact hl')
      intro i h1 h2
      have h3 : i < xs.length := by omega
      have h4 : (inner.drop (i * 1)).take 1 = [Value.int q xs[i]] := hr i xs[i] (List.getElem?_eq_getElem h3); rw [Nat.mul_one, List.drop_eq_getElem_cons h1] at h4; simp only [List.take_succ_cons, List.take_zero, List.cons.injEq, and_true] at h4; rw [h4, List.getElem_map]
    rw [← he]; exact ho
  · rintro ⟨h0, ho⟩
    refine ⟨h0, _, ho, by rw [List.length_map]; show _ = xs.length * 1; omega, fun j p hj => ?_⟩; obtain ⟨h1, rfl⟩ := List.getElem?_eq_some_iff.1 hj; show ((xs.map (Value.int q)).drop (j * 1)).take 1 = [Value.int q xs[j]]; rw [Nat.mul_one, List.drop_eq_getElem_cons (by rw [List.length_map]; exact h1)]
    simp
theorem setCells_blk {g t : Nat} : ∀ (vs : List Value) (o : Nat) (W : World) (cur : Array Value), W.heap[g]? = some (.cells cur t (0, 0)) → o + vs.length ≤ cur.size → ∃ cur', (W.setCells g o vs).heap[g]? = some (.cells cur' t (0, 0)) ∧ cur'.size = cur.size ∧ cur'.toList = cur.toList.take o ++ vs ++ cur.toList.drop (o + vs.length) := by
  intro vs
  induction vs with
  | nil => intro o W cur h _; exact ⟨cur, h, rfl, by simp⟩
  | cons v r ih =>
    intro o W cur h hl; rw [List.length_cons] at hl; have h1 := blk_put h o v rfl; obtain ⟨cur', a, b, c⟩ := ih (o + 1) _ _ h1 (by simp; omega); refine ⟨cur', a, by rw [b]; simp, ?_⟩; rw [c]
    have hlt : o < cur.toList.length := by simp; omega
    simp only [Array.toList_setIfInBounds]; rw [List.drop_set_of_lt (by omega), List.take_succ_eq_append_getElem (by simpa using hlt), List.getElem_set_self]; rw [List.take_set_of_le (Nat.le_refl _)]
    simp [Nat.add_assoc, Nat.add_comm 1]
theorem setCells_far {g : Nat} : ∀ (vs : List Value) (o : Nat) (W : World) (k : Nat), k ≠ g → (W.setCells g o vs).heap[k]? = W.heap[k]? := by
  intro vs
  induction vs with
  | nil => intro o W k _; rfl
  | cons v r ih => intro o W k hk; rw [World.setCells, ih _ _ _ hk]; exact Below.heap_setCell W ⟨g, o, none⟩ v k hk
theorem setCells_rest {g : Nat} : ∀ (vs : List Value) (o : Nat) (W : World), (W.setCells g o vs).os = W.os ∧ (W.setCells g o vs).tape = W.tape ∧ (W.setCells g o vs).output = W.output ∧ (W.setCells g o vs).heap.size = W.heap.size := by
  intro vs
  induction vs with
  | nil => intro o W; exact ⟨rfl, rfl, rfl, rfl⟩
  | cons v r ih =>
    intro o W; obtain ⟨a, b, c, d⟩ := ih (o + 1) (W.setCell ⟨g, o, none⟩ v); exact ⟨a, b, c, d.trans (by simp [World.setCell])⟩
/-- slices.Sort at a row of one's own. -/
theorem sort_R (W : World) (base : Nat) (ok : Nat → Prop) (v : Value) (xs : List Int) (h : Kd.R (Kd.int .i64) 3 W base ok v xs) (hl : xs.length ≤ 17592186044416) :
    Calls Try.prog 55 #[v] W fun e w' => e = .returned (.tuple #[]) ∧ Kd.R (Kd.int .i64) 3 w' base ok v (xs.mergeSort fun x y => decide (x ≤ y)) ∧ W.grownBy w' v.ownBlock := by
  rw [R_ints] at h
  obtain ⟨h0, hown⟩ := h
  rcases hown.2 with ⟨rfl, hz⟩ | ⟨g, cap, cur, rfl, hg, hh, h1, h2, h3, h4⟩
  · obtain rfl := List.eq_nil_of_length_eq_zero hz
    refine (Try.slices_Sort_int_none none 0 W).mono ?_; rintro e w' ⟨rfl, rfl⟩; exact ⟨rfl, by simpa using Kd.R_nil _ _ _ _ _, ⟨rfl, rfl, rfl, Nat.le_refl _, fun _ _ _ => rfl⟩⟩
  · rw [Nat.mul_one] at h4 h3
    have hlt : g < W.heap.size := (Array.getElem?_eq_some_iff.1 hh).1; refine (Try.slices_Sort_int g 0 cap xs W (holds_of_blockI hh h4) hlt (by omega)).mono ?_; rintro e w' ⟨rfl, n, os, rfl⟩; have hs := ownsRow_sortedI (n := n) (os := os) (ts := xs.mergeSort fun x y => decide (x ≤ y)) (List.length_mergeSort xs) hg hh h1 h2 (by omega); refine ⟨rfl, R_ints.2 ⟨h0, ?_⟩, grownBy_sortedI _⟩; rw [List.length_mergeSort]; exact hs
theorem compact_le (zs : List Int) : (Lib.compact zs).length ≤ zs.length := by
  unfold Lib.compact Lib.compactUpTo
  rw [List.length_map]; exact Nat.le_trans (List.length_filter_le _ _) (by simp)
/-- slices.Compact at a row of one's own. -/
theorem compact_R (W : World) (base : Nat) (ok : Nat → Prop) (v : Value) (xs : List Int) (h : Kd.R (Kd.int .i64) 3 W base ok v xs) (hl : xs.length ≤ 17592186044416) :
    Calls Try.prog 56 #[v] W fun e w' => ∃ v', e = .returned v' ∧ Kd.R (Kd.int .i64) 3 w' base ok v' (Lib.compact xs) ∧ W.grownBy w' v.ownBlock ∧ v'.ownBlock = v.ownBlock := by
  rw [R_ints] at h
  obtain ⟨h0, hown⟩ := h
  rcases hown.2 with ⟨rfl, hz⟩ | ⟨g, cap, cur, rfl, hg, hh, h1, h2, h3, h4⟩
  · obtain rfl := List.eq_nil_of_length_eq_zero hz
    refine (Try.slices_Compact_int_empty none 0 W).mono ?_; rintro e w' ⟨rfl, rfl⟩; exact ⟨_, rfl, Kd.R_nil _ _ _ _ _, ⟨rfl, rfl, rfl, Nat.le_refl _, fun _ _ _ => rfl⟩, rfl⟩
  · rw [Nat.mul_one] at h4 h3
    have hcell : ∀ j, j < xs.length → W.cell? ⟨g, 0 + j, none⟩ = some (.int .i64 (xs.getD j 0)) := by
      intro j hj; have := (holds_of_blockI hh h4 j (by simpa using hj)).1; rw [this]
      simp [List.getD, hj]
    have hfr : ∀ j, j < xs.length → W.frozen? ⟨g, 0 + j, none⟩ = false := fun j hj => blk_frozen hh _
    refine (Try.slices_Compact_int_cells g 0 xs.length cap xs W (Nat.le_refl _) (by omega) h1 hcell hfr).mono ?_; rintro e w' ⟨rfl, q, rfl⟩; rw [List.take_length]; have hc := compact_le xs; have hb : (W.drewN q).heap[g]? = some (.cells cur 3 (0, 0)) := hh; obtain ⟨cur', a, b, c⟩ := setCells_blk ((Lib.compact xs ++ List.replicate (xs.length - (Lib.compact xs).length) 0).map (Value.int .i64)) 0 (W.drewN q) cur hb (by simp; omega); obtain ⟨r1, r2, r3, r4⟩ := setCells_rest (g := g) ((Lib.compact xs ++ List.replicate (xs.length - (Lib.compact xs).length) 0).map (Value.int .i64)) 0 (W.drewN q); refine ⟨_, rfl, R_ints.2 ⟨h0, by rw [List.length_map, Nat.mul_one], .inr ⟨g, cap, cur', rfl, hg, a, by omega, h2, by omega, ?_⟩⟩, ⟨r1, r2, r3, by rw [r4]; exact Nat.le_refl _, fun k _ hk => setCells_far _ _ _ _ (fun e => hk (by rw [e]; rfl))⟩, rfl⟩; rw [c, Nat.mul_one, List.take_zero, List.nil_append, List.map_append, List.append_assoc, List.take_append_of_le_length (by simp)]; rw [List.take_of_length_le (by simp)]
section
attribute [local go_sem] Oper.semAt_some
/-- The methods that a method's code names, in the code's order. -/
def cl_names (c : List S70) : List Int := (c.filter fun i => i.f0 == 30).map fun i => i.f1
theorem cl_names_snoc (c : List S70) (x : S70) : cl_names (c ++ [x]) = if x.f0 = 30 then cl_names c ++ [x.f1] else cl_names c := by
  unfold cl_names
  by_cases h : x.f0 = 30
  · rw [if_pos h]; simp [List.filter_append, h]
  · rw [if_neg h]; simp [List.filter_append, h]
theorem cl_take (c : List S70) (k : Nat) (h : k < c.length) : c.take (k + 1) = c.take k ++ [rd_T70 c (k : Int)] := by
  rw [List.take_succ_eq_append_getElem h]
  simp [rd_T70, h]
theorem cl_names_prefix (c : List S70) (k : Nat) : ∃ t, cl_names c = cl_names (c.take k) ++ t := by
  refine ⟨cl_names (c.drop k), ?_⟩
  unfold cl_names
  rw [← List.map_append, ← List.filter_append, List.take_append_drop]
theorem cell_in {w : World} {p : Addr} {v : Value} (h : w.cell? p = some v) : p.block < w.heap.size := Nat.lt_of_not_le fun h' => by simp [World.cell?, Array.getElem?_eq_none h'] at h
set_option maxRecDepth 100000 in
set_option maxHeartbeats 2000000 in
theorem named1_in (n : Nat) (hn : 1 ≤ n) (l B n₀ : Nat) (A2 : Option Addr) (c2 : Nat) (ms : List S52) (j : Int) (hj : 0 ≤ j ∧ j < (ms.length : Int)) (J Jx : List Int → World → Prop)
    (w0 W : World) (hJ : AbidesFrom W.heap.size J) (hw0 : Below w0.heap.size w0 W) (hn₀ : w0.heap.size ≤ n₀) (hnW : n₀ ≤ W.heap.size) (hlen : (rd_T52 ms j).f7.length ≤ 100000)
    (hY : ∀ pre x W, J pre W → (∃ t, cl_names (rd_T52 ms j).f7 = pre ++ x :: t) → YieldAt Fence.wide (n - 1) Try.prog l #[.int .i64 x] W fun e W' =>
      (e = .returned (.bool true) ∧ J (pre ++ [x]) W' ∧ Below n₀ W W') ∨ (e = .returned (.bool false) ∧ Jx (pre ++ [x]) W'))
    (hb0 : W.cell? ⟨B, 2, none⟩ = some (.slice A2 ms.length c2)) (hb1 : W.cell? ⟨B + 1, 0, none⟩ = some (.int .i64 j)) (hC : Kd.C k52 w0 A2 ms.length ms) (h0 : J [] W) :
    CallsIn Fence.wide n Try.prog 69 #[.func (.yield l) #[] #[], .pointer (some ⟨B, 0, none⟩), .pointer (some ⟨B + 1, 0, none⟩)] W fun e W' => (∃ v, e = .returned v) ∧
      ((∃ ys, ys = cl_names (rd_T52 ms j).f7 ∧ J ys W') ∨ (∃ pre, (∃ t, cl_names (rd_T52 ms j).f7 = pre ++ t) ∧ Jx pre W')) := by
  have HJ := Aside0.mk hJ; have HY := Aside0.mk hY; clear hJ hY; obtain ⟨ad, A0, c0, A1, c1, A7, c7, rfl, q0, q1, q2, q3, q4, q5, q6, q7', l0, g0, l1, g1, l7, g7⟩ := at_T52 hC j hj.1 hj.2; clear q0 q1 q2 q3 q4 q5 q6 l0 g0 l1 g1; have q7 := (hw0.cell (p := ⟨(ad.add (j.toNat * 8)).block, (ad.add (j.toNat * 8)).off + 7, none⟩) (cell_in q7')).trans q7'; have hcode := Aside0.mk (fun (W' : World) (hb : Below n₀ W W') => Kd.C_below g7 (hw0.trans (hb.mono hn₀))); clear q7' g7
  generalize hx : rd_T52 ms j = x at *
  generalize hcx : x.f7 = c at *
  obtain ⟨jn, rfl⟩ : ∃ jn : Nat, j = (jn : Int) := ⟨j.toNat, by omega⟩; simp only [Int.toNat_natCast] at q7
  have hlt : jn < ms.length := by omega
  refine callsIn_of_wp Try.func69 rfl trivial ?_ rfl; simp only [Try.ntmps69, List.size_toArray, List.length_cons, List.length_nil, Nat.reduceAdd, Nat.reduceSub, Array.replicate_succ, Array.replicate_zero, List.push_toArray, List.append_toArray, List.nil_append, List.cons_append]
  gi_wp2
  gi_loopw [13] (fun i wr => ∃ k : Nat, k ≤ c.length ∧ i = .int .i64 k ∧ J (cl_names (c.take k)) wr ∧ Below n₀ W wr)
    (fun i _ => c.length - (intOf i).toNat)
  case atStart => exact ⟨0, Nat.zero_le _, rfl, h0, Below.refl _ _⟩
  case round =>
    obtain ⟨k, hk, rfl, hJs, hnx⟩ := hrel
    by_cases hkc : k < c.length
    · obtain ⟨ad7, hA7, p0, p1, p2⟩ := at_T70 (hcode.out wr hnx) (k : Int) (by omega) (by omega)
      subst hA7; simp only [Int.toNat_natCast] at p0 p1 p2; have htake := cl_take c k hkc; obtain ⟨t2, ht2⟩ := cl_names_prefix c (k + 1); rw [htake, cl_names_snoc] at ht2; have hsnoc := cl_names_snoc (c.take k) (rd_T70 c (k : Int)); rw [← htake] at hsnoc; clear htake
      generalize rd_T70 c (k : Int) = y at *
      have hJ1 := HJ.out _ _ (wr.alloc (.cells #[.int .u8 y.f0, .int .i64 y.f1, .int .i64 y.f2] 70)) none hJs (World.grownBy_alloc _ _ _) (fun r e => by cases e); have hn1 : Below n₀ W (wr.alloc (.cells #[.int .u8 y.f0, .int .i64 y.f1, .int .i64 y.f2] 70)) := hnx.alloc (Nat.le_trans hnW hnx.size) _
      by_cases h30 : y.f0 = 30
      · rw [if_pos h30] at ht2 hsnoc
        rw [h30] at hJ1 hn1 p0; obtain ⟨fn, tmps, assign, body, hy, hR⟩ := HY.out _ y.f1 _ hJ1 ⟨t2, by rw [ht2]; simp⟩; clear h30
        gi_wp2
        refine hR.mono ?_; rintro e W3 (⟨rfl, hJ3, hk3⟩ | ⟨rfl, hJx3⟩)
        · gi_wp2
          go_roundw
          case rel => exact ⟨k + 1, by omega, by simp, by rw [hsnoc]; exact hJ3, hn1.trans hk3⟩
          case measure => simp [intOf]; omega
        · gi_wp2
          refine bodyPost_ret (results_none rfl _ _ _) rfl ?_; exact ⟨⟨_, rfl⟩, .inr ⟨_, ⟨t2, by rw [ht2]⟩, hJx3⟩⟩
      · rw [if_neg h30] at ht2 hsnoc
        have hd30 : (y.f0 == 30) = false := by rw [beq_eq_false_iff_ne]; exact h30
        gi_wp2
        refine ⟨fun _ h => (by cases h), ?_⟩
        gi_wp2
        go_roundw
        case rel => exact ⟨k + 1, by omega, by simp, by rw [hsnoc]; exact hJ1, hn1⟩
        case measure => simp [intOf]; omega
    · obtain rfl : k = c.length := by omega
      rw [List.take_length] at hJs
      gi_wp2
      go_end0
      exact ⟨⟨_, rfl⟩, .inl ⟨_, rfl, hJs⟩⟩
set_option maxRecDepth 100000 in
set_option maxHeartbeats 1000000 in
theorem named_in (n : Nat) (A0 A1 A2 : Option Addr) (n0 c0 n1 c1 n2 c2 : Nat) (a3 j : Int) (w : World) :
    CallsIn Fence.wide n Try.prog 54 #[.agg #[.slice A0 n0 c0, .slice A1 n1 c1, .slice A2 n2 c2, .int .i64 a3], .int .i64 j] w fun e w' => e = .returned (.func (.func 69) #[] #[.pointer (some ⟨w.heap.size, 0, none⟩), .pointer (some ⟨w.heap.size + 1, 0, none⟩)]) ∧ w' = (w.alloc (.cells #[.slice A0 n0 c0, .slice A1 n1 c1, .slice A2 n2 c2, .int .i64 a3] 25)).alloc (.cells #[.int .i64 j] 3) := by
  refine callsIn_of_wp Try.func54 rfl trivial ?_ rfl; simp only [Try.ntmps54, List.size_toArray, List.length_cons, List.length_nil, Nat.reduceAdd, Nat.reduceSub, Array.replicate_succ, Array.replicate_zero, List.push_toArray, List.append_toArray, List.nil_append, List.cons_append]
  gi_wp2
  go_ret; exact ⟨rfl, rfl⟩
/-- All that the method's code names come, in order; or some, where a round has said 'no more'. -/
theorem named_stops (n : Nat) (hn : 1 ≤ n) (B n₀ : Nat) (A2 : Option Addr) (c2 : Nat) (ms : List S52) (j : Int) (hj : 0 ≤ j ∧ j < (ms.length : Int)) (w0 w : World) (hw0 : Below w0.heap.size w0 w) (hn₀ : w0.heap.size ≤ n₀) (hnw : n₀ ≤ w.heap.size) (hlen : (rd_T52 ms j).f7.length ≤ 100000)
    (hB : B + 1 < w.heap.size) (hb0 : w.cell? ⟨B, 2, none⟩ = some (.slice A2 ms.length c2)) (hb1 : w.cell? ⟨B + 1, 0, none⟩ = some (.int .i64 j)) (hC : Kd.C k52 w0 A2 ms.length ms) :
    SeqStopsK Fence.wide n Try.prog 69 #[.pointer (some ⟨B, 0, none⟩), .pointer (some ⟨B + 1, 0, none⟩)] (fun x : Int => #[.int .i64 x]) (Below n₀) (fun ys => ys = cl_names (rd_T52 ms j).f7) (fun pre => ∃ t, cl_names (rd_T52 ms j).f7 = pre ++ t) 100001 w := fun l J Jx W hW hJ hJx hY h0 => by
  have hcut : ∀ pre x t, cl_names (rd_T52 ms j).f7 = pre ++ x :: t → pre.length < 100001 := by
    intro pre x t e
    have h1 : (cl_names (rd_T52 ms j).f7).length ≤ (rd_T52 ms j).f7.length := by unfold cl_names; rw [List.length_map]; exact List.length_filter_le _ _
    rw [e] at h1
    simp at h1
    omega
  exact named1_in n hn l B n₀ A2 c2 ms j hj J Jx w0 W hJ (hw0.trans (hW.mono hw0.size)) hn₀ (Nat.le_trans hnw hW.size) hlen (fun pre x W1 h1 h2 => by obtain ⟨t, h2⟩ := h2; exact hY pre x W1 h1 (hcut _ _ _ h2)) ((hW.cell (p := ⟨B, 2, none⟩) (by show B < _; omega)).trans hb0) ((hW.cell (p := ⟨B + 1, 0, none⟩) hB).trans hb1) hC h0
end
/-- append(v, x) of one value of several cells, within a round. -/
theorem R_append_in {F : Fence} {nF : Nat} {P : Program} {ops : Array Oper} {rest : List Oper} {o : Oper} {a : Act} {Q : Exit → Act → World → Prop} {α : Type} (d : Kd α) {w0 W : World} (base : Nat) (hgd : o.guard = none) (s x : Operand) (t e : TypeId) (z : Value) (bytes : Nat)
    (ho : o.op = .call { callee := .builtin .append, args := #[s, x], argTypes := #[t, t] })
    (ht : P.underlying t = some (.slice e)) (hinfo : (P.info? e).map (fun i => (i.zero, i.size, i.bytes)) = some (some z, d.sz, bytes)) (hz : z.cells.size = d.sz) (hs0 : 0 < d.sz) (hb0 : 0 < bytes)
    (v : Value) (xs : List α) (p : α) (cs : List Value) (ok okp : Nat → Prop) (hs : a.eval s = v) (hx : a.eval x = .slice (some ⟨W.heap.size, 0, none⟩) 1 1) (hp : d.M W base okp p cs) (hokp : ∀ k, okp k → ok k ∧ some k ≠ v.ownBlock) (hfresh : ∀ k, W.heap.size ≤ k → ok k)
    (HO : d.R e W base ok v xs) (HB : Below base w0 W) (hbase : base ≤ W.heap.size) (hl : (xs.length + 1) * bytes ≤ 140737488355328)
    (h : ∀ v1 w1, d.R e w1 base ok v1 (xs ++ [p]) → Below base w0 w1 → W.grownBy w1 v.ownBlock → (v1.ownBlock = v.ownBlock ∨ ∃ b, v1.ownBlock = some b ∧ W.heap.size ≤ b) → wpListIn F nF P ops Q rest (a.put o.dst v1) w1) :
    wpListIn F nF P ops Q (o :: rest) a (W.alloc (.cells cs.toArray e)) := by
  obtain ⟨h0, inner, hown, hr⟩ := HO; obtain ⟨i0, hi, hzz⟩ := Option.map_eq_some_iff.1 hinfo; simp only [Prod.mk.injEq] at hzz; obtain ⟨hz0, hz1, hz2⟩ := hzz; have hlen : xs.length + 1 ≤ 140737488355328 := Nat.le_trans (Nat.le_mul_of_pos_right _ hb0) hl
  refine wpListIn_append_own_at _ hgd s x t ho base e i0 z d.sz bytes ht hi hz0 hz1 hz2 hz hs0 v xs.length inner hs (hown.alloc _) ⟨W.heap.size, 0, none⟩ 1 1 cs hx (by rw [d.K_len (d.K_of_M hp)]; simp)
    (by simpa using World.news_of_block (cs := cs.toArray) (t := e) (fr := (0, 0)) (heap_alloc_new W (.cells cs.toArray e))) (d.K_one (d.K_of_M hp)) (by simp only [maxLen]; omega) hl (by simp; omega) ?_
  intro v1 w1 hown1 hg _ hat; have hg1 := World.grownBy.trans (World.grownBy_alloc W (.cells cs.toArray e) _) hg
  have hat1 : v1.ownBlock = v.ownBlock ∨ ∃ b, v1.ownBlock = some b ∧ W.heap.size ≤ b := by
    rcases hat with hat | hat
    · exact .inl hat
    · exact .inr ⟨_, hat, by simp⟩
  exact h v1 w1 (Kd.R_appended h0 hr hp hokp hfresh hown1 hg1 hat1) ((HB.alloc hbase _).grown hg (by simp; omega) (own_base hown)) hg1 hat1
theorem R_turn {α : Type} {d : Kd α} {e : Nat} {W W' : World} {base : Nat} {ok : Nat → Prop} {v : Value} {xs : List α} {row : Option Nat} (h : Kd.R d e W base ok v xs) (hg : W.grownBy W' row) (hr : ∀ r, row = some r → ∃ o : Obj, W.heap[r]? = some o ∧ o.isCells = false) : Kd.R d e W' base ok v xs := by
  refine Kd.R_step (Kd.R_bound h) (fun k hk hlt => hg.block k hlt (fun e1 => ?_)) |> fun h => Kd.R_mono h (fun _ hk => hk.1)
  obtain ⟨o, ho, hc⟩ := hr k e1.symm; obtain ⟨_, _, _, q, _, cells, hcell⟩ := hk; rw [ho] at hcell; cases hcell; cases hc
/-- The activation's own blocks: the module, the two results, the slice. -/
def WSt (w W : World) (cs : Array Value) (u v r0 r1 : Value) (xs : List Int) : Prop :=
  W.heap[w.heap.size]? = some (.cells cs 25 (0, 0)) ∧ W.heap[w.heap.size + 1]? = some (.cells #[r0] 53 (0, 0)) ∧ W.heap[w.heap.size + 1 + 1]? = some (.cells #[r1] 35 (0, 0)) ∧ W.heap[w.heap.size + 1 + 1 + 1]? = some (.cells #[u] 53 (0, 0)) ∧ Below w.heap.size w W ∧
  Kd.R (Kd.int .i64) 3 W w.heap.size (fun k => w.heap.size + 4 ≤ k) v xs
theorem WSt.turn {w W W' : World} {cs : Array Value} {u v r0 r1 : Value} {xs : List Int} {B : Nat} {row : Option Nat} (h : WSt w W cs u v r0 r1 xs) (hB : w.heap.size + 4 ≤ B) (hg : W.grownBy W' row) (hr : ∀ r, row = some r → B ≤ r ∧ ∃ o : Obj, W.heap[r]? = some o ∧ o.isCells = false) : WSt w W' cs u v r0 r1 xs :=
  ⟨blk_grown h.1 hg (fun e => by have := (hr _ e.symm).1; omega), blk_grown h.2.1 hg (fun e => by have := (hr _ e.symm).1; omega), blk_grown h.2.2.1 hg (fun e => by have := (hr _ e.symm).1; omega), blk_grown h.2.2.2.1 hg (fun e => by have := (hr _ e.symm).1; omega), h.2.2.2.2.1.grown hg h.2.2.2.2.1.size (fun k e => by have := (hr _ e).1; omega), R_turn h.2.2.2.2.2 hg (fun r e => (hr r e).2)⟩
theorem WSt.grown {w W w9 : World} {cs : Array Value} {u v v9 r0 r1 : Value} {xs ys : List Int} (h : WSt w W cs u v r0 r1 xs) (hg : W.grownBy w9 v.ownBlock) (hR : Kd.R (Kd.int .i64) 3 w9 w.heap.size (fun k => w.heap.size + 4 ≤ k) v9 ys) : WSt w w9 cs u v9 r0 r1 ys :=
  have hn : ∀ k, k < w.heap.size + 4 → some k ≠ v.ownBlock := fun k hk e => by have := h.2.2.2.2.2.1 k e.symm; omega
  ⟨blk_grown h.1 hg (hn _ (by omega)), blk_grown h.2.1 hg (hn _ (by omega)), blk_grown h.2.2.1 hg (hn _ (by omega)), blk_grown h.2.2.2.1 hg (hn _ (by omega)), h.2.2.2.2.1.grown hg h.2.2.2.2.1.size (fun k e => by have := h.2.2.2.2.2.1 k e; omega), hR⟩
theorem WSt.put {w W : World} {cs : Array Value} {u v r0 r1 : Value} {xs : List Int} (h : WSt w W cs u v r0 r1 xs) (u9 : Value) : WSt w (W.setCell ⟨w.heap.size + 1 + 1 + 1, 0, none⟩ u9) cs u9 v r0 r1 xs :=
  ⟨blk_far h.1 (p := ⟨w.heap.size + 1 + 1 + 1, 0, none⟩) (by show _ ≠ w.heap.size + 1 + 1 + 1; omega) _, blk_far h.2.1 (p := ⟨w.heap.size + 1 + 1 + 1, 0, none⟩) (by show _ ≠ w.heap.size + 1 + 1 + 1; omega) _, blk_far h.2.2.1 (p := ⟨w.heap.size + 1 + 1 + 1, 0, none⟩) (by show _ ≠ w.heap.size + 1 + 1 + 1; omega) _,
    blk_put h.2.2.2.1 0 _ rfl, h.2.2.2.2.1.setCell (p := ⟨w.heap.size + 1 + 1 + 1, 0, none⟩) (by show _ ≤ w.heap.size + 1 + 1 + 1; omega) _, Kd.R_far (p := ⟨w.heap.size + 1 + 1 + 1, 0, none⟩) h.2.2.2.2.2 (fun k hk => by show k ≠ w.heap.size + 1 + 1 + 1; omega) _⟩
theorem WSt.res {w W : World} {cs : Array Value} {u v r0 r1 : Value} {xs : List Int} (h : WSt w W cs u v r0 r1 xs) (u0 u1 : Value) : WSt w ((W.setCell ⟨w.heap.size + 1, 0, none⟩ u0).setCell ⟨w.heap.size + 1 + 1, 0, none⟩ u1) cs u v u0 u1 xs :=
  ⟨blk_far (blk_far h.1 (p := ⟨w.heap.size + 1, 0, none⟩) (by show _ ≠ w.heap.size + 1; omega) _) (p := ⟨w.heap.size + 1 + 1, 0, none⟩) (by show _ ≠ w.heap.size + 1 + 1; omega) _, blk_far (blk_put h.2.1 0 _ rfl) (p := ⟨w.heap.size + 1 + 1, 0, none⟩) (by show _ ≠ w.heap.size + 1 + 1; omega) _, blk_put (blk_far h.2.2.1 (p := ⟨w.heap.size + 1, 0, none⟩) (by show _ ≠ w.heap.size + 1; omega) _) 0 _ rfl,
    blk_far (blk_far h.2.2.2.1 (p := ⟨w.heap.size + 1, 0, none⟩) (by show _ ≠ w.heap.size + 1; omega) _) (p := ⟨w.heap.size + 1 + 1, 0, none⟩) (by show _ ≠ w.heap.size + 1 + 1; omega) _, (h.2.2.2.2.1.setCell (p := ⟨w.heap.size + 1, 0, none⟩) (by show _ ≤ w.heap.size + 1; omega) _).setCell (p := ⟨w.heap.size + 1 + 1, 0, none⟩) (by show _ ≤ w.heap.size + 1 + 1; omega) _,
    Kd.R_far (p := ⟨w.heap.size + 1 + 1, 0, none⟩) (Kd.R_far (p := ⟨w.heap.size + 1, 0, none⟩) h.2.2.2.2.2 (fun k hk => by show k ≠ w.heap.size + 1; omega) _) (fun k hk => by show k ≠ w.heap.size + 1 + 1; omega) _⟩
theorem R_not {α : Type} {d : Kd α} {e : Nat} {W : World} {base : Nat} {ok : Nat → Prop} {v : Value} {xs : List α} {D : Nat} {o : Obj} (h : Kd.R d e W base ok v xs) (hD : W.heap[D]? = some o) (ho : o.isCells = false) : some D ≠ v.ownBlock := by
  intro e1; obtain ⟨_, inner, hown, _⟩ := h; obtain ⟨cells, hcells⟩ := own_typed hown D e1.symm; rw [hD] at hcells; cases hcells; cases ho
theorem R_keeps {α : Type} {d : Kd α} {e : Nat} {W W' : World} {base : Nat} {ok : Nat → Prop} {v : Value} {xs : List α} (h : Kd.R d e W base ok v xs) (hg : W.grownBy W' v.ownBlock) : KeepsOthers W W' := by
  refine KeepsOthers.of_grownBy hg ?_; intro j o hj ho; obtain ⟨_, inner, hown, _⟩ := h; obtain ⟨cells, hcells⟩ := own_typed hown j hj; rw [ho] at hcells; cases hcells; rfl
section
attribute [local go_sem] Oper.semAt_some
/-- Are all of them places of methods? -/
def cl_ok (n : Int) (l : List Int) : Bool := l.all fun x => decide (0 ≤ x ∧ x < n)
theorem cl_ok_append (n : Int) (a b : List Int) : cl_ok n (a ++ b) = (cl_ok n a && cl_ok n b) := List.all_append
theorem cl_ok_snoc (n : Int) (l : List Int) (x : Int) : cl_ok n (l ++ [x]) = (cl_ok n l && decide (0 ≤ x ∧ x < n)) := by rw [cl_ok_append]; unfold cl_ok; simp
def calls_Whom.f (l0_0 l0_1 : List S86) (l0_2 : List S52) (a0_3 : Int) (a1 : Int) : Option (List Int × Int) := if 0 ≤ a1 ∧ a1 < (l0_2.length : Int) then (if (rd_T52 l0_2 a1).f7.length ≤ 100000 then (if cl_ok l0_2.length (cl_names (rd_T52 l0_2 a1).f7) = true then some (Lib.compact ((cl_names (rd_T52 l0_2 a1).f7).mergeSort fun x y => decide (x ≤ y)), 0) else some ([], 2)) else none) else some ([], 2)
set_option maxHeartbeats 4000000 in
set_option maxRecDepth 100000 in
theorem calls_Whom.calls (A0_0 : Option Addr) (c0_0 : Nat) (l0_0 : List (S86)) (A0_1 : Option Addr) (c0_1 : Nat) (l0_1 : List (S86)) (A0_2 : Option Addr) (c0_2 : Nat) (l0_2 : List (S52)) (a0_3 : Int) (a1 : Int) (r1 : List Int) (r2 : Int) (w : World) (hr0_0 : Kd.C k86 w A0_0 l0_0.length l0_0) (hc0_0 : l0_0.length ≤ c0_0) (hr0_1 : Kd.C k86 w A0_1 l0_1.length l0_1) (hc0_1 : l0_1.length ≤ c0_1) (hr0_2 : Kd.C k52 w A0_2 l0_2.length l0_2) (hc0_2 : l0_2.length ≤ c0_2) (h : calls_Whom.f l0_0 l0_1 l0_2 a0_3 a1 = some (r1, r2)) :
    Calls Try.prog 29 #[.agg #[.slice A0_0 l0_0.length c0_0, .slice A0_1 l0_1.length c0_1, .slice A0_2 l0_2.length c0_2, .int .i64 a0_3], .int .i64 a1] w fun e w' => ∃ v0_ : Value, e = .returned (.tuple #[v0_, .int .i64 r2]) ∧ Kd.R (Kd.int .i64) 3 w' w.heap.size (fun _ => True) v0_ r1 ∧ Below w.heap.size w w' := by
  have HR := Aside0.mk hr0_2; clear hr0_0 hr0_1 hr0_2 hc0_0 hc0_1 hc0_2
  unfold calls_Whom.f at h
  by_cases h1 : 0 ≤ a1 ∧ a1 < (l0_2.length : Int)
  · rw [if_pos h1] at h
    by_cases h2 : (rd_T52 l0_2 a1).f7.length ≤ 100000
    case neg => rw [if_neg h2] at h; cases h
    rw [if_pos h2] at h
    have H := Aside0.mk h; clear h; obtain ⟨h3, h4⟩ := h1
    have h5 : ¬ a1 < 0 := by omega
    have h6 : ¬ (l0_2.length : Int) ≤ a1 := by omega
    refine (callsIn_wide (n := 5)).1 ?_; refine callsIn_of_wp_marks Try.func29 rfl trivial ?_ rfl; simp only [Try.ntmps29, List.size_toArray, List.length_cons, List.length_nil, Nat.reduceAdd, Nat.reduceSub, Array.replicate_succ, Array.replicate_zero, List.push_toArray, List.append_toArray, List.nil_append, List.cons_append]
    gi_wp2_with (first | (refine ⟨trivial, ?_⟩; gi_at_call 54; (refine (named_in _ _ _ _ _ _ _ _ _ _ _ _ _).mono ?_); rintro e w2 ⟨rfl, rfl⟩))
    obtain ⟨W0, hW0⟩ : ∃ W0, (((((w.alloc (.cells #[.slice A0_0 l0_0.length c0_0, .slice A0_1 l0_1.length c0_1, .slice A0_2 l0_2.length c0_2, .int .i64 a0_3] 25)).alloc (.cells #[.slice none 0 0] 53)).alloc (.cells #[.int .i64 0] 35)).alloc (.cells #[.slice none 0 0] 53)).alloc (.cells #[.slice A0_0 l0_0.length c0_0, .slice A0_1 l0_1.length c0_1, .slice A0_2 l0_2.length c0_2, .int .i64 a0_3] 25)).alloc (.cells #[.int .i64 a1] 3) = W0 := ⟨_, rfl⟩
    have hB0 : Below w.heap.size w W0 := by rw [← hW0]; exact below_alloc (below_alloc (below_alloc (below_alloc (below_alloc (below_alloc (Below.refl _ _) _) _) _) _) _) _
    have hsz : W0.heap.size = w.heap.size + 6 := by rw [← hW0]; simp
    have hP0 : WSt w W0 #[.slice A0_0 l0_0.length c0_0, .slice A0_1 l0_1.length c0_1, .slice A0_2 l0_2.length c0_2, .int .i64 a0_3] (.slice none 0 0) (.slice none 0 0) (.slice none 0 0) (.int .i64 0) [] := by
      rw [← hW0]; refine ⟨blk_alloc (blk_alloc (blk_alloc (blk_alloc (blk_alloc (blk_new _ _) _) _) _) _) _, ?_, ?_, ?_, by rw [hW0]; exact hB0, Kd.R_nil _ _ _ _ _⟩
      · have := blk_new (w.alloc (.cells #[.slice A0_0 l0_0.length c0_0, .slice A0_1 l0_1.length c0_1, .slice A0_2 l0_2.length c0_2, .int .i64 a0_3] 25)) (.cells #[.slice none 0 0] 53)
        rw [World.size_alloc] at this; exact blk_alloc (blk_alloc (blk_alloc (blk_alloc this _) _) _) _
      · have := blk_new ((w.alloc (.cells #[.slice A0_0 l0_0.length c0_0, .slice A0_1 l0_1.length c0_1, .slice A0_2 l0_2.length c0_2, .int .i64 a0_3] 25)).alloc (.cells #[.slice none 0 0] 53)) (.cells #[.int .i64 0] 35)
        rw [World.size_alloc, World.size_alloc] at this; exact blk_alloc (blk_alloc (blk_alloc this _) _) _
      · have := blk_new (((w.alloc (.cells #[.slice A0_0 l0_0.length c0_0, .slice A0_1 l0_1.length c0_1, .slice A0_2 l0_2.length c0_2, .int .i64 a0_3] 25)).alloc (.cells #[.slice none 0 0] 53)).alloc (.cells #[.int .i64 0] 35)) (.cells #[.slice none 0 0] 53)
        rw [World.size_alloc, World.size_alloc, World.size_alloc] at this; exact blk_alloc (blk_alloc this _) _
    have hp0 : W0.cell? ⟨w.heap.size + 1 + 1 + 1 + 1, 2, none⟩ = some (.slice A0_2 l0_2.length c0_2) := by
      rw [← hW0]; have := blk_new ((((w.alloc (.cells #[.slice A0_0 l0_0.length c0_0, .slice A0_1 l0_1.length c0_1, .slice A0_2 l0_2.length c0_2, .int .i64 a0_3] 25)).alloc (.cells #[.slice none 0 0] 53)).alloc (.cells #[.int .i64 0] 35)).alloc (.cells #[.slice none 0 0] 53)) (.cells #[.slice A0_0 l0_0.length c0_0, .slice A0_1 l0_1.length c0_1, .slice A0_2 l0_2.length c0_2, .int .i64 a0_3] 25); rw [World.size_alloc, World.size_alloc, World.size_alloc, World.size_alloc] at this; exact blk_cell (blk_alloc this _) 2
    have hp1 : W0.cell? ⟨w.heap.size + 1 + 1 + 1 + 1 + 1, 0, none⟩ = some (.int .i64 a1) := by
      rw [← hW0]; have := blk_new (((((w.alloc (.cells #[.slice A0_0 l0_0.length c0_0, .slice A0_1 l0_1.length c0_1, .slice A0_2 l0_2.length c0_2, .int .i64 a0_3] 25)).alloc (.cells #[.slice none 0 0] 53)).alloc (.cells #[.int .i64 0] 35)).alloc (.cells #[.slice none 0 0] 53)).alloc (.cells #[.slice A0_0 l0_0.length c0_0, .slice A0_1 l0_1.length c0_1, .slice A0_2 l0_2.length c0_2, .int .i64 a0_3] 25)) (.cells #[.int .i64 a1] 3); rw [World.size_alloc, World.size_alloc, World.size_alloc, World.size_alloc, World.size_alloc] at this; exact blk_cell this 0
    rw [hW0]; clear hW0
    refine wpIn_rangeFunc_ownF rfl (by omega) (gf := 69) (lb := #[.pointer (some ⟨w.heap.size + 1 + 1 + 1 + 1, 0, none⟩), .pointer (some ⟨w.heap.size + 1 + 1 + 1 + 1 + 1, 0, none⟩)]) rfl trivial (enters_of Try.func69 (by kernel_rfl) rfl)
      (named_stops (5 - 1) (by omega) (w.heap.size + 1 + 1 + 1 + 1) w.heap.size A0_2 c0_2 l0_2 a1 ⟨h3, h4⟩ w W0 hB0 (Nat.le_refl _) (by omega) h2 (by omega) hp0 hp1 HR.out) belowK_t (belowK_b (by omega)) (Below.refl _ _) (fun _ => rfl)
      (fun pre W => (∃ v, WSt w W #[.slice A0_0 l0_0.length c0_0, .slice A0_1 l0_1.length c0_1, .slice A0_2 l0_2.length c0_2, .int .i64 a0_3] v v (.slice none 0 0) (.int .i64 0) pre) ∧ cl_ok l0_2.length pre = true)
      (fun c pre W => c = .ret ∧ (∃ v xs, WSt w W #[.slice A0_0 l0_0.length c0_0, .slice A0_1 l0_1.length c0_1, .slice A0_2 l0_2.length c0_2, .int .i64 a0_3] v v (.slice none 0 0) (.int .i64 2) xs) ∧ cl_ok l0_2.length pre = false)
      (fun pre W W' row hs hg hr => by obtain ⟨⟨v, hs⟩, hall⟩ := hs; exact ⟨⟨v, hs.turn (by omega) hg hr⟩, hall⟩)
      (fun c pre W W' row hs hg hr => by obtain ⟨hc, ⟨v, xs, hs⟩, hall⟩ := hs; exact ⟨hc, ⟨v, xs, hs.turn (by omega) hg hr⟩, hall⟩)
      ⟨⟨_, hP0⟩, rfl⟩
      (fun x => { tmps := #[.agg #[.slice A0_0 l0_0.length c0_0, .slice A0_1 l0_1.length c0_1, .slice A0_2 l0_2.length c0_2, .int .i64 a0_3], .int .i64 a1, .pointer (some ⟨w.heap.size, 0, none⟩), undef, .pointer (some ⟨w.heap.size + 1, 0, none⟩), .pointer (some ⟨w.heap.size + 1 + 1, 0, none⟩), .pointer (some ⟨w.heap.size + 1 + 1 + 1, 0, none⟩), .int .i64 x, .int .i64 a1, .bool false, .bool false, .int .i64 a1, .pointer (some ⟨w.heap.size, 2, none⟩), .slice A0_2 l0_2.length c0_2, .int .i64 l0_2.length, .bool false, .bool false, .agg #[.slice A0_0 l0_0.length c0_0, .slice A0_1 l0_1.length c0_1, .slice A0_2 l0_2.length c0_2, .int .i64 a0_3], .int .i64 a1, .func (.func 69) #[] #[.pointer (some ⟨w.heap.size + 1 + 1 + 1 + 1, 0, none⟩), .pointer (some ⟨w.heap.size + 1 + 1 + 1 + 1 + 1, 0, none⟩)], .int .i64 x, undef, undef, undef, undef, undef, undef, undef, undef, undef, undef, undef, undef, undef, undef, undef, undef, undef], defers := [] })
      ?assign ?body ?done ?stop
    case assign =>
      intro l x W K hK
      gi_wp2
      exact hK
    case body =>
      rintro l pre x W ⟨⟨v, hst⟩, hall⟩ hlt; have HS := Aside0.mk hst; have HL := Aside0.mk hall; clear hst hall; obtain ⟨Av, cv, rfl⟩ := Kd.R_slice HS.out.2.2.2.2.2; have m2 := blk_cell HS.out.1 2; have z0 := blk_cell HS.out.2.1 0; have y0 := blk_frozen HS.out.2.1 0; have z1 := blk_cell HS.out.2.2.1 0; have y1 := blk_frozen HS.out.2.2.1 0; have z3 := blk_cell HS.out.2.2.2.1 0; have y3 := blk_frozen HS.out.2.2.2.1 0; have hlow : w.heap.size + 1 + 1 + 1 < W.heap.size := blk_lt HS.out.2.2.2.1
      by_cases c1 : x < 0
      · gi_wp2
        exact ⟨(KeepsOthers.setCell _ _ _).trans (KeepsOthers.setCell _ _ _), rfl, ⟨_, pre, HS.out.res _ _⟩, by rw [cl_ok_snoc, decide_eq_false (by omega), Bool.and_false]⟩
      · by_cases c2 : (l0_2.length : Int) ≤ x
        · gi_wp2
          exact ⟨(KeepsOthers.setCell _ _ _).trans (KeepsOthers.setCell _ _ _), rfl, ⟨_, pre, HS.out.res _ _⟩, by rw [cl_ok_snoc, decide_eq_false (by omega), Bool.and_false]⟩
        · gi_wp2_with (first | (gi_at_builtin; go_loud (refine R_append_in (Kd.int .i64) (w0 := w) w.heap.size rfl (.tmp 30) (.tmp 32) 53 3 (.int .i64 0) 8 rfl Try.underlying53 info3 rfl (by decide) (by omega) (.slice Av pre.length cv) pre x [.int .i64 x] (fun k => w.heap.size + 4 ≤ k) (fun _ => False) rfl (by first | (go_simp; done) | (go_simp; rfl)) ?aP (fun _ hk => hk.elim) ?aF HS.out.2.2.2.2.2 HS.out.2.2.2.2.1 HS.out.2.2.2.2.1.size ?aL ?_); (case aP => exact (rfl : ([Value.int .i64 x] : List Value) = [Value.int .i64 x])); (case aF => exact fun k_ hk_ => by omega); (case aL => omega); intro v9 w9 ho hb9 hg9 hat9; obtain ⟨A9, c9, rfl⟩ := Kd.R_slice ho; rw [List.length_append, List.length_singleton] at ho; have S9 := Aside0.mk ((HS.out.grown hg9 ho).put (.slice A9 (pre.length + 1) c9)); have K9 := Aside0.mk (R_keeps HS.out.2.2.2.2.2 hg9); have B9 := Aside0.mk ((Below.refl w.heap.size W).grown hg9 HS.out.2.2.2.2.1.size (fun k e => by have := HS.out.2.2.2.2.2.1 k e; omega)); have n90 := (blk_cell (blk_grown HS.out.2.2.2.1 hg9 (fun e => by have := HS.out.2.2.2.2.2.1 _ e.symm; omega)) 0); have f90 := (blk_frozen (blk_grown HS.out.2.2.2.1 hg9 (fun e => by have := HS.out.2.2.2.2.2.1 _ e.symm; omega)) 0); clear ho hb9 hg9 hat9))
          exact ⟨K9.out.trans (KeepsOthers.setCell _ _ _), B9.out.setCell (p := ⟨w.heap.size + 1 + 1 + 1, 0, none⟩) (by show _ ≤ w.heap.size + 1 + 1 + 1; omega) _, ⟨_, S9.out⟩, by rw [cl_ok_snoc, HL.out, decide_eq_true (by omega)]; rfl⟩
    case done =>
      rintro D ys W hD rfl ⟨⟨v, hst⟩, hall⟩ hK; have h := H.out
      rw [if_pos hall] at h
      obtain ⟨rfl, rfl⟩ := (by simpa using h : Lib.compact _ = r1 ∧ 0 = r2); clear h; have HS := Aside0.mk hst; have HK := Aside0.mk hK; have HD := Aside0.mk hD; clear hst hall H hK hD
      have hnl : (cl_names (rd_T52 l0_2 a1).f7).length ≤ 100000 := by unfold cl_names; rw [List.length_map]; exact Nat.le_trans (List.length_filter_le _ _) h2
      obtain ⟨ys, hys⟩ : ∃ ys, cl_names (rd_T52 l0_2 a1).f7 = ys := ⟨_, rfl⟩; rw [hys] at HS hnl; obtain ⟨Av, cv, rfl⟩ := Kd.R_slice HS.out.2.2.2.2.2; have z3 := blk_cell HS.out.2.2.2.1 0; have y3 := blk_frozen HS.out.2.2.2.1 0
      gi_wp2_with (first | (refine ⟨trivial, ?_⟩; gi_at_call 55; (refine (callsIn_wide.2 (sort_R W w.heap.size _ _ ys HS.out.2.2.2.2.2 (by omega))).mono ?_); rintro e w3 ⟨rfl, hR3, hg3⟩; have R3 := Aside0.mk hR3; have G3 := Aside0.mk hg3; have q3 := blk_cell (blk_grown HS.out.2.2.2.1 hg3 (fun e => by have := HS.out.2.2.2.2.2.1 _ e.symm; omega)) 0; have S3 := Aside0.mk (HS.out.grown hg3 hR3); clear hR3 hg3) | (refine ⟨trivial, ?_⟩; gi_at_call 56; (refine (callsIn_wide.2 (compact_R w3 w.heap.size _ _ _ R3.out (by rw [List.length_mergeSort]; omega))).mono ?_); rintro e w4 ⟨v4, rfl, hR4, hg4, ho4⟩; obtain ⟨A4, c4, rfl⟩ := Kd.R_slice hR4; have S4 := Aside0.mk (S3.out.grown hg4 hR4); have q40 := blk_cell S4.out.2.1 0; have f40 := blk_frozen S4.out.2.1 0; have q41 := blk_cell S4.out.2.2.1 0; have f41 := blk_frozen S4.out.2.2.1 0; have K4 := Aside0.mk (blk_grown (blk_grown HK.out G3.out (R_not HS.out.2.2.2.2.2 HK.out rfl)) hg4 (fun e => R_not HS.out.2.2.2.2.2 HK.out rfl e)); clear hR4 hg4 ho4))
      have S5 := S4.out.res (.slice A4 (Lib.compact (ys.mergeSort fun x y => decide (x ≤ y))).length c4) (.int .i64 0); have K5 := (KeepsOthers.setCell (w4.setCell ⟨w.heap.size + 1, 0, none⟩ (.slice A4 (Lib.compact (ys.mergeSort fun x y => decide (x ≤ y))).length c4)) ⟨w.heap.size + 1 + 1, 0, none⟩ (.int .i64 0)).same D _ ((KeepsOthers.setCell w4 ⟨w.heap.size + 1, 0, none⟩ (.slice A4 (Lib.compact (ys.mergeSort fun x y => decide (x ≤ y))).length c4)).same D _ K4.out rfl) rfl; have k0 := cell_kept (blk_cell S5.2.1 0) (grownBy_putObj' _ D (.deferred none)) (fun r e => by cases e; exact ⟨_, K5, rfl⟩); have k1 := cell_kept (blk_cell S5.2.2.1 0) (grownBy_putObj' _ D (.deferred none)) (fun r e => by cases e; exact ⟨_, K5, rfl⟩); subst hys; refine ⟨by simp, .inl ⟨_, _, rfl, run_takeDeferred K5, ?_⟩⟩; refine ⟨.tuple #[.slice A4 (Lib.compact ((cl_names (rd_T52 l0_2 a1).f7).mergeSort fun x y => decide (x ≤ y))).length c4, .int .i64 0], by simp [results, Try.f29, go_sem, k0, k1], _, rfl, Kd.R_mono (R_turn S5.2.2.2.2.2 (grownBy_putObj' _ D (.deferred none)) (fun r e => by cases e; exact ⟨_, K5, rfl⟩)) (fun _ _ => trivial), (S5.2.2.2.2.1).trans (belowK_b (w := w) (Nat.le_refl _) _ D _ _ (by have := HD.out; omega) K5 rfl rfl)⟩
    case stop =>
      rintro D c pre W hD ⟨t, ht⟩ ⟨rfl, ⟨v, xs, hst⟩, hall⟩ hK; have h := H.out
      rw [ht, cl_ok_append, hall, Bool.false_and, if_neg (by decide)] at h
      obtain ⟨rfl, rfl⟩ := (by simpa using h : [] = r1 ∧ 2 = r2)
      gi_wp2
      have k0 := cell_kept (blk_cell hst.2.1 0) (grownBy_putObj' _ D (.deferred none)) (fun r e => by cases e; exact ⟨_, hK, rfl⟩); have k1 := cell_kept (blk_cell hst.2.2.1 0) (grownBy_putObj' _ D (.deferred none)) (fun r e => by cases e; exact ⟨_, hK, rfl⟩); refine ⟨by simp, .inl ⟨_, _, rfl, run_takeDeferred hK, ?_⟩⟩; refine ⟨.tuple #[.slice none 0 0, .int .i64 2], by simp [results, Try.f29, go_sem, k0, k1], _, rfl, Kd.R_nil _ _ _ _ _, (hst.2.2.2.2.1).trans (belowK_b (w := w) (Nat.le_refl _) _ D _ _ (by omega) hK rfl rfl)⟩
  · rw [if_neg h1] at h
    obtain ⟨rfl, rfl⟩ := (by simpa using h : [] = r1 ∧ 2 = r2); have k1 := blk_cell (blk_alloc (blk_new (w.alloc (.cells #[.slice A0_0 l0_0.length c0_0, .slice A0_1 l0_1.length c0_1, .slice A0_2 l0_2.length c0_2, .int .i64 a0_3] 25)) (.cells #[.slice none 0 0] 53)) (.cells #[.int .i64 2] 35)) 0; have k2 := blk_cell (blk_new ((w.alloc (.cells #[.slice A0_0 l0_0.length c0_0, .slice A0_1 l0_1.length c0_1, .slice A0_2 l0_2.length c0_2, .int .i64 a0_3] 25)).alloc (.cells #[.slice none 0 0] 53)) (.cells #[.int .i64 2] 35)) 0; rw [World.size_alloc] at k1 k2; rw [World.size_alloc] at k2
    by_cases h5 : a1 < 0
    · go_enter Try.func29, Try.ntmps29
      go_wp2; refine bodyPost_ret (v := .tuple #[.slice none 0 0, .int .i64 2]) (by simp [results, Try.f29, go_sem, k1, k2]) rfl ⟨_, rfl, Kd.R_nil _ _ _ _ _, below_alloc (below_alloc (below_alloc (Below.refl _ _) _) _) _⟩
    · have h6 : (l0_2.length : Int) ≤ a1 := by omega
      go_enter Try.func29, Try.ntmps29
      go_wp2; refine bodyPost_ret (v := .tuple #[.slice none 0 0, .int .i64 2]) (by simp [results, Try.f29, go_sem, k1, k2]) rfl ⟨_, rfl, Kd.R_nil _ _ _ _ _, below_alloc (below_alloc (below_alloc (Below.refl _ _) _) _) _⟩
end

/-! ### pure_whom: function 43 -/
def pure_whom.l0 : Nat → List (List Int) → Int → Int → List (S86) → List (S86) → List (S52) → Int → Option ((List (List Int)) × Int)
 | 0, _, _, _, _, _, _, _ => none
 | k + 1, x4, x10, x11, x209000, x209001, x209002, x209003 => if x11 < x10 then ((calls_Whom.f x209000 x209001 x209002 x209003 x11).bind fun bt209 => (if bt209.2 = 0 then (if x4.length < 5864062014805 then (pure_whom.l0 k (x4 ++ [bt209.1]) x10 (wrap64 (x11 + 1)) x209000 x209001 x209002 x209003) else (none)) else (some (([] : List (List Int)), bt209.2)))) else (some (x4, 0))
def pure_whom.f (k : Nat) (l0_0 : List (S86)) (l0_1 : List (S86)) (l0_2 : List (S52)) (a0_3 : Int) : Option ((List (List Int)) × Int) := pure_whom.l0 k ([] : List (List Int)) (l0_2.length : Int) 0 l0_0 l0_1 l0_2 a0_3
theorem pure_whom.mono_l : ∀ k, (∀ y0 y1 y2 y3 y4 y5 y6, LeO (pure_whom.l0 k y0 y1 y2 y3 y4 y5 y6) (pure_whom.l0 (k + 1) y0 y1 y2 y3 y4 y5 y6))
 | 0 => fun _ _ _ _ _ _ _ r h => by simp [pure_whom.l0] at h
 | k + 1 => by
  have ih0 := pure_whom.mono_l k
  ·
   intro y0 y1 y2 y3 y4 y5 y6
   unfold pure_whom.l0
   repeat' first
   | (with_reducible exact ih0 _ _ _ _ _ _ _)
   | (with_reducible exact LeO.refl _)
   | (with_reducible exact LeO.none _)
   | (with_reducible refine LeO.ite ?_ ?_)
   | (with_reducible refine LeO.bind ?_ (fun _ => ?_))
   | exact ih0 _ _ _ _ _ _ _
   | exact LeO.none _
   | refine LeO.ite ?_ ?_
   | refine LeO.bind ?_ (fun _ => ?_)
theorem pure_whom.mono : ∀ a0 a1 a2 a3 k, LeO (pure_whom.f k a0 a1 a2 a3) (pure_whom.f (k + 1) a0 a1 a2 a3) := by
 intro a0 a1 a2 a3 k; have ih0 := pure_whom.mono_l k
 unfold pure_whom.f
 repeat' first
   | (with_reducible exact ih0 _ _ _ _ _ _ _)
   | (with_reducible exact LeO.refl _)
   | (with_reducible exact LeO.none _)
   | (with_reducible refine LeO.ite ?_ ?_)
   | (with_reducible refine LeO.bind ?_ (fun _ => ?_))
   | exact ih0 _ _ _ _ _ _ _
   | exact LeO.none _
   | refine LeO.ite ?_ ?_
   | refine LeO.bind ?_ (fun _ => ?_)
set_option maxHeartbeats 8000000 in
set_option maxRecDepth 100000 in
theorem pure_whom.calls (k : Nat) (A0_0 : Option Addr) (c0_0 : Nat) (l0_0 : List (S86)) (A0_1 : Option Addr) (c0_1 : Nat) (l0_1 : List (S86)) (A0_2 : Option Addr) (c0_2 : Nat) (l0_2 : List (S52)) (a0_3 : Int) (r1 : List (List Int)) (r2 : Int) (w : World) (hr0_0 : Kd.C k86 w A0_0 l0_0.length l0_0) (hc0_0 : l0_0.length ≤ c0_0) (hr0_1 : Kd.C k86 w A0_1 l0_1.length l0_1) (hc0_1 : l0_1.length ≤ c0_1) (hr0_2 : Kd.C k52 w A0_2 l0_2.length l0_2) (hc0_2 : l0_2.length ≤ c0_2) (h : pure_whom.f k l0_0 l0_1 l0_2 a0_3 = some (r1, r2)) :
  Calls Try.prog 43 #[.agg #[.slice A0_0 l0_0.length c0_0, .slice A0_1 l0_1.length c0_1, .slice A0_2 l0_2.length c0_2, .int .i64 a0_3]] w fun e w' => ∃ v0_ : Value, e = .returned (.tuple #[v0_, .int .i64 r2]) ∧ Kd.S (Kd.slice 3 (Kd.int .i64)) 53 w' w.heap.size (fun _ => True) v0_ r1 ∧ Below w.heap.size w w' := by
 have hu25 := Try.underlying25; have HR0_0 := Aside0.mk hr0_0; have HC0_0 := Aside0.mk hc0_0; clear hr0_0 hc0_0; have HR0_1 := Aside0.mk hr0_1; have HC0_1 := Aside0.mk hc0_1; clear hr0_1 hc0_1; have HR0_2 := Aside0.mk hr0_2; have HC0_2 := Aside0.mk hc0_2; clear hr0_2 hc0_2; have HB := Aside0.mk (Below.refl w.heap.size w); have H : (pure_whom.l0 k ([] : List (List Int)) (l0_2.length : Int) 0 l0_0 l0_1 l0_2 a0_3) = some (r1, r2) := h; clear h; have H' := Aside0.mk H; clear H
 go_enter Try.func43, Try.ntmps43
 go_wp2_with (first | ((with_reducible refine gate_dst (N := 1) rfl ?_); refine box_event ?hg (N := 1) ?hd (cs := #[.slice A0_0 l0_0.length c0_0, .slice A0_1 l0_1.length c0_1, .slice A0_2 l0_2.length c0_2, .int .i64 a0_3]) (t := 25) ?hr ?_; (case hd => rfl); (case hg => rfl); (case hr => first | (go_simp; done) | (go_simp; rfl)); intro gb208 hg w2 hbox hb; have n0_ := Aside0.mk (below_step (au1) hb); have n1_ := Aside0.mk (hbox); have n2_ := Aside0.mk ((au28 : w.heap.size ≤ gb208)); have n3_ := Aside0.mk ((au28 : w.heap.size ≤ gb208)); clear HB; have HB := n0_; have BK208 := n1_; have GW208 := n2_; have GE208 := n3_; clear n0_ n1_ n2_ n3_; clear hb hbox hg; obtain ⟨hcz3_0, hcz3_1, hcz3_2, hcz3_3, hfz3_0, hfz3_1, hfz3_2, hfz3_3⟩ := blk_all4 BK208.out))
 go_loopg [4, 11] k (fun kq v4 v11 w' => ∃ (x4_1 : List (List Int)) (x11_1 : Int), v11 = .int .i64 x11_1 ∧ Aside0 (pure_whom.l0 kq x4_1 (l0_2.length : Int) x11_1 l0_0 l0_1 l0_2 a0_3 = some (r1, r2)) ∧ Aside0 (kq ≤ k) ∧ Aside0 (Kd.S (Kd.slice 3 (Kd.int .i64)) 53 w' w.heap.size (fun _ => True) v4 x4_1) ∧ Aside0 (w'.heap[gb208]? = some (.cells #[(.slice A0_0 l0_0.length c0_0), (.slice A0_1 l0_1.length c0_1), (.slice A0_2 l0_2.length c0_2), .int .i64 a0_3] 25 (0, 0))) ∧ Aside0 (Below w.heap.size w w'))
 case atStart => exact ⟨(([] : List (List Int))), (0), (au17), H', ⟨Nat.le_refl _⟩, ⟨au63⟩, ⟨au73⟩, ⟨au27⟩⟩
 case round =>
  clear H'; (try clear p2); (try clear hcz3_0); (try clear hcz3_1); (try clear hcz3_2); (try clear hcz3_3); (try clear hfz3_0); (try clear hfz3_1); (try clear hfz3_2); (try clear hfz3_3); obtain ⟨x4_1, x11_1, rfl, HA, HK1, HO_4, BK208, HB⟩ := hrel
  cases gk with
  | zero => exact absurd HA.out (by simp [pure_whom.l0])
  | succ k1 =>
   have H := HA.out; clear HA; simp only [pure_whom.l0] at H
   by_cases c4 : x11_1 < (l0_2.length : Int)
   rotate_left
   ·
    rw [if_neg c4] at H; have c4b0 : decide (x11_1 < (l0_2.length : Int)) = false := decide_eq_false c4; clear c4; simp only [Option.some.injEq, Prod.mk.injEq] at H; obtain ⟨rfl, rfl⟩ := H; go_wp2
    go_ret2
    exact ⟨_, au13, au101, au27⟩

   rw [if_pos c4] at H; have c4b0 : decide (x11_1 < (l0_2.length : Int)) = true := decide_eq_true c4; clear c4; replace H := Option.bind_eq_some_iff.mp H; obtain ⟨⟨t209, t212⟩, A50, H⟩ := H; replace H : (if t212 = 0 then (if x4_1.length < 5864062014805 then (pure_whom.l0 k1 (x4_1 ++ [t209]) (l0_2.length : Int) (wrap64 (x11_1 + 1)) l0_0 l0_1 l0_2 a0_3) else (none)) else (some (([] : List (List Int)), t212))) = some (r1, r2) := H; have A5 := Aside0.mk A50; clear A50
   by_cases c6 : t212 = 0
   rotate_left
   ·
    rw [if_neg c6] at H; have c6b0 : (t212 == 0) = false := beq_eq_false_iff_ne.mpr c6; have c6b1 : (t212 != 0) = true := bne_iff_ne.mpr c6; simp only [Option.some.injEq, Prod.mk.injEq] at H; obtain ⟨rfl, rfl⟩ := H; obtain ⟨hcz12_0, hcz12_1, hcz12_2, hcz12_3, hfz12_0, hfz12_1, hfz12_2, hfz12_3⟩ := blk_all4 BK208.out
    go_wp2_with (first | ((with_reducible refine gate_callee (f := 29) rfl ?_); refine goesL_ (some 17) rfl rfl Try.func29 (by kernel_rfl) rfl #[.agg #[.slice A0_0 l0_0.length c0_0, .slice A0_1 l0_1.length c0_1, .slice A0_2 l0_2.length c0_2, .int .i64 a0_3], .int .i64 x11_1] rfl (au10) ?_; (with_reducible refine (calls_Whom.calls _ _ l0_0 _ _ l0_1 _ _ l0_2 a0_3 x11_1 t209 t212 _ ?side1 ?side2 ?side3 ?side4 ?side5 ?side6 A5.out).mono ?_); (case side1 => exact au4); (case side2 => exact HC0_0.out); (case side3 => exact au12); (case side4 => exact HC0_1.out); (case side5 => exact au14); (case side6 => exact HC0_2.out); rintro e w13 ⟨v210, rfl, ho0, hb⟩; refine ⟨_, rfl, ?_⟩; have n0_ := Aside0.mk (Kd.S_elder' (au101) (Kd.R_base ho0) hb); have n1_ := Aside0.mk (Kd.R_lower ho0 (below_size (au27))); have n2_ := Aside0.mk (blk_below (g := gb208) (o := .cells #[.slice A0_0 l0_0.length c0_0, .slice A0_1 l0_1.length c0_1, .slice A0_2 l0_2.length c0_2, .int .i64 a0_3] 25 (0, 0)) (au73) hb); have n3_ := Aside0.mk (below_step (au27) hb); clear HO_4; clear BK208; clear HB; have HO_4 := n0_; have HO211 := n1_; have BK208 := n2_; have HB := n3_; clear n0_ n1_ n2_ n3_; (try clear hb); (try clear hb2); (try clear hk); (try clear hi); (try clear ho0)))
    go_ret2
    exact ⟨_, au13, au63, au27⟩
   rw [if_pos c6] at H; have c6b0 : (t212 == 0) = true := beq_iff_eq.mpr c6; have c6b1 : (t212 != 0) = false := bne_eq_false_iff_eq.mpr c6; clear c6
   by_cases c7 : x4_1.length < 5864062014805
   rotate_left
   · rw [if_neg c7] at H; exact absurd H (by simp)
   rw [if_pos c7] at H; have LMc7 := Aside0.mk c7; clear c7; obtain ⟨y213, hy213⟩ : ∃ y_ : List (List Int), y_ = (x4_1 ++ [t209]) := ⟨_, rfl⟩
   replace H : (pure_whom.l0 k1 y213 (l0_2.length : Int) (wrap64 (x11_1 + 1)) l0_0 l0_1 l0_2 a0_3) = some (r1, r2) := by first | (rw [hy213]; with_reducible exact H) | (have H2_ := (Option.bind_some _ _).symm.trans H; rw [hy213]; with_reducible exact H2_) | (have H2_ := (Option.bind_some _ _).symm.trans H; with_reducible exact H2_) | with_reducible exact H | (rw [hy213]; exact H) | exact H
   have Ny213 := Aside0.mk hy213; clear hy213; have H' := Aside0.mk H; clear H; obtain ⟨hcz8_0, hcz8_1, hcz8_2, hcz8_3, hfz8_0, hfz8_1, hfz8_2, hfz8_3⟩ := blk_all4 BK208.out
   go_wp2_with (first | ((with_reducible refine gate_callee (f := 29) rfl ?_); refine goesL_ (some 17) rfl rfl Try.func29 (by kernel_rfl) rfl #[.agg #[.slice A0_0 l0_0.length c0_0, .slice A0_1 l0_1.length c0_1, .slice A0_2 l0_2.length c0_2, .int .i64 a0_3], .int .i64 x11_1] rfl (au10) ?_; (with_reducible refine (calls_Whom.calls _ _ l0_0 _ _ l0_1 _ _ l0_2 a0_3 x11_1 t209 t212 _ ?side1 ?side2 ?side3 ?side4 ?side5 ?side6 A5.out).mono ?_); (case side1 => exact au4); (case side2 => exact HC0_0.out); (case side3 => exact au12); (case side4 => exact HC0_1.out); (case side5 => exact au14); (case side6 => exact HC0_2.out); rintro e w9 ⟨v210, rfl, ho0, hb⟩; refine ⟨_, rfl, ?_⟩; have n0_ := Aside0.mk (Kd.S_elder' (au101) (Kd.R_base ho0) hb); have n1_ := Aside0.mk (Kd.R_lower ho0 (below_size (au27))); have n2_ := Aside0.mk (blk_below (g := gb208) (o := .cells #[.slice A0_0 l0_0.length c0_0, .slice A0_1 l0_1.length c0_1, .slice A0_2 l0_2.length c0_2, .int .i64 a0_3] 25 (0, 0)) (au73) hb); have n3_ := Aside0.mk (below_step (au27) hb); clear HO_4; clear BK208; clear HB; have HO_4 := n0_; have HO211 := n1_; have BK208 := n2_; have HB := n3_; clear n0_ n1_ n2_ n3_; (try clear hb); (try clear hb2); (try clear hk); (try clear hi); (try clear ho0); obtain ⟨Ao11, co11, eo11⟩ := Kd.R_slice HO211.out; subst eo11) | ((with_reducible refine gate_builtin (b := .append) (xs := #[.tmp 23, .tmp 25]) rfl ?_); at_builtin; refine Kd.S_append (Kd.slice 3 (Kd.int .i64)) (w0 := w) w.heap.size rfl (.tmp 23) (.tmp 25) 75 53 (.slice none 0 0) 24 rfl Try.underlying75 info53 rfl (by decide) (by omega) u4 x4_1 t209 [.slice Ao11 t209.length co11] (fun _ => True) (fun k_ => some k_ = (.slice Ao11 t209.length co11 : Value).ownBlock) rfl rfl ?aP (fun k_ hk_ => ((Kd.R_mono (ok' := fun k_ => ((fun _ => True)) k_ ∧ some k_ ≠ (u4 : Value).ownBlock) (Kd.R_apart' (HO211.out) (Kd.S_typed HO_4.out) (by decide)) (fun k_ hk => ⟨trivial, hk.2⟩))).1 k_ hk_.symm) ?aF ?aO ?aB ?aS ?aL ?_; (case aP => exact Kd.M_row (Kd.R_mono (Kd.R_tight rfl (Kd.R_mono (ok' := fun k_ => ((fun _ => True)) k_ ∧ some k_ ≠ (u4 : Value).ownBlock) (Kd.R_apart' (HO211.out) (Kd.S_typed HO_4.out) (by decide)) (fun k_ hk => ⟨trivial, hk.2⟩))) (fun _ h_ => h_))); (case aB => exact (au27)); (case aF => exact (fun _ _ => trivial)); (case aO => exact (by (with_reducible repeat (first | apply Kd.S_alloc | apply Kd.S_drewN | apply Kd.S_drew)); exact Kd.S_mono HO_4.out (fun k_ hk => ⟨trivial, fun e_ => hk.2 e_⟩))); (case aS => exact (below_size (au27))); (case aL => have := LMc7.out; omega); intro v214 w10 ho hb hg hat; rw [← Ny213.out] at ho; have n0_ := Aside0.mk (blk_grown (g := gb208) (o := .cells #[.slice A0_0 l0_0.length c0_0, .slice A0_1 l0_1.length c0_1, .slice A0_2 l0_2.length c0_2, .int .i64 a0_3] 25 (0, 0)) (au73) hg (Kd.S_ne HO_4.out BK208.out (by decide))); have n1_ := Aside0.mk (hb); have n2_ := Aside0.mk (ho); clear BK208; clear HB; clear HO_4; clear HO211; have BK208 := n0_; have HB := n1_; have HO215 := n2_; clear n0_ n1_ n2_; clear ho hb hg hat))
   go_roundg k1
   case measure => have := HK1.out; omega
   case rel => exact ⟨(y213), (wrap64 (x11_1 + 1)), (au17), H', ⟨by have := HK1.out; omega⟩, ⟨by (with_reducible repeat (first | apply Kd.S_alloc | apply Kd.S_drewN | apply Kd.S_drew)); first | exact HO215.out | exact Kd.S_mono (HO215.out) (fun _ h_ => h_.2)⟩, ⟨au73⟩, ⟨au27⟩⟩
-- NOT PRINTED: function 62 (slices_Index_int_int)

-- NOT PRINTED: function 44 (slices_Contains_int_int)

end Go.Proofs.Ytkmnachdibhdhaa.U
