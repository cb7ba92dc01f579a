/- Contracts of the functions of this seat (each: the call of the function does what the plain Lean function of the same name tells; the conditions stand in each statement). Written by a program of this session and by hand; checked by Lean. -/
import Derived.Test.YtkmnachdibhdhaaS0
import Derived.Test.YtkmnachdibhdhaaS3
import Derived.Test.YtkmnachdibhdhaaS6
namespace Go.Proofs.Ytkmnachdibhdhaa.S
open Go.RowKit Go.Proofs.YtkmnachdibhdhaaW.PrintWords Go.Proofs.YtkmnachdibhdhaaW.PrintLast Go.Proofs.YtkmnachdibhdhaaW.PrintMore
attribute [local go_sem] max2_int min2_int max_two min_two max_three min_three max_four min_four   -- for this text's walks alone
set_option linter.unusedVariables false
set_option linter.unusedSimpArgs false

/-! ### calls_Check: function 33 -/
def calls_Check.f (k : Nat) (l0_0 : List (S86)) (l0_1 : List (S86)) (l0_2 : List (S52)) (a0_3 : Int) : Option (Int) := (calls_Order.f k l0_0 l0_1 l0_2 a0_3).bind fun bt253 => (some bt253.2)
theorem calls_Check.mono : ∀ a0 a1 a2 a3 k, LeO (calls_Check.f k a0 a1 a2 a3) (calls_Check.f (k + 1) a0 a1 a2 a3) := by
 intro a0 a1 a2 a3 k
 unfold calls_Check.f
 repeat' first
   | (with_reducible exact calls_Order.mono _ _ _ _ _)
   | (with_reducible exact LeO.refl _)
   | (with_reducible exact LeO.none _)
   | (with_reducible refine LeO.ite ?_ ?_)
   | (with_reducible refine LeO.bind ?_ (fun _ => ?_))
   | exact calls_Order.mono _ _ _ _ _
   | exact LeO.none _
   | refine LeO.ite ?_ ?_
   | refine LeO.bind ?_ (fun _ => ?_)
set_option maxHeartbeats 8000000 in
set_option maxRecDepth 100000 in
theorem calls_Check.calls (k : Nat) (A0_0 : Option Addr) (c0_0 : Nat) (l0_0 : List (S86)) (A0_1 : Option Addr) (c0_1 : Nat) (l0_1 : List (S86)) (A0_2 : Option Addr) (c0_2 : Nat) (l0_2 : List (S52)) (a0_3 : Int) (r : Int) (w : World) (hr0_0 : Kd.C k86 w A0_0 l0_0.length l0_0) (hc0_0 : l0_0.length ≤ c0_0) (hr0_1 : Kd.C k86 w A0_1 l0_1.length l0_1) (hc0_1 : l0_1.length ≤ c0_1) (hr0_2 : Kd.C k52 w A0_2 l0_2.length l0_2) (hc0_2 : l0_2.length ≤ c0_2) (h : calls_Check.f k l0_0 l0_1 l0_2 a0_3 = some r) :
  Calls Try.prog 33 #[.agg #[.slice A0_0 l0_0.length c0_0, .slice A0_1 l0_1.length c0_1, .slice A0_2 l0_2.length c0_2, .int .i64 a0_3]] w fun e w' => e = .returned (.int .i64 r) ∧ Below w.heap.size w w' := by
 have hu25 := Try.underlying25
 have HR0_0 := Aside0.mk hr0_0
 have HC0_0 := Aside0.mk hc0_0
 clear hr0_0 hc0_0
 have HR0_1 := Aside0.mk hr0_1
 have HC0_1 := Aside0.mk hc0_1
 clear hr0_1 hc0_1
 have HR0_2 := Aside0.mk hr0_2
 have HC0_2 := Aside0.mk hc0_2
 clear hr0_2 hc0_2
 have HB := Aside0.mk (Below.refl w.heap.size w)
 have H : ((calls_Order.f k l0_0 l0_1 l0_2 a0_3).bind fun bt253 => (some bt253.2)) = some r := h
 clear h
 replace H := Option.bind_eq_some_iff.mp H
 obtain ⟨⟨t253, t256⟩, A20, H⟩ := H
 replace H : (some t256) = some r := H
 have A2 := Aside0.mk A20
 clear A20
 obtain rfl := Option.some.inj H
 go_enter Try.func33, Try.ntmps33
 go_wp2_with (first | ((with_reducible refine gate_dst (N := 1) rfl ?_); refine box_event ?hg (N := 1) ?hd (cs := #[.slice A0_0 l0_0.length c0_0, .slice A0_1 l0_1.length c0_1, .slice A0_2 l0_2.length c0_2, .int .i64 a0_3]) (t := 25) ?hr ?_; (case hd => rfl); (case hg => rfl); (case hr => first | (go_simp; done) | (go_simp; rfl)); intro gb252 hg w3 hbox hb; have n0_ := Aside0.mk (below_step (au1) hb); have n1_ := Aside0.mk (hbox); have n2_ := Aside0.mk ((au51 : w.heap.size ≤ gb252)); have n3_ := Aside0.mk ((au51 : w.heap.size ≤ gb252)); clear HB; have HB := n0_; have BK252 := n1_; have GW252 := n2_; have GE252 := n3_; clear n0_ n1_ n2_ n3_; clear hb hbox hg; obtain ⟨hcz4_0, hcz4_1, hcz4_2, hcz4_3, hfz4_0, hfz4_1, hfz4_2, hfz4_3⟩ := blk_all4 BK252.out) | ((with_reducible refine gate_callee (f := 30) rfl ?_); refine goesL_ (some 7) rfl rfl Try.func30 (by kernel_rfl) rfl #[.agg #[.slice A0_0 l0_0.length c0_0, .slice A0_1 l0_1.length c0_1, .slice A0_2 l0_2.length c0_2, .int .i64 a0_3]] rfl (au7) ?_; (with_reducible refine (calls_Order.calls k _ _ l0_0 _ _ l0_1 _ _ l0_2 a0_3 t253 t256 _ ?side1 ?side2 ?side3 ?side4 ?side5 ?side6 A2.out).mono ?_); (case side1 => exact au21); (case side2 => exact HC0_0.out); (case side3 => exact au17); (case side4 => exact HC0_1.out); (case side5 => exact au28); (case side6 => exact HC0_2.out); rintro e w5 ⟨v254, rfl, ho0, hb⟩; refine ⟨_, rfl, ?_⟩; have n0_ := Aside0.mk (Kd.R_lower ho0 (below_size (au71))); have n1_ := Aside0.mk (blk_below (g := gb252) (o := .cells #[.slice A0_0 l0_0.length c0_0, .slice A0_1 l0_1.length c0_1, .slice A0_2 l0_2.length c0_2, .int .i64 a0_3] 25 (0, 0)) (by (with_reducible repeat (first | refine blk_drewN ?_ _ | refine blk_drew ?_ | refine blk_alloc ?_ _)); exact BK252.out) hb); have n2_ := Aside0.mk (below_step (au71) hb); clear BK252; clear HB; have HO255 := n0_; have BK252 := n1_; have HB := n2_; clear n0_ n1_ n2_; (try clear hb); (try clear hb2); (try clear hk); (try clear hi); (try clear ho0)))
 go_ret
 exact ⟨au20, au71⟩

/-! ### calls_Leads: function 31 -/

/-- A row of ints in a block of one's own, from some place on to the block's end. -/
def TRow (W : World) (base : Nat) (ok : Nat → Prop) (v : Value) (xs : List Int) : Prop :=
  (v = .slice none 0 0 ∧ xs = []) ∨ ∃ g off cap cur, v = .slice (some ⟨g, off, none⟩) xs.length cap ∧ base ≤ g ∧ ok g ∧ W.heap[g]? = some (.cells cur 3 (0, 0)) ∧ xs.length ≤ cap ∧ cap ≤ maxLen ∧ off + cap ≤ cur.size ∧ (cur.toList.drop off).take xs.length = xs.map (Value.int .i64)
section
variable {W W' : World} {base : Nat} {ok : Nat → Prop} {v : Value} {xs : List Int}
theorem TRow.of_R (h : Kd.R (Kd.int .i64) 3 W base ok v xs) : TRow W base ok v xs := by
  rw [R_ints] at h
  obtain ⟨h0, hown⟩ := h
  rcases hown.2 with ⟨rfl, hz⟩ | ⟨g, cap, cur, rfl, hg, hh, h1, h2, h3, h4⟩
  · exact .inl ⟨rfl, List.eq_nil_of_length_eq_zero hz⟩
  · exact .inr ⟨g, 0, cap, cur, rfl, hg, h0 g rfl, hh, h1, h2, by omega, by rw [List.drop_zero]; simpa using h4⟩
theorem TRow.step (h : TRow W base ok v xs) (hm : ∀ k, ok k → base ≤ k → k < W.heap.size → W'.heap[k]? = W.heap[k]?) : TRow W' base ok v xs := by
  rcases h with h | ⟨g, off, cap, cur, e, hg, hok, hh, r⟩
  · exact .inl h
  · exact .inr ⟨g, off, cap, cur, e, hg, hok, (hm g hok hg (blk_lt hh)).trans hh, r⟩
theorem TRow.below (h : TRow W base ok v xs) (hb : Below W.heap.size W W') : TRow W' base ok v xs := h.step fun k _ _ hk => hb.block k hk
theorem TRow.grown (h : TRow W base ok v xs) {row : Option Nat} (hg : W.grownBy W' row) (hne : ∀ k, ok k → some k ≠ row) : TRow W' base ok v xs := h.step fun k ho _ hk => hg.block k hk (hne k ho)
theorem TRow.mono {ok' : Nat → Prop} (h : TRow W base ok v xs) (hok : ∀ k, ok k → base ≤ k → k < W.heap.size → ok' k) : TRow W base ok' v xs := by
  rcases h with h | ⟨g, off, cap, cur, e, hg, ho, hh, r⟩
  · exact .inl h
  · exact .inr ⟨g, off, cap, cur, e, hg, hok g ho hg (blk_lt hh), hh, r⟩
theorem TRow.shape (h : TRow W base ok v xs) : ∃ A c, v = .slice A xs.length c ∧ xs.length ≤ c := by
  rcases h with ⟨rfl, rfl⟩ | ⟨g, off, cap, cur, rfl, _, _, _, h1, _⟩
  · exact ⟨none, 0, rfl, Nat.le_refl _⟩
  · exact ⟨_, _, rfl, h1⟩
theorem TRow.own (h : TRow W base ok v xs) : ∀ k, v.ownBlock = some k → base ≤ k ∧ ok k ∧ k < W.heap.size := by
  rcases h with ⟨rfl, rfl⟩ | ⟨g, off, cap, cur, rfl, hg, ho, hh, _⟩
  · intro k hk; simp [Value.ownBlock] at hk
  · intro k hk
    obtain rfl : g = k := by simpa [Value.ownBlock] using hk
    exact ⟨hg, ho, blk_lt hh⟩
/-- The first one. -/
theorem TRow.head {x : Int} {t : List Int} (h : TRow W base ok v (x :: t)) : ∃ g off cap, v = .slice (some ⟨g, off, none⟩) (t.length + 1) cap ∧ W.cell? ⟨g, off, none⟩ = some (.int .i64 x) := by
  rcases h with ⟨_, h⟩ | ⟨g, off, cap, cur, rfl, hg, ho, hh, h1, h2, h3, h4⟩
  · cases h
  · rw [List.length_cons] at h1 h4
    have hlt : off < cur.toList.length := by simp; omega
    rw [List.drop_eq_getElem_cons hlt, List.take_succ_cons, List.map_cons, List.cons.injEq] at h4
    refine ⟨g, off, cap, rfl, ?_⟩
    rw [blk_cell hh off, ← h4.1]
    simp at hlt
    simp [hlt]
/-- v[1:]. -/
theorem TRow.tail {x : Int} {t : List Int} (h : TRow W base ok v (x :: t)) : ∃ A c, v = .slice A (t.length + 1) (c + 1) ∧ t.length ≤ c ∧ TRow W base ok (sliced A 1 (t.length + 1) (c + 1) 1) t ∧ (sliced A 1 (t.length + 1) (c + 1) 1).ownBlock = v.ownBlock := by
  rcases h with ⟨_, h⟩ | ⟨g, off, cap, cur, rfl, hg, ho, hh, h1, h2, h3, h4⟩
  · cases h
  · rw [List.length_cons] at h1 h4
    obtain ⟨cap, rfl⟩ : ∃ c, cap = c + 1 := ⟨cap - 1, by omega⟩
    refine ⟨_, cap, rfl, by omega, ?_, ?_⟩
    · unfold sliced
      by_cases h0 : cap = 0
      · subst h0
        have ht : t = [] := List.eq_nil_of_length_eq_zero (by omega)
        subst ht
        exact .inr ⟨g, off, 0, cur, rfl, hg, ho, hh, Nat.le_refl _, by decide, by omega, by simp⟩
      · rw [if_neg (by omega)]
        have hlt : off < cur.toList.length := by simp; omega
        rw [List.drop_eq_getElem_cons hlt, List.take_succ_cons, List.map_cons, List.cons.injEq] at h4
        exact .inr ⟨g, off + 1, cap, cur, by simp [Addr.add], hg, ho, hh, by omega, by unfold maxLen at *; omega, by omega, h4.2⟩
    · unfold sliced
      split <;> simp [Value.ownBlock, Addr.add]
/-- The operation v[1:]. -/
theorem tail_T {P : Program} {ops : Array Oper} {rest : List Oper} {o : Oper} {a : Act} {Q : Exit → Act → World → Prop} (hgd : o.guard = none) (s : Operand) (tt : TypeId) (ho : o.op = .slice tt s (some (.const (.int .i64 1))) none none) (ht : P.underlying tt = some (.slice 3)) (hinfo : (P.info? 3).map (fun i => (i.zero, i.size, i.bytes)) = some (some (.int .i64 0), 1, 8))
    {x : Int} {t : List Int} (hs : a.eval s = v) (HT : TRow W base ok v (x :: t)) (h : ∀ v1, TRow W base ok v1 t → v1.ownBlock = v.ownBlock → wpList P ops Q rest (a.put o.dst v1) W) :
    wpList P ops Q (o :: rest) a W := by
  obtain ⟨i0, hi, hzz⟩ := Option.map_eq_some_iff.1 hinfo
  simp only [Prod.mk.injEq] at hzz
  obtain ⟨hz0, hz1, hz2⟩ := hzz
  obtain ⟨A, c, rfl, hc, hT, hown⟩ := HT.tail
  have hel : P.elem tt = 3 := by simp [Program.elem, ht]
  have hrun : (Instr.sliceAt tt (.slice A (t.length + 1) (c + 1)) (some (.int .i64 1)) none none).run P W = .ok (sliced A 1 (t.length + 1) (c + 1) 1) W := by
    rw [run_sliceAt_slice W tt _ _ _ _ (by rw [hel]; exact ht), run_slice_l W tt A (t.length + 1) (c + 1) (by rw [hel]; exact ht) .i64 1 (by omega) (by omega), hel]
    simp [sizeOf, typeInfo, hi, hz1, Result.andThen]
  refine wpList_plain hgd fun K hK => ?_
  unfold Oper.wp
  have hone : a.eval (.const (.int .i64 1)) = .int .i64 1 := rfl
  simp [execOp, ho, hs, hone, hrun, Result.andThen]
  exact hK _ _ (h _ hT hown)
end
theorem heap_sortedT {w : World} {g off n : Nat} {os : Array Obj} {cur : Array Value} {e : TypeId} {fr : Nat × Nat} (d : Array Int) (hb : w.heap[g]? = some (.cells cur e fr)) :
    (Sort.grow (Sort.putRow (Value.int .i64) (Sort.ahead w n) g off d) os).heap[g]? = some (.cells (Sort.putCells (Value.int .i64) off d cur) e fr) := by
  have hg : g < w.heap.size := (Array.getElem?_eq_some_iff.1 hb).1
  rw [Sort.heap_grow_old _ _ (by simpa using hg)]
  simp [Sort.putRow, Sort.mapBlock, Sort.ahead, Array.getElem?_modify, hb, Sort.onCells]
theorem grownBy_sortedT {w : World} {g off n : Nat} {os : Array Obj} (d : Array Int) : w.grownBy (Sort.grow (Sort.putRow (Value.int .i64) (Sort.ahead w n) g off d) os) (some g) := by
  refine ⟨rfl, rfl, rfl, by simp, fun k hk hne => ?_⟩
  rw [Sort.heap_grow_old _ _ (by simpa using hk)]
  have : g ≠ k := fun e => hne (by rw [e])
  simp [Sort.putRow, Sort.mapBlock, Sort.ahead, Array.getElem?_modify, this]
theorem take_putCellsT (cur : Array Value) (off : Nat) (ts : List Int) (h : off + ts.length ≤ cur.size) : ((Sort.putCells (Value.int .i64) off ts.toArray cur).toList.drop off).take ts.length = ts.map (Value.int .i64) := by
  apply List.ext_getElem?
  intro j
  by_cases hj : j < ts.length
  · rw [List.getElem?_take_of_lt hj, List.getElem?_drop, Array.getElem?_toList]
    simp [Sort.putCells, hj, show off + j < cur.size by omega]
  · rw [List.getElem?_take_eq_none (by omega), List.getElem?_eq_none (by simp; omega)]
/-- slices.Sort at such a row. -/
theorem sort_T (W : World) (base : Nat) (ok : Nat → Prop) (v : Value) (xs : List Int) (h : TRow W base ok v xs) (hl : xs.length ≤ 17592186044416) :
    Calls Try.prog 55 #[v] W fun e w' => e = .returned (.tuple #[]) ∧ TRow w' base ok v (xs.mergeSort fun x y => decide (x ≤ y)) ∧ W.grownBy w' v.ownBlock := by
  rcases h with ⟨rfl, rfl⟩ | ⟨g, off, cap, cur, rfl, hg, ho, hh, h1, h2, h3, h4⟩
  · refine (Try.slices_Sort_int_none none 0 W).mono ?_
    rintro e w' ⟨rfl, rfl⟩
    exact ⟨rfl, .inl ⟨rfl, by simp⟩, ⟨rfl, rfl, rfl, Nat.le_refl _, fun _ _ _ => rfl⟩⟩
  · have hlt : g < W.heap.size := blk_lt hh
    have hH : Sort.Holds (Value.int .i64) W g off xs.toArray := by
      intro j hj
      have hj' : j < xs.length := by simpa using hj
      refine ⟨?_, blk_frozen hh _⟩
      have h5 : ((cur.toList.drop off).take xs.length)[j]? = (xs.map (Value.int .i64))[j]? := by rw [h4]
      rw [List.getElem?_take_of_lt hj', List.getElem?_drop, Array.getElem?_toList] at h5
      rw [blk_cell hh, h5]
      simp [hj']
    refine (Try.slices_Sort_int g off cap xs W hH hlt (by omega)).mono ?_
    rintro e w' ⟨rfl, n, os, rfl⟩
    refine ⟨rfl, .inr ⟨g, off, cap, _, by rw [List.length_mergeSort], hg, ho, heap_sortedT _ hh, by rw [List.length_mergeSort]; exact h1, h2, by simpa [Sort.putCells] using h3, ?_⟩, grownBy_sortedT _⟩
    exact take_putCellsT cur off _ (by rw [List.length_mergeSort]; omega)
/-- slices.Compact at such a row. -/
theorem compact_T (W : World) (base : Nat) (ok : Nat → Prop) (v : Value) (xs : List Int) (h : TRow W base ok v xs) :
    Calls Try.prog 56 #[v] W fun e w' => ∃ v', e = .returned v' ∧ TRow w' base ok v' (Lib.compact xs) ∧ W.grownBy w' v.ownBlock ∧ v'.ownBlock = v.ownBlock := by
  rcases h with ⟨rfl, rfl⟩ | ⟨g, off, cap, cur, rfl, hg, ho, hh, h1, h2, h3, h4⟩
  · refine (Try.slices_Compact_int_empty none 0 W).mono ?_
    rintro e w' ⟨rfl, rfl⟩
    exact ⟨_, rfl, .inl ⟨rfl, rfl⟩, ⟨rfl, rfl, rfl, Nat.le_refl _, fun _ _ _ => rfl⟩, rfl⟩
  · have hcell : ∀ j, j < xs.length → W.cell? ⟨g, off + j, none⟩ = some (.int .i64 (xs.getD j 0)) := by
      intro j hj
      have h5 : ((cur.toList.drop off).take xs.length)[j]? = (xs.map (Value.int .i64))[j]? := by rw [h4]
      rw [List.getElem?_take_of_lt hj, List.getElem?_drop, Array.getElem?_toList] at h5
      rw [blk_cell hh, h5]
      simp [hj]
    have hfr : ∀ j, j < xs.length → W.frozen? ⟨g, off + j, none⟩ = false := fun j hj => blk_frozen hh _
    refine (Try.slices_Compact_int_cells g off xs.length cap xs W (Nat.le_refl _) (by unfold maxLen at h2; omega) h1 hcell hfr).mono ?_
    rintro e w' ⟨rfl, q, rfl⟩
    rw [List.take_length]
    have hc := compact_le xs
    have hb : (W.drewN q).heap[g]? = some (.cells cur 3 (0, 0)) := hh
    obtain ⟨cur', a, b, c⟩ := setCells_blk ((Lib.compact xs ++ List.replicate (xs.length - (Lib.compact xs).length) 0).map (Value.int .i64)) off (W.drewN q) cur hb (by simp; omega)
    obtain ⟨r1, r2, r3, r4⟩ := setCells_rest (g := g) ((Lib.compact xs ++ List.replicate (xs.length - (Lib.compact xs).length) 0).map (Value.int .i64)) off (W.drewN q)
    refine ⟨_, rfl, .inr ⟨g, off, cap, cur', rfl, hg, ho, a, by omega, h2, by omega, ?_⟩, ⟨r1, r2, r3, by rw [r4]; exact Nat.le_refl _, fun k _ hk => setCells_far _ _ _ _ (fun e => hk (by rw [e]; rfl))⟩, rfl⟩
    have hlo : (cur.toList.take off).length = off := by rw [List.length_take]; simp; omega
    rw [c, List.append_assoc, List.drop_append_of_le_length (by omega), List.drop_eq_nil_of_le (by omega), List.nil_append, List.map_append, List.append_assoc, List.take_append_of_le_length (by simp), List.take_of_length_le (by simp)]
/-- append(v, l...) of a row of one's own and one that is read. -/
theorem append_T {P : Program} {ops : Array Oper} {rest : List Oper} {o : Oper} {a : Act} {Q : Exit → Act → World → Prop} {w0 W : World} (base : Nat) (hgd : o.guard = none) (s x : Operand) (t : TypeId) (ho : o.op = .call { callee := .builtin .append, args := #[s, x], argTypes := #[t, t] }) (ht : P.underlying t = some (.slice 3)) (hinfo : (P.info? 3).map (fun i => (i.zero, i.size, i.bytes)) = some (some (.int .i64 0), 1, 8))
    (v : Value) (xs ys : List Int) (A : Option Addr) (c : Nat) (ok : Nat → Prop) (hs : a.eval s = v) (hx : a.eval x = .slice A ys.length c) (HT : TRow W base ok v xs) (HR : Kd.C (Kd.int .i64) W A ys.length ys) (hfresh : ∀ k, W.heap.size ≤ k → ok k) (HB : Below base w0 W) (hbase : base ≤ W.heap.size) (hl : (xs.length + ys.length) * 8 ≤ 140737488355328)
    (h : ∀ v1 w1, TRow w1 base ok v1 (xs ++ ys) → Below base w0 w1 → W.grownBy w1 v.ownBlock → (v1.ownBlock = v.ownBlock ∨ ∃ b, v1.ownBlock = some b ∧ W.heap.size ≤ b) → wpList P ops Q rest (a.put o.dst v1) w1) :
    wpList P ops Q (o :: rest) a W := by
  obtain ⟨i0, hi, hzz⟩ := Option.map_eq_some_iff.1 hinfo
  simp only [Prod.mk.injEq] at hzz
  obtain ⟨hz0, hz1, hz2⟩ := hzz
  have hlen : xs.length + ys.length ≤ 17592186044416 := by omega
  have hnews : ∀ ad, A = some ad → ∀ j u, (ys.map (Value.int .i64))[j]? = some u → W.cell? (ad.add j) = some u := by
    intro ad hA j u hu
    rw [List.getElem?_map] at hu
    obtain ⟨z, hz, rfl⟩ := Option.map_eq_some_iff.1 hu
    obtain ⟨hj, rfl⟩ := List.getElem?_eq_some_iff.1 hz
    obtain ⟨ad', e, hc⟩ := at_ints HR j hj hj
    rw [hA] at e
    cases e
    exact hc
  have hone : ∀ u ∈ ys.map (Value.int .i64), u.oneCell' = true := by
    intro u hu
    obtain ⟨z, _, rfl⟩ := List.mem_map.1 hu
    rfl
  have hnone : A = none → ys = [] := by
    intro hA
    cases ys with
    | nil => rfl
    | cons y l =>
      obtain ⟨ad, e, _⟩ := at_ints HR 0 (by simp) (by simp)
      rw [hA] at e
      cases e
  have new : ∀ v1 w1, w1.ownsRow W.heap.size 3 1 v1 (xs.length + ys.length) (xs.map (Value.int .i64) ++ ys.map (Value.int .i64)) → W.grownBy w1 none → TRow w1 base ok v1 (xs ++ ys) ∧ W.grownBy w1 v.ownBlock ∧ (v1.ownBlock = v.ownBlock ∨ ∃ b, v1.ownBlock = some b ∧ W.heap.size ≤ b) ∨ (v1.ownBlock = none ∧ xs ++ ys = [] ∧ v1 = .slice none 0 0 ∧ W.grownBy w1 none) := by
    intro v1 w1 hown hg
    rw [← List.map_append, ← List.length_append] at hown
    rcases hown.2 with ⟨rfl, hz⟩ | ⟨g, cap, cur, rfl, hg1, _⟩
    · exact .inr ⟨rfl, List.eq_nil_of_length_eq_zero hz, rfl, hg⟩
    · refine .inl ⟨?_, hg.but _, .inr ⟨g, rfl, hg1⟩⟩
      have := TRow.of_R (ok := ok) (R_ints.2 ⟨fun k hk => hfresh k (by obtain rfl : g = k := (by simpa [Value.ownBlock] using hk); exact hg1), own_weaken hown hbase⟩)
      exact this
  have hrun : ∃ v1 w1, (Builtin.append_ #[t, t] o.type #[v, .slice A ys.length c]).run P W = .ok v1 w1 ∧ TRow w1 base ok v1 (xs ++ ys) ∧ W.grownBy w1 v.ownBlock ∧ (v1.ownBlock = v.ownBlock ∨ ∃ b, v1.ownBlock = some b ∧ W.heap.size ≤ b) := by
    rcases HT with ⟨rfl, rfl⟩ | ⟨g, off, cap, cur, rfl, hg, hok, hh, h1, h2, h3, h4⟩
    · cases A with
      | none =>
        obtain rfl := hnone rfl
        refine ⟨.slice none 0 0, W, ?_, .inl ⟨rfl, rfl⟩, World.grownBy.refl W _, .inl rfl⟩
        simp [Builtin.append_, run_underlying ht, sizeOf, typeInfo, hi, Builtin.lenOf, Builtin.firstCells]
      | some ad =>
        obtain ⟨v1, w1, hrun, r1, r2, _⟩ := run_append_own (P := P) W W.heap.size t o.type 3 i0 (.int .i64 0) 1 8 ht hi hz0 hz1 hz2 rfl (by decide) (.slice none 0 0) 0 [] (World.ownsRow_nil W _ 3 1) ad ys.length c (ys.map (Value.int .i64)) (by simp) (hnews ad rfl) hone (by unfold maxLen; simp at hlen; omega) (by simpa using hl) (Nat.le_refl _)
        refine ⟨v1, w1, hrun, ?_⟩
        rcases new v1 w1 (by simpa using r1) r2 with h | ⟨h5, h6, rfl, h8⟩
        · exact h
        · exact ⟨.inl ⟨rfl, h6⟩, h8, .inl rfl⟩
    · cases A with
      | none =>
        obtain rfl := hnone rfl
        refine ⟨_, W, ?_, by rw [List.append_nil]; exact .inr ⟨g, off, cap, cur, rfl, hg, hok, hh, h1, h2, h3, h4⟩, World.grownBy.refl W _, .inl rfl⟩
        simp [Builtin.append_, run_underlying ht, sizeOf, typeInfo, hi, Builtin.lenOf, Builtin.firstCells, h1, storeCells]
      | some ad =>
        by_cases hr : xs.length + ys.length ≤ cap
        · have hsz : i0.size = 1 := hz1
          have hin : ∀ j, j < (ys.map (Value.int .i64)).length → (W.cell? ⟨g, off + xs.length * i0.size + j, none⟩).isSome = true := by
            intro j hj
            rw [List.length_map] at hj
            rw [blk_cell hh, hsz]
            simp; omega
          have hfr : ∀ j, j < (ys.map (Value.int .i64)).length → W.frozen? ⟨g, off + xs.length * i0.size + j, none⟩ = false := fun j _ => blk_frozen hh _
          have hrun := run_append_room_cells (P := P) W t o.type 3 i0 ht hi g off xs.length cap ad ys.length c (ys.map (Value.int .i64)) (by simp [hsz]) (hnews ad rfl) hone hr hin hfr
          rw [hsz, Nat.mul_one] at hrun
          obtain ⟨cur', a1, b1, c1⟩ := setCells_blk (ys.map (Value.int .i64)) (off + xs.length) W cur hh (by simp; omega)
          obtain ⟨r1, r2, r3, r4⟩ := setCells_rest (g := g) (ys.map (Value.int .i64)) (off + xs.length) W
          refine ⟨_, _, hrun, .inr ⟨g, off, cap, cur', by rw [List.length_append], hg, hok, a1, by rw [List.length_append]; omega, h2, by omega, ?_⟩, ⟨r1, r2, r3, by rw [r4]; exact Nat.le_refl _, fun k _ hk => setCells_far _ _ _ _ (fun e => hk (by rw [e]; rfl))⟩, .inl rfl⟩
          have e1 : (cur.toList.take (off + xs.length)).drop off = xs.map (Value.int .i64) := by rw [← h4, List.drop_take]; congr 1; omega
          have hlo : off ≤ (cur.toList.take (off + xs.length)).length := by rw [List.length_take]; simp; omega
          rw [c1, List.append_assoc, List.drop_append_of_le_length hlo, e1, ← List.append_assoc, ← List.map_append, List.take_append_of_le_length (by simp), List.take_of_length_le (by simp)]
        · have holds : ∀ j u, (xs.map (Value.int .i64))[j]? = some u → W.cell? ((⟨g, off, none⟩ : Addr).add j) = some u := by
            intro j u hu
            rw [← h4] at hu
            have hj : j < xs.length := by
              have := (List.getElem?_eq_some_iff.1 hu).1
              simp at this; omega
            rw [List.getElem?_take_of_lt hj, List.getElem?_drop, Array.getElem?_toList] at hu
            rw [Addr.add_lit, blk_cell hh]; exact hu
          obtain ⟨v1, w1, hrun, r1, r2⟩ := run_append_arg_grows (P := P) W t o.type 3 i0 (.int .i64 0) 1 8 ht hi hz0 hz1 hz2 rfl (by decide) ⟨g, off, none⟩ xs.length cap (xs.map (Value.int .i64)) (by simp) holds ad ys.length c (ys.map (Value.int .i64)) (by simp) (hnews ad rfl) (by omega) (by unfold maxLen; omega) hl
          refine ⟨v1, w1, hrun, ?_⟩
          rcases new v1 w1 r1 r2 with h | ⟨h5, h6, rfl, h8⟩
          · exact h
          · exfalso
            have := congrArg List.length h6
            rw [List.length_append, List.length_nil] at this
            omega
  obtain ⟨v1, w1, hr, hT, hg, hat⟩ := hrun
  refine wpList_plain hgd fun K hK => ?_
  unfold Oper.wp
  simp [execOp, ho, resolve, invoke, builtin, hs, hx, hr, Result.andThen]
  refine hK _ _ (h v1 w1 hT (HB.grown hg hbase fun k hk => (HT.own k hk).1) hg hat)
/-- One by one: the first that is to be done leaves; those that it calls come, and are told. -/
def ldLoop (whom : Int → Option (List Int × Int)) : Nat → List Int → List Int → Option (List Int)
  | 0, _, _ => none
  | _ + 1, [], out => some out
  | d + 1, x :: t, out => (whom x).bind fun l => if t.length + l.1.length ≤ 1000000 ∧ out.length + l.1.length ≤ 8796093022208 then ldLoop whom d (Lib.compact ((t ++ l.1).mergeSort fun x y => decide (x ≤ y))) (out ++ l.1) else none
def calls_Leads.f (k : Nat) (l0_0 l0_1 : List S86) (l0_2 : List S52) (a0_3 a1 : Int) : Option (List Int × Int) := (calls_Check.f k l0_0 l0_1 l0_2 a0_3).bind fun e => if e = 0 then (if 0 ≤ a1 ∧ a1 < (l0_2.length : Int) then (ldLoop (calls_Whom.f l0_0 l0_1 l0_2 a0_3) k [a1] []).bind fun out => some (Lib.compact (out.mergeSort fun x y => decide (x ≤ y)), 0) else some ([], 2)) else some ([], e)
theorem ldLoop_mono (whom : Int → Option (List Int × Int)) : ∀ d t out, LeO (ldLoop whom d t out) (ldLoop whom (d + 1) t out) := by
  intro d
  induction d with
  | zero => intro t out r h; simp [ldLoop] at h
  | succ d ih =>
    intro t out
    cases t with
    | nil => exact LeO.refl _
    | cons x t => exact LeO.bind (LeO.refl _) fun l => LeO.ite (ih _ _) (LeO.refl _)
theorem calls_Leads.mono : ∀ a0 a1 a2 a3 a4 k, LeO (calls_Leads.f k a0 a1 a2 a3 a4) (calls_Leads.f (k + 1) a0 a1 a2 a3 a4) := by
  intro a0 a1 a2 a3 a4 k
  unfold calls_Leads.f
  exact LeO.bind (calls_Check.mono _ _ _ _ _) fun e => LeO.ite (LeO.ite (LeO.bind (ldLoop_mono _ _ _ _) fun _ => LeO.refl _) (LeO.refl _)) (LeO.refl _)
theorem R_lt {α : Type} {d : Kd α} {e : Nat} {W : World} {base : Nat} {ok : Nat → Prop} {v : Value} {xs : List α} (h : Kd.R d e W base ok v xs) : ∀ k, v.ownBlock = some k → k < W.heap.size := fun k hk => ((Kd.R_bound h).1 k hk).2.2.1
theorem R_follow {α : Type} {d : Kd α} {e : Nat} {W w1 : World} {base : Nat} {u v v1 : Value} {xs : List α} (h : Kd.R d e W base (fun k => some k ≠ v.ownBlock) u xs) (hg : W.grownBy w1 v.ownBlock) (hat : v1.ownBlock = v.ownBlock ∨ ∃ b, v1.ownBlock = some b ∧ W.heap.size ≤ b) : Kd.R d e w1 base (fun k => some k ≠ v1.ownBlock) u xs := by
  refine Kd.R_mono (Kd.R_grown (Kd.R_bound h) hg (fun k hk => hk.1)) (fun k hk e1 => ?_)
  rcases hat with h1 | ⟨b, h1, h2⟩
  · exact hk.1 (e1.trans h1)
  · have := hk.2.2.1
    obtain rfl : k = b := by rw [h1] at e1; injection e1
    omega
theorem TRow.follow {W w1 : World} {base : Nat} {u v v1 : Value} {xs : List Int} (h : TRow W base (fun k => some k ≠ v.ownBlock) u xs) (hg : W.grownBy w1 v.ownBlock) (hat : v1.ownBlock = v.ownBlock ∨ ∃ b, v1.ownBlock = some b ∧ W.heap.size ≤ b) : TRow w1 base (fun k => some k ≠ v1.ownBlock) u xs := by
  rcases h with h | ⟨g, off, cap, cur, e, hb, ho, hh, r⟩
  · exact .inl h
  · refine .inr ⟨g, off, cap, cur, e, hb, fun e1 => ?_, (hg.block g (blk_lt hh) ho).trans hh, r⟩
    rcases hat with h1 | ⟨b, h1, h2⟩
    · exact ho (e1.trans h1)
    · have := blk_lt hh
      obtain rfl : g = b := by rw [h1] at e1; injection e1
      omega
section
set_option maxHeartbeats 8000000 in
set_option maxRecDepth 100000 in
theorem calls_Leads.calls (k : Nat) (A0_0 : Option Addr) (c0_0 : Nat) (l0_0 : List (S86)) (A0_1 : Option Addr) (c0_1 : Nat) (l0_1 : List (S86)) (A0_2 : Option Addr) (c0_2 : Nat) (l0_2 : List (S52)) (a0_3 : Int) (a1 : Int) (r1 : List Int) (r2 : Int) (w : World) (hr0_0 : Kd.C k86 w A0_0 l0_0.length l0_0) (hc0_0 : l0_0.length ≤ c0_0) (hr0_1 : Kd.C k86 w A0_1 l0_1.length l0_1) (hc0_1 : l0_1.length ≤ c0_1) (hr0_2 : Kd.C k52 w A0_2 l0_2.length l0_2) (hc0_2 : l0_2.length ≤ c0_2) (h : calls_Leads.f k l0_0 l0_1 l0_2 a0_3 a1 = some (r1, r2)) :
    Calls Try.prog 31 #[.agg #[.slice A0_0 l0_0.length c0_0, .slice A0_1 l0_1.length c0_1, .slice A0_2 l0_2.length c0_2, .int .i64 a0_3], .int .i64 a1] w fun e w' => ∃ v0_ : Value, e = .returned (.tuple #[v0_, .int .i64 r2]) ∧ Kd.R (Kd.int .i64) 3 w' w.heap.size (fun _ => True) v0_ r1 ∧ Below w.heap.size w w' := by
  have HR0 := Aside0.mk hr0_0
  have HR1 := Aside0.mk hr0_1
  have HR2 := Aside0.mk hr0_2
  have HC0 := Aside0.mk hc0_0
  have HC1 := Aside0.mk hc0_1
  have HC2 := Aside0.mk hc0_2
  clear hr0_0 hr0_1 hr0_2 hc0_0 hc0_1 hc0_2
  unfold calls_Leads.f at h
  obtain ⟨e0, hchk, h⟩ := Option.bind_eq_some_iff.mp h
  have HA := Aside0.mk hchk
  clear hchk
  by_cases he : e0 = 0
  · subst he
    rw [if_pos rfl] at h
    by_cases h1 : 0 ≤ a1 ∧ a1 < (l0_2.length : Int)
    · rw [if_pos h1] at h
      obtain ⟨h3, h4⟩ := h1
      have h5 : ¬ a1 < 0 := by omega
      have h6 : ¬ (l0_2.length : Int) ≤ a1 := by omega
      obtain ⟨out0, hld, h⟩ := Option.bind_eq_some_iff.mp h
      obtain ⟨rfl, rfl⟩ := (by simpa using h : Lib.compact (out0.mergeSort fun x y => decide (x ≤ y)) = r1 ∧ 0 = r2)
      have HL := Aside0.mk hld
      clear hld h
      go_enter Try.func31, Try.ntmps31
      go_wp2_with (first | (go_at_call 33; (refine (calls_Check.calls k A0_0 c0_0 l0_0 A0_1 c0_1 l0_1 A0_2 c0_2 l0_2 a0_3 0 _ (Kd.C_alloc HR0.out _) HC0.out (Kd.C_alloc HR1.out _) HC1.out (Kd.C_alloc HR2.out _) HC2.out HA.out).mono ?_); rintro e w1 ⟨rfl, hb1'⟩; have hM := blk_below (blk_new w (.cells #[.slice A0_0 l0_0.length c0_0, .slice A0_1 l0_1.length c0_1, .slice A0_2 l0_2.length c0_2, .int .i64 a0_3] 25)) hb1'; have M1 := Aside0.mk hM; have m2 := blk_cell hM 2; have B1 := Aside0.mk (((Below.refl w.heap.size w).alloc (Nat.le_refl _) (.cells #[.slice A0_0 l0_0.length c0_0, .slice A0_1 l0_1.length c0_1, .slice A0_2 l0_2.length c0_2, .int .i64 a0_3] 25)).trans (hb1'.mono (by simp))); clear hM hb1'))
      go_loopg [7, 8] k (fun kq v7 v8 wr => ∃ (out todo : List Int) (Ao : Option Addr) (co : Nat), v7 = .slice Ao out.length co ∧ out.length ≤ 8796093022208 ∧ Aside0 (ldLoop (calls_Whom.f l0_0 l0_1 l0_2 a0_3) kq todo out = some out0) ∧ Aside0 (Kd.R (Kd.int .i64) 3 wr w1.heap.size (fun k => some k ≠ v8.ownBlock) v7 out) ∧ Aside0 (TRow wr w1.heap.size (fun k => some k ≠ v7.ownBlock) v8 todo) ∧ Aside0 (Below w1.heap.size w1 wr))
      case atStart => exact ⟨[], [a1], none, 0, rfl, by decide, HL, ⟨Kd.R_nil _ _ _ _ _⟩, ⟨.inr ⟨w1.heap.size, 0, 1, #[.int .i64 a1], rfl, Nat.le_refl _, by simp [Value.ownBlock], blk_new _ _, Nat.le_refl _, by decide, Nat.le_refl _, rfl⟩⟩, ⟨(Below.refl _ _).alloc (Nat.le_refl _) _⟩⟩
      case round =>
        obtain ⟨out, todo, Ao, co, rfl, hol, HL2, HO, HT, HB⟩ := hrel
        cases gk with
        | zero => exact absurd HL2.out (by simp [ldLoop])
        | succ d =>
          cases todo with
          | nil =>
            obtain ⟨At, ct, e8, _⟩ := HT.out.shape
            rw [List.length_nil] at e8
            subst e8
            obtain rfl : out = out0 := by have := HL2.out; simpa [ldLoop] using this
            have hms : (out.mergeSort fun x y => decide (x ≤ y)).length ≤ 17592186044416 := by rw [List.length_mergeSort]; omega
            go_wp2_with (first | (go_at_call 55; (refine (sort_R _ w1.heap.size _ _ out HO.out (by omega)).mono ?_); rintro e w2 ⟨rfl, hR2, hg2⟩; have R2 := Aside0.mk hR2; have G2 := Aside0.mk hg2; clear hR2 hg2) | (go_at_call 56; (refine (compact_R _ w1.heap.size _ _ _ R2.out hms).mono ?_); rintro e w3 ⟨v3, rfl, hR3, hg3, _⟩; have R3 := Aside0.mk hR3; have G3 := Aside0.mk hg3; clear hR3 hg3))
            go_ret2
            exact ⟨v3, rfl, Kd.R_lower (Kd.R_mono R3.out (fun _ _ => trivial)) B1.out.size, B1.out.trans ((((HB.out.grown G2.out HB.out.size (fun k hk => Kd.R_base HO.out k hk)).grown G3.out (Nat.le_trans HB.out.size G2.out.size) (fun k hk => Kd.R_base HO.out k hk))).mono B1.out.size)⟩
          | cons x t =>
            have hl := HL2.out
            rw [ldLoop] at hl
            obtain ⟨⟨l, el⟩, hwh, hl⟩ := Option.bind_eq_some_iff.mp hl
            dsimp only at hl
            by_cases hgd : t.length + l.length ≤ 1000000 ∧ out.length + l.length ≤ 8796093022208
            case neg => rw [if_neg hgd] at hl; cases hl
            rw [if_pos hgd] at hl
            obtain ⟨hg1, hg2⟩ := hgd
            have HL3 := Aside0.mk hl
            have HW := Aside0.mk hwh
            clear hl hwh HL2
            obtain ⟨g, off, cap, e8, hcell⟩ := HT.out.head
            subst e8
            have BW := Aside0.mk (B1.out.trans (HB.out.mono B1.out.size))
            have M2 := Aside0.mk (blk_below M1.out HB.out)
            have q0 : wr.cell? ⟨w.heap.size, 0, none⟩ = some (.slice A0_0 l0_0.length c0_0) := (blk_cell M2.out 0).trans rfl
            have q1 : wr.cell? ⟨w.heap.size, 1, none⟩ = some (.slice A0_1 l0_1.length c0_1) := (blk_cell M2.out 1).trans rfl
            have q2 : wr.cell? ⟨w.heap.size, 2, none⟩ = some (.slice A0_2 l0_2.length c0_2) := (blk_cell M2.out 2).trans rfl
            have q3 : wr.cell? ⟨w.heap.size, 3, none⟩ = some (.int .i64 a0_3) := (blk_cell M2.out 3).trans rfl
            go_wp2
            go_region_with ((go_at_call 29; (refine (calls_Whom.calls A0_0 c0_0 l0_0 A0_1 c0_1 l0_1 A0_2 c0_2 l0_2 a0_3 x l el _ (by repeat (first | exact Kd.C_below HR0.out BW.out | (with_reducible refine Kd.C_drew ?_))) HC0.out (by repeat (first | exact Kd.C_below HR1.out BW.out | (with_reducible refine Kd.C_drew ?_))) HC1.out (by repeat (first | exact Kd.C_below HR2.out BW.out | (with_reducible refine Kd.C_drew ?_))) HC2.out HW.out).mono ?_); rintro e w2 ⟨v2, rfl, hR2, hb2⟩; have R2 := Aside0.mk hR2; have B2 := Aside0.mk hb2; clear hR2 hb2))
            all_goals
              obtain ⟨Al, cl, rfl, hl1, hCl⟩ := Kd.R_reads R2.out
              have B3 : Aside0 (Below wr.heap.size wr w2) := ⟨(below_drew1 (Below.refl wr.heap.size wr)).trans (B2.out.mono (by simp))⟩
              have HOl := Aside0.mk (Kd.R_below HO.out B3.out)
              have HTl := Aside0.mk (HT.out.below B3.out)
              have HBl := Aside0.mk (HB.out.trans (B3.out.mono HB.out.size))
              have CL := Aside0.mk hCl
              have hlo := R_lt HOl.out
              have hgs := HTl.out.own
              have RL := Aside0.mk (Kd.R_mono (Kd.R_bound R2.out) (ok' := fun k => some k ≠ (Value.slice (some ⟨g, off, none⟩) (t.length + 1) cap).ownBlock) (fun k hk e => by have := HT.out.own k e.symm; have h2 := hk.2.1; have h3 : wr.drew.heap.size = wr.heap.size := rfl; omega))
              clear hCl
              go_wp2_with (first | ((with_reducible refine gate_dst (N := 39) rfl ?_); refine tail_T (v := .slice (some ⟨g, off, none⟩) (t.length + 1) cap) rfl (.tmp 38) 53 rfl Try.underlying53 info3 rfl HTl.out ?_; intro v5 hT5 ho5; have T5 := Aside0.mk hT5; have O5 := Aside0.mk ho5; clear hT5 ho5) | (at_builtin; refine append_T (w0 := w1) w1.heap.size rfl (.tmp 39) (.tmp 40) 53 rfl Try.underlying53 info3 v5 t l Al cl (fun k => some k ≠ (.slice Ao out.length co : Value).ownBlock) rfl rfl T5.out CL.out (fun k hk e => by have := hlo k e.symm; omega) HBl.out HBl.out.size (by omega) ?_; intro v3 w3 hT3 hB3 hg3 hat3; have T3 := Aside0.mk hT3; have HB3 := Aside0.mk hB3; have RO3 := Aside0.mk (R_follow (by rw [O5.out]; exact HOl.out) hg3 hat3); have RL3 := Aside0.mk (R_follow (by rw [O5.out]; exact RL.out) hg3 hat3); clear hT3 hB3 hg3 hat3) | ((with_reducible refine gate_dst (N := 44) rfl ?_); refine Kd.R_append_rows (Kd.int .i64) (Rr := (Kd.int .i64).K w3) (w0 := w1) w1.heap.size rfl (.tmp 42) (.tmp 43) 53 3 (.int .i64 0) 8 rfl Try.underlying53 info3 rfl (by decide) (by omega) (.slice Ao out.length co) out l Al l.length cl (fun k => some k ≠ v3.ownBlock) (fun _ => False) rfl rfl RO3.out (Kd.R_reads' RL3.out).2.2 (fun _ _ h => h) (fun _ hk => hk.elim) (fun k hk e => by have := T3.out.own k e.symm; omega) HB3.out HB3.out.size (by omega) ?_; intro v4 w4 hR4 hB4 hg4 hat4; have T4 := Aside0.mk (T3.out.follow hg4 hat4); have R4 := Aside0.mk hR4; have HB4 := Aside0.mk hB4; clear hR4 hB4 hg4 hat4; obtain ⟨A4, c4, rfl⟩ := Kd.R_slice R4.out) | (go_at_call 55; (refine (sort_T _ w1.heap.size _ v3 (t ++ l) T4.out (by rw [List.length_append]; omega)).mono ?_); rintro e w6 ⟨rfl, hT6, hg6⟩; have R6 := Aside0.mk (Kd.R_grown R4.out hg6 (fun k hk => hk)); have T6 := Aside0.mk hT6; have HB6 := Aside0.mk (HB4.out.grown hg6 HB4.out.size (fun k hk => (T4.out.own k hk).1)); clear hT6 hg6) | (go_at_call 56; (refine (compact_T _ w1.heap.size _ v3 _ T6.out).mono ?_); rintro e w7 ⟨v7, rfl, hT7, hg7, ho7⟩; have R7 := Aside0.mk (Kd.R_mono (Kd.R_grown R6.out hg7 (fun k hk => hk)) (ok' := fun k => some k ≠ v7.ownBlock) (fun k hk => by rw [ho7]; exact hk)); have T7 := Aside0.mk hT7; have HB7 := Aside0.mk (HB6.out.grown hg7 HB6.out.size (fun k hk => (T6.out.own k hk).1)); clear hT7 hg7 ho7))
              go_roundg d
              case measure => omega
              case rel => exact ⟨out ++ l, _, A4, c4, by rw [List.length_append], by rw [List.length_append]; omega, HL3, ⟨by rw [← List.length_append]; exact R7.out⟩, ⟨by rw [← List.length_append]; exact T7.out⟩, HB7⟩
    · rw [if_neg h1] at h
      obtain ⟨rfl, rfl⟩ := (by simpa using h : [] = r1 ∧ 2 = r2)
      clear h
      go_enter Try.func31, Try.ntmps31
      by_cases h5 : a1 < 0
      · go_wp2_with (first | (go_at_call 33; (refine (calls_Check.calls k A0_0 c0_0 l0_0 A0_1 c0_1 l0_1 A0_2 c0_2 l0_2 a0_3 0 _ (Kd.C_alloc HR0.out _) HC0.out (Kd.C_alloc HR1.out _) HC1.out (Kd.C_alloc HR2.out _) HC2.out HA.out).mono ?_); rintro e w1 ⟨rfl, hb1'⟩; have hM := blk_below (blk_new w (.cells #[.slice A0_0 l0_0.length c0_0, .slice A0_1 l0_1.length c0_1, .slice A0_2 l0_2.length c0_2, .int .i64 a0_3] 25)) hb1'; have M1 := Aside0.mk hM; have m2 := blk_cell hM 2; have B1 := Aside0.mk (((Below.refl w.heap.size w).alloc (Nat.le_refl _) (.cells #[.slice A0_0 l0_0.length c0_0, .slice A0_1 l0_1.length c0_1, .slice A0_2 l0_2.length c0_2, .int .i64 a0_3] 25)).trans (hb1'.mono (by simp))); clear hM hb1'))
        go_ret2
        exact ⟨_, rfl, Kd.R_nil _ _ _ _ _, B1.out⟩
      · have h6 : (l0_2.length : Int) ≤ a1 := by omega
        go_wp2_with (first | (go_at_call 33; (refine (calls_Check.calls k A0_0 c0_0 l0_0 A0_1 c0_1 l0_1 A0_2 c0_2 l0_2 a0_3 0 _ (Kd.C_alloc HR0.out _) HC0.out (Kd.C_alloc HR1.out _) HC1.out (Kd.C_alloc HR2.out _) HC2.out HA.out).mono ?_); rintro e w1 ⟨rfl, hb1'⟩; have hM := blk_below (blk_new w (.cells #[.slice A0_0 l0_0.length c0_0, .slice A0_1 l0_1.length c0_1, .slice A0_2 l0_2.length c0_2, .int .i64 a0_3] 25)) hb1'; have M1 := Aside0.mk hM; have m2 := blk_cell hM 2; have B1 := Aside0.mk (((Below.refl w.heap.size w).alloc (Nat.le_refl _) (.cells #[.slice A0_0 l0_0.length c0_0, .slice A0_1 l0_1.length c0_1, .slice A0_2 l0_2.length c0_2, .int .i64 a0_3] 25)).trans (hb1'.mono (by simp))); clear hM hb1'))
        go_ret2
        exact ⟨_, rfl, Kd.R_nil _ _ _ _ _, B1.out⟩
  · rw [if_neg he] at h
    obtain ⟨rfl, rfl⟩ := (by simpa using h : [] = r1 ∧ e0 = r2)
    have hne : (e0 != 0) = true := by rw [bne_iff_ne]; exact he
    go_enter Try.func31, Try.ntmps31
    go_wp2_with (first | (go_at_call 33; (refine (calls_Check.calls k A0_0 c0_0 l0_0 A0_1 c0_1 l0_1 A0_2 c0_2 l0_2 a0_3 e0 _ (Kd.C_alloc HR0.out _) HC0.out (Kd.C_alloc HR1.out _) HC1.out (Kd.C_alloc HR2.out _) HC2.out HA.out).mono ?_); rintro e w1 ⟨rfl, hb1'⟩; have B1 := Aside0.mk (((Below.refl w.heap.size w).alloc (Nat.le_refl _) (.cells #[.slice A0_0 l0_0.length c0_0, .slice A0_1 l0_1.length c0_1, .slice A0_2 l0_2.length c0_2, .int .i64 a0_3] 25)).trans (hb1'.mono (by simp))); clear hb1'))
    go_ret2
    exact ⟨_, rfl, Kd.R_nil _ _ _ _ _, B1.out⟩
end

end Go.Proofs.Ytkmnachdibhdhaa.S
