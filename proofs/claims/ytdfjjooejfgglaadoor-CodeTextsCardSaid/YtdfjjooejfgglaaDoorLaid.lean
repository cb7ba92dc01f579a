/- What the laid package variables hold (Gl), out of the card's condition; and a world that meets it. -/
import Derived.Test.YtdfjjooejfgglaaDoorY0
import Derived.Test.YtdfjjooejfgglaaDoorRows
import Derived.Test.YtdfjjooejfgglaaDoorWMore
import Derived.OpenShut
import Derived.FnData
import Derived.LaidLaws
import Derived.LaidHandle
import Derived.LaidSub
import Derived.Handed
namespace Go.Proofs.YtdfjjooejfgglaaDoor
open Go.RowKit Go.Proofs.YtdfjjooejfgglaaDoor.Y Go.Proofs.YtdfjjooejfgglaaDoorW.PrintWords Go.Proofs.YtdfjjooejfgglaaDoorW.PrintMore

/-- An array of whole numbers that reads as these has these cells. -/
theorem arr_ints {H : Type} {enc : TypeId × Value → H} {P : Program} {w : World} {base : Nat} {sp : Nat → Bool} {held : Bool} {t e : TypeId} {n fuel : Nat} {k : IntKind} {cs : List Value} {ns : List Int} {p : List MemPlace} (ht : P.underlying t = some (.array n e))
    (he : P.underlying e = some (.int k)) (hc : P.cellsOf e = 1) (hct : P.cellsOf t = n) (h : DataW.trod enc P w base sp held fuel t cs = some (.agg (ns.map fun z => .lit (.int k z)), p)) : cs = ns.map (Value.int k) := by
  obtain ⟨xs, m, rfl, hx, hl, hn, hi⟩ := DataW.trod_array ht h
  simp only [Prod.mk.injEq, DataW.agg.injEq] at hx
  have hlen : ns.length = n := by
    have := congrArg List.length hx.1
    simpa [hn] using this
  refine List.ext_getElem? fun i => ?_
  rw [List.getElem?_map]
  by_cases h1 : i < n
  · have h2 := hi i h1
    rw [hc, Nat.mul_one] at h2
    have h3 : xs[i]? = some xs[i] := List.getElem?_eq_getElem (by omega)
    have h4 : (ns.map fun z => (DataW.lit (.int k z) : DataW H))[i]? = (xs.map (·.1))[i]? := by rw [hx.1]
    rw [List.getElem?_map, List.getElem?_map, h3, List.getElem?_eq_getElem (by omega : i < ns.length)] at h4
    simp only [Option.map_some, Option.some.injEq] at h4
    have h5 : cs[i]? = some cs[i] := List.getElem?_eq_getElem (by omega)
    have h6 : (cs.drop i).take 1 = [cs[i]] := by
      rw [List.drop_eq_getElem_cons (by omega)]; rfl
    rw [h6, h3] at h2
    rw [h5, List.getElem?_eq_getElem (by omega : i < ns.length)]
    cases m with
    | zero => simp [DataW.trod] at h2
    | succ m =>
      unfold DataW.trod at h2
      rw [he] at h2
      split at h2 <;> simp_all
      rename_i z _ _ _
      obtain ⟨⟨rfl, _⟩, h7⟩ := h2
      rw [← h7] at h4
      simp at h4
      rw [h4]
  · rw [List.getElem?_eq_none (by omega), List.getElem?_eq_none (by omega)]; rfl
/-- Its reading as a row. -/
theorem gl_row {w : World} {g : Nat} {k : IntKind} {ns : List Int} {cs : Array Value} (hcs : cs.toList = ns.map (Value.int k)) (hl : ns.length ≤ 9223372036854775807) (h : ∀ i : Nat, w.cell? ⟨g, i, none⟩ = cs[i]?) : (Kd.int k).C w (some ⟨g, 0, none⟩) ns.length ns := by
  refine Kd.C_of_reads (d := (0 : Int)) (h1 := fun _ => rfl) ⟨rfl, hl, fun _ => ⟨_, rfl, fun j hj => ?_⟩⟩
  rw [add_plain, h j, ← Array.getElem?_toList, hcs, List.getElem?_map, List.getElem?_eq_getElem hj, List.getD_eq_getElem?_getD, List.getElem?_eq_getElem hj]
  rfl
/-- An array of texts. -/
theorem arr_strs {H : Type} {enc : TypeId × Value → H} {P : Program} {w : World} {base : Nat} {sp : Nat → Bool} {held : Bool} {t e : TypeId} {n fuel : Nat} {cs : List Value} {ns : List ByteArray} {p : List MemPlace} (ht : P.underlying t = some (.array n e))
    (he : P.underlying e = some .string) (hc : P.cellsOf e = 1) (hct : P.cellsOf t = n) (h : DataW.trod enc P w base sp held fuel t cs = some (.agg (ns.map fun z => .lit (.string z.data.toList)), p)) : cs = ns.map Value.string := by
  obtain ⟨xs, m, rfl, hx, hl, hn, hi⟩ := DataW.trod_array ht h
  simp only [Prod.mk.injEq, DataW.agg.injEq] at hx
  have hlen : ns.length = n := by
    have := congrArg List.length hx.1
    simpa [hn] using this
  refine List.ext_getElem? fun i => ?_
  rw [List.getElem?_map]
  by_cases h1 : i < n
  · have h2 := hi i h1
    rw [hc, Nat.mul_one] at h2
    have h3 : xs[i]? = some xs[i] := List.getElem?_eq_getElem (by omega)
    have h4 : (ns.map fun z => (DataW.lit (.string z.data.toList) : DataW H))[i]? = (xs.map (·.1))[i]? := by rw [hx.1]
    rw [List.getElem?_map, List.getElem?_map, h3, List.getElem?_eq_getElem (by omega : i < ns.length)] at h4
    simp only [Option.map_some, Option.some.injEq] at h4
    have h5 : cs[i]? = some cs[i] := List.getElem?_eq_getElem (by omega)
    have h6 : (cs.drop i).take 1 = [cs[i]] := by
      rw [List.drop_eq_getElem_cons (by omega)]; rfl
    rw [h6, h3] at h2
    rw [h5, List.getElem?_eq_getElem (by omega : i < ns.length)]
    cases m with
    | zero => simp [DataW.trod] at h2
    | succ m =>
      unfold DataW.trod at h2
      rw [he] at h2
      split at h2 <;> simp_all
      obtain ⟨_, h7⟩ := h2
      rw [← h7] at h4
      simp at h4
      rw [ByteArray.ext h4]
  · rw [List.getElem?_eq_none (by omega), List.getElem?_eq_none (by omega)]; rfl
theorem flat_cells {m : Nat} {f : Int → Value} (nss : List (List Int)) : ∀ cs : List Value, cs.length = nss.length * m → (∀ i (h : i < nss.length), (cs.drop (i * m)).take m = nss[i].map f) → cs = nss.flatten.map f := by
  induction nss with
  | nil => intro cs h _; exact List.eq_nil_of_length_eq_zero (by simpa using h)
  | cons ns nss ih =>
    intro cs h hi
    have h0 := hi 0 (by simp)
    rw [Nat.zero_mul, List.drop_zero] at h0
    have h1 := ih (cs.drop m) (by rw [List.length_drop, h, List.length_cons, Nat.succ_mul]; omega) (fun i hlt => by
      have := hi (i + 1) (by simp; omega)
      rw [List.drop_drop, show m + i * m = (i + 1) * m by rw [Nat.succ_mul]; omega]
      simpa using this)
    rw [List.flatten_cons, List.map_append, ← h1]
    have h2 : ns.map f = cs.take m := by simpa using h0.symm
    rw [h2, List.take_append_drop]
/-- An array of arrays of whole numbers. -/
theorem arr_pairs {H : Type} {enc : TypeId × Value → H} {P : Program} {w : World} {base : Nat} {sp : Nat → Bool} {held : Bool} {t e e2 : TypeId} {n m fuel : Nat} {k : IntKind} {cs : List Value} {nss : List (List Int)} {p : List MemPlace} (ht : P.underlying t = some (.array n e)) (he : P.underlying e = some (.array m e2))
    (he2 : P.underlying e2 = some (.int k)) (hc : P.cellsOf e2 = 1) (hce : P.cellsOf e = m) (hct : P.cellsOf t = n * m) (h : DataW.trod enc P w base sp held fuel t cs = some (.agg (nss.map fun ns => .agg (ns.map fun z => .lit (.int k z))), p)) : cs = nss.flatten.map (Value.int k) := by
  obtain ⟨xs, q, rfl, hx, hl, hn, hi⟩ := DataW.trod_array ht h
  simp only [Prod.mk.injEq, DataW.agg.injEq] at hx
  have hlen : nss.length = n := by
    have := congrArg List.length hx.1
    simpa [hn] using this
  refine flat_cells (m := m) nss cs (by rw [hl, hct, hlen]) (fun i hlt => ?_)
  have h2 := hi i (by omega)
  rw [hce] at h2
  have h3 : xs[i]? = some xs[i] := List.getElem?_eq_getElem (by omega)
  have h4 : (nss.map fun ns => (DataW.agg (ns.map fun z => .lit (.int k z)) : DataW H))[i]? = (xs.map (·.1))[i]? := by rw [hx.1]
  rw [List.getElem?_map, List.getElem?_map, h3, List.getElem?_eq_getElem hlt] at h4
  simp only [Option.map_some, Option.some.injEq] at h4
  have h5 : xs[i] = (.agg (nss[i].map fun z => .lit (.int k z)), xs[i].2) := Prod.ext h4.symm rfl
  rw [h3, h5] at h2
  exact arr_ints he he2 hc hce h2
theorem gl_rows {w : World} {g : Nat} {ns : List ByteArray} {cs : Array Value} (hcs : cs.toList = ns.map Value.string) (hl : ns.length ≤ 9223372036854775807) (h : ∀ i : Nat, w.cell? ⟨g, i, none⟩ = cs[i]?) : Kd.string.C w (some ⟨g, 0, none⟩) ns.length ns := by
  refine Kd.C_of_reads (d := (⟨#[]⟩ : ByteArray)) (h1 := fun _ => rfl) ⟨rfl, hl, fun _ => ⟨_, rfl, fun j hj => ?_⟩⟩
  rw [add_plain, h j, ← Array.getElem?_toList, hcs, List.getElem?_map, List.getElem?_eq_getElem hj, List.getD_eq_getElem?_getD, List.getElem?_eq_getElem hj]
  rfl
/-- A variable of an interface type that doesn't read as nil. -/
theorem arr_iface {H : Type} {enc : TypeId × Value → H} {P : Program} {w : World} {base : Nat} {sp : Nat → Bool} {t fuel : Nat} {cs : List Value} {p : List MemPlace} {name : String} {d : DataW H} {ms : Array (String × Nat)} (ht : P.underlying t = some (.interface ms)) (h : DataW.trod enc P w base sp false fuel t cs = some (.iface name d, p)) : ∃ u v, cs = [.iface u v] := by
  cases fuel with
  | zero => simp [DataW.trod] at h
  | succ m =>
    unfold DataW.trod at h
    rw [ht] at h
    split at h <;> simp_all
theorem err_at {w : World} {g : Nat} {cs : Array Value} (hcs : ∃ u v, cs.toList = [.iface u v]) (h : ∀ i : Nat, w.cell? ⟨g, i, none⟩ = cs[i]?) : ErrAt w g := by
  obtain ⟨u, v, hcs⟩ := hcs
  refine ⟨.iface u v, ?_, .inr ⟨u, v, rfl⟩⟩
  rw [h 0, ← Array.getElem?_toList, hcs]
  rfl
noncomputable def laidWorld (os : Os) : World :=
  let w0 := World.holding Tryd.prog os ⟨#[], #[], []⟩
  { w0 with heap := (((((((((w0.heap.modify 4 (fun | .cells _ t fr => .cells #[.iface 138 (.pointer (some ⟨w0.heap.size + 0, 0, none⟩))] t fr | o => o)).modify 3 (fun | .cells _ t fr => .cells #[.iface 138 (.pointer (some ⟨w0.heap.size + 1, 0, none⟩))] t fr | o => o)).modify 6 (fun | .cells _ t fr => .cells #[.int .u8 0, .int .u8 1, .int .u8 28, .int .u8 2, .int .u8 29, .int .u8 14, .int .u8 24, .int .u8 3, .int .u8 30, .int .u8 22, .int .u8 20, .int .u8 15, .int .u8 25, .int .u8 17, .int .u8 4, .int .u8 8, .int .u8 31, .int .u8 27, .int .u8 13, .int .u8 23, .int .u8 21, .int .u8 19, .int .u8 16, .int .u8 7, .int .u8 26, .int .u8 12, .int .u8 18, .int .u8 6, .int .u8 11, .int .u8 5, .int .u8 10, .int .u8 9] t fr | o => o)).modify 7 (fun | .cells _ t fr => .cells #[.int .u8 0, .int .u8 1, .int .u8 56, .int .u8 2, .int .u8 57, .int .u8 49, .int .u8 28, .int .u8 3, .int .u8 61, .int .u8 58, .int .u8 42, .int .u8 50, .int .u8 38, .int .u8 29, .int .u8 17, .int .u8 4, .int .u8 62, .int .u8 47, .int .u8 59, .int .u8 36, .int .u8 45, .int .u8 43, .int .u8 51, .int .u8 22, .int .u8 53, .int .u8 39, .int .u8 33, .int .u8 30, .int .u8 24, .int .u8 18, .int .u8 12, .int .u8 5, .int .u8 63, .int .u8 55, .int .u8 48, .int .u8 27, .int .u8 60, .int .u8 41, .int .u8 37, .int .u8 16, .int .u8 46, .int .u8 35, .int .u8 44, .int .u8 21, .int .u8 52, .int .u8 32, .int .u8 23, .int .u8 11, .int .u8 54, .int .u8 26, .int .u8 40, .int .u8 15, .int .u8 34, .int .u8 20, .int .u8 31, .int .u8 10, .int .u8 25, .int .u8 14, .int .u8 19, .int .u8 9, .int .u8 13, .int .u8 8, .int .u8 7, .int .u8 6] t fr | o => o)).modify 5 (fun | .cells _ t fr => .cells #[.int .u64 1, .int .u64 10, .int .u64 100, .int .u64 1000, .int .u64 10000, .int .u64 100000, .int .u64 1000000, .int .u64 10000000, .int .u64 100000000, .int .u64 1000000000, .int .u64 10000000000, .int .u64 100000000000, .int .u64 1000000000000, .int .u64 10000000000000, .int .u64 100000000000000, .int .u64 1000000000000000, .int .u64 10000000000000000, .int .u64 100000000000000000, .int .u64 1000000000000000000, .int .u64 10000000000000000000] t fr | o => o)).modify 0 (fun | .cells _ t fr => .cells #[.string ⟨#[110, 111, 112]⟩, .string ⟨#[99, 111, 110, 115, 116]⟩, .string ⟨#[103, 101, 116]⟩, .string ⟨#[115, 101, 116]⟩, .string ⟨#[108, 111, 97, 100]⟩, .string ⟨#[115, 116, 111, 114, 101]⟩, .string ⟨#[112, 111, 112]⟩, .string ⟨#[100, 117, 112]⟩, .string ⟨#[115, 119, 97, 112]⟩, .string ⟨#[97, 100, 100]⟩, .string ⟨#[115, 117, 98]⟩, .string ⟨#[109, 117, 108]⟩, .string ⟨#[100, 105, 118]⟩, .string ⟨#[114, 101, 109]⟩, .string ⟨#[108, 101, 115, 115]⟩, .string ⟨#[115, 97, 109, 101]⟩, .string ⟨#[112, 97, 105, 114]⟩, .string ⟨#[114, 101]⟩, .string ⟨#[105, 109]⟩, .string ⟨#[112, 97, 100, 100]⟩, .string ⟨#[112, 109, 117, 108]⟩, .string ⟨#[99, 111, 110, 106]⟩, .string ⟨#[110, 101, 119]⟩, .string ⟨#[97, 116]⟩, .string ⟨#[112, 117, 116]⟩, .string ⟨#[108, 101, 110]⟩, .string ⟨#[106, 117, 109, 112]⟩, .string ⟨#[122, 101, 114, 111]⟩, .string ⟨#[108, 111, 111, 112]⟩, .string ⟨#[97, 103, 97, 105, 110]⟩, .string ⟨#[99, 97, 108, 108]⟩, .string ⟨#[114, 101, 116]⟩, .string ⟨#[116, 114, 97, 112]⟩] t fr | o => o)).modify 1 (fun | .cells _ t fr => .cells #[.int .i64 0, .int .i64 0, .int .i64 0, .int .i64 31, .int .i64 0, .int .i64 15, .int .i64 0, .int .i64 3, .int .i64 0, .int .i64 1024, .int .i64 0, .int .i64 199, .int .i64 0, .int .i64 15, .int .i64 0, .int .i64 255, .int .i64 1, .int .i64 100] t fr | o => o)).push (.cells #[.string ⟨#[118, 97, 108, 117, 101, 32, 111, 117, 116, 32, 111, 102, 32, 114, 97, 110, 103, 101]⟩] 140 (0, 0))).push (.cells #[.string ⟨#[105, 110, 118, 97, 108, 105, 100, 32, 115, 121, 110, 116, 97, 120]⟩] 140 (0, 0))) }
theorem laidWorld_met (os : Os) (args : Array Value) : laidMetH Tryd.prog Rows.codeTextsRow.laid ((laidWorld os).forCall (fun _ _ => 0) ⟨#[], args, []⟩).memory :=
  laidMetH_of_parts (laidMet_of_run' 8 (by kernel_rfl) (by kernel_rfl)) (by kernel_rfl)
theorem gl_of_laid {W : World} (h : laidMetH Tryd.prog Rows.codeTextsRow.laid W) : Gl W := by
  have h' : laidMet Tryd.prog Rows.codeTextsRow.laid W := h
  obtain ⟨ps, hv, _⟩ := h'
  obtain ⟨g0, t0, cs0, f0, p0, q0, a0, b0, c0, d0, hv, _⟩ := hv
  have e0 : Tryd.prog.globalNamed "math/bits.deBruijn32tab" = some 6 := by kernel_rfl
  obtain rfl : g0 = 6 := Option.some.inj (a0.symm.trans e0)
  obtain rfl : t0 = 142 := Option.some.inj (b0.symm.trans (show (Tryd.prog.globals[6]?).map (·.type) = some 142 by kernel_rfl))
  obtain ⟨g1, t1, cs1, f1, p1, q1, a1, b1, c1, d1, hv, _⟩ := hv
  have e1 : Tryd.prog.globalNamed "math/bits.deBruijn64tab" = some 7 := by kernel_rfl
  obtain rfl : g1 = 7 := Option.some.inj (a1.symm.trans e1)
  obtain rfl : t1 = 143 := Option.some.inj (b1.symm.trans (show (Tryd.prog.globals[7]?).map (·.type) = some 143 by kernel_rfl))
  obtain ⟨g2, t2, cs2, f2, p2, q2, a2, b2, c2, d2, hv, _⟩ := hv
  have e2 : Tryd.prog.globalNamed "internal/strconv.uint64pow10" = some 5 := by kernel_rfl
  obtain rfl : g2 = 5 := Option.some.inj (a2.symm.trans e2)
  obtain rfl : t2 = 130 := Option.some.inj (b2.symm.trans (show (Tryd.prog.globals[5]?).map (·.type) = some 130 by kernel_rfl))
  obtain ⟨g3, t3, cs3, f3, p3, q3, a3, b3, c3, d3, hv, _⟩ := hv
  have e3 : Tryd.prog.globalNamed "capstan/op.names" = some 0 := by kernel_rfl
  obtain rfl : g3 = 0 := Option.some.inj (a3.symm.trans e3)
  obtain rfl : t3 = 90 := Option.some.inj (b3.symm.trans (show (Tryd.prog.globals[0]?).map (·.type) = some 90 by kernel_rfl))
  obtain ⟨g4, t4, cs4, f4, p4, q4, a4, b4, c4, d4, hv, _⟩ := hv
  have e4 : Tryd.prog.globalNamed "capstan/op.bounds" = some 1 := by kernel_rfl
  obtain rfl : g4 = 1 := Option.some.inj (a4.symm.trans e4)
  obtain rfl : t4 = 104 := Option.some.inj (b4.symm.trans (show (Tryd.prog.globals[1]?).map (·.type) = some 104 by kernel_rfl))
  obtain ⟨g5, t5, cs5, f5, p5, q5, a5, b5, c5, d5, hv, _⟩ := hv
  have e5 : Tryd.prog.globalNamed "strconv.ErrRange" = some 4 := by kernel_rfl
  obtain rfl : g5 = 4 := Option.some.inj (a5.symm.trans e5)
  obtain rfl : t5 = 67 := Option.some.inj (b5.symm.trans (show (Tryd.prog.globals[4]?).map (·.type) = some 67 by kernel_rfl))
  obtain ⟨g6, t6, cs6, f6, p6, q6, a6, b6, c6, d6, hv, _⟩ := hv
  have e6 : Tryd.prog.globalNamed "strconv.ErrSyntax" = some 3 := by kernel_rfl
  obtain rfl : g6 = 3 := Option.some.inj (a6.symm.trans e6)
  obtain rfl : t6 = 67 := Option.some.inj (b6.symm.trans (show (Tryd.prog.globals[3]?).map (·.type) = some 67 by kernel_rfl))
  exact ⟨gl_rows (arr_strs Tryd.underlying90 Tryd.underlying9 (by kernel_rfl) (by kernel_rfl) (ns := gl0) d3) (by decide) (World.var?_cell e3 c3), gl_row ((arr_pairs Tryd.underlying104 Tryd.underlying103 Tryd.underlying3 (by kernel_rfl) (by kernel_rfl) (by kernel_rfl) (nss := [[0, 0], [0, 31], [0, 15], [0, 3], [0, 1024], [0, 199], [0, 15], [0, 255], [1, 100]]) d4).trans rfl) (by decide) (World.var?_cell e4 c4), gl_row (arr_ints Tryd.underlying130 Tryd.underlying101 (by kernel_rfl) (by kernel_rfl) (ns := gl5) d2) (by decide) (World.var?_cell e2 c2), gl_row (arr_ints Tryd.underlying142 Tryd.underlying5 (by kernel_rfl) (by kernel_rfl) (ns := gl6) d0) (by decide) (World.var?_cell e0 c0), gl_row (arr_ints Tryd.underlying143 Tryd.underlying5 (by kernel_rfl) (by kernel_rfl) (ns := gl7) d1) (by decide) (World.var?_cell e1 c1), c2.trans (congrArg some ((Array.toArray_toList (xs := cs2)).symm.trans (congrArg List.toArray (arr_ints Tryd.underlying130 Tryd.underlying101 (by kernel_rfl) (by kernel_rfl) (ns := gl5) d2)))), err_at (arr_iface Tryd.underlying67 d6) (World.var?_cell e6 c6), err_at (arr_iface Tryd.underlying67 d5) (World.var?_cell e5 c5)⟩
end Go.Proofs.YtdfjjooejfgglaaDoor
