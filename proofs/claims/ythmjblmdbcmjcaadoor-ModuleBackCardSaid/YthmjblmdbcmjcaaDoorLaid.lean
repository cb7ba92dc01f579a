/- What the laid package variables hold (Gl), out of the card'. -/
import Derived.Test.YthmjblmdbcmjcaaDoorB0
import Derived.Test.YthmjblmdbcmjcaaDoorRows
import Derived.Test.YthmjblmdbcmjcaaDoorWMore
import Derived.OpenShut
import Derived.FnData
import Derived.LaidLaws
import Derived.LaidHandle
import Derived.LaidSub
import Derived.Handed
namespace Go.Proofs.YthmjblmdbcmjcaaDoor
open Go.RowKit Go.Proofs.YthmjblmdbcmjcaaDoor.B Go.Proofs.YthmjblmdbcmjcaaDoorW.PrintWords Go.Proofs.YthmjblmdbcmjcaaDoorW.PrintMore
theorem arr_ints {H : Type} {enc : TypeId × Value → H} {P : Program} {w : World} {base : Nat} {sp : Nat → Bool} {held : Bool} {t e : TypeId} {n fuel : Nat} {k : IntKind} {cs : List Value} {ns : List Int} {p : List MemPlace} (ht : P.underlying t = some (.array n e))
    (he : P.underlying e = some (.int k)) (hc : P.cellsOf e = 1) (hct : P.cellsOf t = n) (h : DataW.trod enc P w base sp held fuel t cs = some (.agg (ns.map fun z => .lit (.int k z)), p)) : cs = ns.map (Value.int k) := by
  obtain ⟨xs, m, rfl, hx, hl, hn, hi⟩ := DataW.trod_array ht h
  simp only [Prod.mk.injEq, DataW.agg.injEq] at hx
  have hlen : ns.length = n := by
    have := congrArg List.length hx.1
    simpa [hn] using this
  refine List.ext_getElem? fun i => ?_
  rw [List.getElem?_map]
  by_cases h1 : i < n
  · have h2 := hi i h1
    rw [hc, Nat.mul_one] at h2
    have h3 : xs[i]? = some xs[i] := List.getElem?_eq_getElem (by omega)
    have h4 : (ns.map fun z => (DataW.lit (.int k z) : DataW H))[i]? = (xs.map (·.1))[i]? := by rw [hx.1]
    rw [List.getElem?_map, List.getElem?_map, h3, List.getElem?_eq_getElem (by omega : i < ns.length)] at h4
    simp only [Option.map_some, Option.some.injEq] at h4
    have h5 : cs[i]? = some cs[i] := List.getElem?_eq_getElem (by omega)
    have h6 : (cs.drop i).take 1 = [cs[i]] := by
      rw [List.drop_eq_getElem_cons (by omega)]; rfl
    rw [h6, h3] at h2
    rw [h5, List.getElem?_eq_getElem (by omega : i < ns.length)]
    cases m with
    | zero => simp [DataW.trod] at h2
    | succ m =>
      unfold DataW.trod at h2
      rw [he] at h2
      split at h2 <;> simp_all
      rename_i z _ _ _
      obtain ⟨⟨rfl, _⟩, h7⟩ := h2
      rw [← h7] at h4
      simp at h4
      rw [h4]
  · rw [List.getElem?_eq_none (by omega), List.getElem?_eq_none (by omega)]; rfl
theorem gl_row {w : World} {g : Nat} {k : IntKind} {ns : List Int} {cs : Array Value} (hcs : cs.toList = ns.map (Value.int k)) (hl : ns.length ≤ 9223372036854775807) (h : ∀ i : Nat, w.cell? ⟨g, i, none⟩ = cs[i]?) : (Kd.int k).C w (some ⟨g, 0, none⟩) ns.length ns := by
  refine Kd.C_of_reads (d := (0 : Int)) (h1 := fun _ => rfl) ⟨rfl, hl, fun _ => ⟨_, rfl, fun j hj => ?_⟩⟩
  rw [add_plain, h j, ← Array.getElem?_toList, hcs, List.getElem?_map, List.getElem?_eq_getElem hj, List.getD_eq_getElem?_getD, List.getElem?_eq_getElem hj]
  rfl
theorem arr_strs {H : Type} {enc : TypeId × Value → H} {P : Program} {w : World} {base : Nat} {sp : Nat → Bool} {held : Bool} {t e : TypeId} {n fuel : Nat} {cs : List Value} {ns : List ByteArray} {p : List MemPlace} (ht : P.underlying t = some (.array n e))
    (he : P.underlying e = some .string) (hc : P.cellsOf e = 1) (hct : P.cellsOf t = n) (h : DataW.trod enc P w base sp held fuel t cs = some (.agg (ns.map fun z => .lit (.string z.data.toList)), p)) : cs = ns.map Value.string := by
  obtain ⟨xs, m, rfl, hx, hl, hn, hi⟩ := DataW.trod_array ht h
  simp only [Prod.mk.injEq, DataW.agg.injEq] at hx
  have hlen : ns.length = n := by
    have := congrArg List.length hx.1
    simpa [hn] using this
  refine List.ext_getElem? fun i => ?_
  rw [List.getElem?_map]
  by_cases h1 : i < n
  · have h2 := hi i h1
    rw [hc, Nat.mul_one] at h2
    have h3 : xs[i]? = some xs[i] := List.getElem?_eq_getElem (by omega)
    have h4 : (ns.map fun z => (DataW.lit (.string z.data.toList) : DataW H))[i]? = (xs.map (·.1))[i]? := by rw [hx.1]
    rw [List.getElem?_map, List.getElem?_map, h3, List.getElem?_eq_getElem (by omega : i < ns.length)] at h4
    simp only [Option.map_some, Option.some.injEq] at h4
    have h5 : cs[i]? = some cs[i] := List.getElem?_eq_getElem (by omega)
    have h6 : (cs.drop i).take 1 = [cs[i]] := by
      rw [List.drop_eq_getElem_cons (by omega)]; rfl
    rw [h6, h3] at h2
    rw [h5, List.getElem?_eq_getElem (by omega : i < ns.length)]
    cases m with
    | zero => simp [DataW.trod] at h2
    | succ m =>
      unfold DataW.trod at h2
      rw [he] at h2
      split at h2 <;> simp_all
      obtain ⟨_, h7⟩ := h2
      rw [← h7] at h4
      simp at h4
      rw [ByteArray.ext h4]
  · rw [List.getElem?_eq_none (by omega), List.getElem?_eq_none (by omega)]; rfl
theorem flat_cells {m : Nat} {f : Int → Value} (nss : List (List Int)) : ∀ cs : List Value, cs.length = nss.length * m → (∀ i (h : i < nss.length), (cs.drop (i * m)).take m = nss[i].map f) → cs = nss.flatten.map f := by
  induction nss with
  | nil => intro cs h _; exact List.eq_nil_of_length_eq_zero (by simpa using h)
  | cons ns nss ih =>
    intro cs h hi
    have h0 := hi 0 (by simp)
    rw [Nat.zero_mul, List.drop_zero] at h0
    have h1 := ih (cs.drop m) (by rw [List.length_drop, h, List.length_cons, Nat.succ_mul]; omega) (fun i hlt => by
      have := hi (i + 1) (by simp; omega)
      rw [List.drop_drop, show m + i * m = (i + 1) * m by rw [Nat.succ_mul]; omega]
      simpa using this)
    rw [List.flatten_cons, List.map_append, ← h1]
    have h2 : ns.map f = cs.take m := by simpa using h0.symm
    rw [h2, List.take_append_drop]
theorem arr_pairs {H : Type} {enc : TypeId × Value → H} {P : Program} {w : World} {base : Nat} {sp : Nat → Bool} {held : Bool} {t e e2 : TypeId} {n m fuel : Nat} {k : IntKind} {cs : List Value} {nss : List (List Int)} {p : List MemPlace} (ht : P.underlying t = some (.array n e)) (he : P.underlying e = some (.array m e2))
    (he2 : P.underlying e2 = some (.int k)) (hc : P.cellsOf e2 = 1) (hce : P.cellsOf e = m) (hct : P.cellsOf t = n * m) (h : DataW.trod enc P w base sp held fuel t cs = some (.agg (nss.map fun ns => .agg (ns.map fun z => .lit (.int k z))), p)) : cs = nss.flatten.map (Value.int k) := by
  obtain ⟨xs, q, rfl, hx, hl, hn, hi⟩ := DataW.trod_array ht h
  simp only [Prod.mk.injEq, DataW.agg.injEq] at hx
  have hlen : nss.length = n := by
    have := congrArg List.length hx.1
    simpa [hn] using this
  refine flat_cells (m := m) nss cs (by rw [hl, hct, hlen]) (fun i hlt => ?_)
  have h2 := hi i (by omega)
  rw [hce] at h2
  have h3 : xs[i]? = some xs[i] := List.getElem?_eq_getElem (by omega)
  have h4 : (nss.map fun ns => (DataW.agg (ns.map fun z => .lit (.int k z)) : DataW H))[i]? = (xs.map (·.1))[i]? := by rw [hx.1]
  rw [List.getElem?_map, List.getElem?_map, h3, List.getElem?_eq_getElem hlt] at h4
  simp only [Option.map_some, Option.some.injEq] at h4
  have h5 : xs[i] = (.agg (nss[i].map fun z => .lit (.int k z)), xs[i].2) := Prod.ext h4.symm rfl
  rw [h3, h5] at h2
  exact arr_ints he he2 hc hce h2
theorem gl_rows {w : World} {g : Nat} {ns : List ByteArray} {cs : Array Value} (hcs : cs.toList = ns.map Value.string) (hl : ns.length ≤ 9223372036854775807) (h : ∀ i : Nat, w.cell? ⟨g, i, none⟩ = cs[i]?) : Kd.string.C w (some ⟨g, 0, none⟩) ns.length ns := by
  refine Kd.C_of_reads (d := (⟨#[]⟩ : ByteArray)) (h1 := fun _ => rfl) ⟨rfl, hl, fun _ => ⟨_, rfl, fun j hj => ?_⟩⟩
  rw [add_plain, h j, ← Array.getElem?_toList, hcs, List.getElem?_map, List.getElem?_eq_getElem hj, List.getD_eq_getElem?_getD, List.getElem?_eq_getElem hj]
  rfl
noncomputable def laidWorld (os : Os) : World :=
  let w0 := World.holding Tryd.prog os ⟨#[], #[], []⟩
  { w0 with heap := ((w0.heap.modify 1 (fun | .cells _ t fr => .cells #[.int .i64 0, .int .i64 0, .int .i64 0, .int .i64 31, .int .i64 0, .int .i64 15, .int .i64 0, .int .i64 3, .int .i64 0, .int .i64 1024, .int .i64 0, .int .i64 199, .int .i64 0, .int .i64 15, .int .i64 0, .int .i64 255, .int .i64 1, .int .i64 100] t fr | o => o)).modify 0 (fun | .cells _ t fr => .cells #[.int .i64 0, .int .i64 8, .int .i64 6] t fr | o => o)) }
theorem laidWorld_met (os : Os) (args : Array Value) : laidMetH Tryd.prog Rows.moduleBackRow.laid ((laidWorld os).forCall (fun _ _ => 0) ⟨#[], args, []⟩).memory :=
  laidMetH_of_parts (laidMet_of_run' 8 (by kernel_rfl) (by kernel_rfl)) (by kernel_rfl)
theorem gl_of_laid {W : World} (h : laidMetH Tryd.prog Rows.moduleBackRow.laid W) : Gl W := by
  have h' : laidMet Tryd.prog Rows.moduleBackRow.laid W := h
  obtain ⟨ps, hv, _⟩ := h'
  obtain ⟨g0, t0, cs0, f0, p0, q0, a0, b0, c0, d0, hv, _⟩ := hv
  have e0 : Tryd.prog.globalNamed "capstan/op.bounds" = some 1 := by kernel_rfl
  obtain rfl : g0 = 1 := Option.some.inj (a0.symm.trans e0)
  obtain rfl : t0 = 153 := Option.some.inj (b0.symm.trans (show (Tryd.prog.globals[1]?).map (·.type) = some 153 by kernel_rfl))
  obtain ⟨g1, t1, cs1, f1, p1, q1, a1, b1, c1, d1, hv, _⟩ := hv
  have e1 : Tryd.prog.globalNamed "capstan/value.sizes" = some 0 := by kernel_rfl
  obtain rfl : g1 = 0 := Option.some.inj (a1.symm.trans e1)
  obtain rfl : t1 = 128 := Option.some.inj (b1.symm.trans (show (Tryd.prog.globals[0]?).map (·.type) = some 128 by kernel_rfl))
  exact ⟨gl_row (arr_ints Tryd.underlying128 Tryd.underlying3 (by kernel_rfl) (by kernel_rfl) (ns := gl0) d1) (by decide) (World.var?_cell e1 c1), gl_row ((arr_pairs Tryd.underlying153 Tryd.underlying152 Tryd.underlying3 (by kernel_rfl) (by kernel_rfl) (by kernel_rfl) (nss := [[0, 0], [0, 31], [0, 15], [0, 3], [0, 1024], [0, 199], [0, 15], [0, 255], [1, 100]]) d0).trans rfl) (by decide) (World.var?_cell e0 c0)⟩
end Go.Proofs.YthmjblmdbcmjcaaDoor
