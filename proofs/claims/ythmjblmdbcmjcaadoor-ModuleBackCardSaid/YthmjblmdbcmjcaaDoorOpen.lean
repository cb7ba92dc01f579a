/- What an argument's reading as data says of its cells, by th. -/
import Derived.Test.YthmjblmdbcmjcaaDoorWMore
import Derived.ChangeArms
import Derived.ChangeSlices
import Derived.LaidMore
namespace Go.Proofs.YthmjblmdbcmjcaaDoor.O
open Go.RowKit Go.Proofs.YthmjblmdbcmjcaaDoorW.PrintWords Go.Proofs.YthmjblmdbcmjcaaDoorW.PrintMore
def Opens (P : Program) (t : TypeId) {α : Type} (d : Kd α) (G : α → Prop) : Prop :=
  P.cellsOf t = d.sz ∧ ∀ {H : Type} (enc : TypeId × Value → H) (w : World) (base : Nat) (sp : Nat → Bool) (held : Bool) (fuel : Nat) (cs : List Value) (x : DataW H × List MemPlace),
    DataW.trod enc P w base sp held fuel t cs = some x → ∃ a, d.K w a cs ∧ G a
structure OpensF (P : Program) (fs : List Field) (off : Nat) {α : Type} (d : Kd α) (G : α → Prop) : Prop where
  opens : ∀ {H : Type} (enc : TypeId × Value → H) (w : World) (base : Nat) (sp : Nat → Bool) (held : Bool) (n : Nat) (cs : List Value), cs.length = off + d.sz →
    (∀ f ∈ fs, ∃ y, DataW.trod enc P w base sp held n f.type ((cs.drop f.offset).take (P.cellsOf f.type)) = some y) → ∃ a, d.K w a (cs.drop off) ∧ G a
section
variable {P : Program} {t e : TypeId} {α β : Type} {d : Kd α} {d' : Kd β} {G : α → Prop} {G' : β → Prop}
theorem Opens.int {k : IntKind} (ht : P.underlying t = some (.int k)) (hc : P.cellsOf t = 1) : Opens P t (Kd.int k) (fun n => (Lit.int k n).wf = true) := by
  refine ⟨hc, fun enc w base sp held fuel cs x h => ?_⟩
  cases fuel with
  | zero => simp [DataW.trod] at h
  | succ n =>
    unfold DataW.trod at h
    rw [ht] at h
    split at h <;> simp_all
    rename_i z _
    exact ⟨_, rfl, h.1.2⟩
theorem Opens.bool (ht : P.underlying t = some .bool) (hc : P.cellsOf t = 1) : Opens P t Kd.bool (fun _ => True) := by
  refine ⟨hc, fun enc w base sp held fuel cs x h => ?_⟩
  cases fuel with
  | zero => simp [DataW.trod] at h
  | succ n =>
    unfold DataW.trod at h
    rw [ht] at h
    split at h <;> simp_all
    exact Bool.rec (motive := fun b => Kd.bool.K w false [.bool b] ∨ Kd.bool.K w true [.bool b]) (.inl rfl) (.inr rfl) _
theorem Opens.string (ht : P.underlying t = some .string) (hc : P.cellsOf t = 1) : Opens P t Kd.string (fun s => s.size ≤ maxLen) := by
  refine ⟨hc, fun enc w base sp held fuel cs x h => ?_⟩
  cases fuel with
  | zero => simp [DataW.trod] at h
  | succ n =>
    unfold DataW.trod at h
    rw [ht] at h
    split at h <;> simp_all
    exact ⟨_, rfl, h.1⟩
theorem Opens.iso (h : Opens P t d G) (f : β → α) (g : α → β) (hfg : ∀ a, f (g a) = a) : Opens P t (Kd.iso d f) (fun b => G (f b)) :=
  ⟨h.1, fun enc w base sp held fuel cs x hx => by
    obtain ⟨a, hk, hg⟩ := h.2 enc w base sp held fuel cs x hx
    exact ⟨g a, by show d.K w (f (g a)) cs; rw [hfg]; exact hk, by show G (f (g a)); rw [hfg]; exact hg⟩⟩
theorem OpensF.one {f : Field} {off : Nat} (h : Opens P f.type d G) (ho : f.offset = off) : OpensF P [f] off d G := by
  refine ⟨?_⟩
  intro H enc w base sp held n cs hl hf
  obtain ⟨y, hy⟩ := hf f (by simp)
  rw [ho, h.1, List.take_of_length_le (by rw [List.length_drop]; omega)] at hy
  exact h.2 enc w base sp held n _ y hy
theorem OpensF.cons {f : Field} {fs : List Field} {off : Nat} (h : Opens P f.type d G) (ho : f.offset = off) (hr : OpensF P fs (off + d.sz) d' G') : OpensF P (f :: fs) off (Kd.pair d d') (fun x => G x.1 ∧ G' x.2) := by
  refine ⟨?_⟩
  intro H enc w base sp held n cs hl hf
  have hl2 : cs.length = off + (d.sz + d'.sz) := hl
  obtain ⟨y, hy⟩ := hf f (by simp)
  rw [ho, h.1] at hy
  obtain ⟨a, hk, hg⟩ := h.2 enc w base sp held n _ y hy
  obtain ⟨b, hk2, hg2⟩ := hr.opens enc w base sp held n cs (by omega) (fun f' hf' => hf f' (by simp [hf']))
  refine ⟨(a, b), ⟨_, _, ?_, hk, hk2⟩, hg, hg2⟩
  rw [← List.drop_drop, List.take_append_drop]
theorem Opens.struct {fs : Array Field} (ht : P.underlying t = some (.struct fs)) (hc : P.cellsOf t = d.sz) (h : OpensF P fs.toList 0 d G) : Opens P t d G := by
  refine ⟨hc, fun enc w base sp held fuel cs x hx => ?_⟩
  obtain ⟨xs, n, rfl, _, hl, hlen, hf⟩ := DataW.trod_struct ht hx
  obtain ⟨a, hk, hg⟩ := h.opens enc w base sp held n cs (by omega) (fun f hm => by
    obtain ⟨i, hi, rfl⟩ := List.mem_iff_getElem.1 hm
    have hi2 : i < fs.size := by simpa using hi
    have := hf i fs[i] (Array.getElem?_eq_getElem hi2)
    rw [List.getElem?_eq_getElem (by omega)] at this
    exact ⟨_, by simpa using this⟩)
  exact ⟨a, by simpa using hk, hg⟩
theorem add_add' (a : Addr) (i j : Nat) : (a.add i).add j = a.add (i + j) := by
  unfold Addr.add
  by_cases h : i = 0 <;> by_cases h2 : j = 0 <;> simp_all <;> omega
theorem Opens.slice (ht : P.underlying t = some (.slice e)) (hc : P.cellsOf t = 1) (h : Opens P e d G) : Opens P t (Kd.slice e d) (fun xs => xs.length ≤ maxLen ∧ ∀ x ∈ xs, G x) := by
  refine ⟨hc, fun enc w base sp held fuel cs x hx => ?_⟩
  rcases DataW.trod_slice ht hx with ⟨rfl, _⟩ | ⟨a, len, cap, elems, rest, n, _, rfl, _, _, hl, hm, hlen, hel, _, _⟩
  · exact ⟨[], ⟨none, 0, rfl, Nat.le_refl _, rfl, by simp, fun h => absurd h (by simp)⟩, by simp [maxLen], by simp⟩
  · have hm' : len ≤ 9223372036854775807 := by simp only [maxLen] at hm; omega
    have each : ∀ i, i < len → ∃ z c, c.length = d.sz ∧ d.K w z c ∧ G z ∧ ∀ j u, c[j]? = some u → w.cell? (a.add (i * d.sz + j)) = some u := by
      intro i hi
      have hE := hel i hi
      rw [List.getElem?_eq_getElem (by omega)] at hE
      obtain ⟨c, hcs, hy⟩ := Option.bind_eq_some_iff.1 hE
      obtain ⟨z, hk, hg⟩ := h.2 enc w base sp held n c _ hy
      obtain ⟨_, hcl, hcell⟩ := World.cells?_some hcs
      refine ⟨z, c, d.K_len hk, hk, hg, fun j u hj => ?_⟩
      have hj2 := (List.getElem?_eq_some_iff.1 hj).1
      have := hcell j (by omega)
      rw [h.1, add_add', hj] at this
      exact this
    have ex : ∀ m, m ≤ len → ∃ xs : List α, xs.length = m ∧ (∀ x ∈ xs, G x) ∧ ∀ i p, xs[i]? = some p → ∃ c, c.length = d.sz ∧ d.K w p c ∧ ∀ j u, c[j]? = some u → w.cell? (a.add (i * d.sz + j)) = some u := by
      intro m
      induction m with
      | zero => intro _; exact ⟨[], rfl, by simp, by simp⟩
      | succ m ih =>
        intro hm2
        obtain ⟨xs, hl2, hg, hr⟩ := ih (by omega)
        obtain ⟨z, c, h1, h2, h3, h4⟩ := each m (by omega)
        refine ⟨xs ++ [z], by simp [hl2], fun x hx => ?_, fun i p hp => ?_⟩
        · rcases List.mem_append.1 hx with hx | hx
          · exact hg x hx
          · rw [List.mem_singleton.1 hx]; exact h3
        · by_cases hi : i < m
          · rw [List.getElem?_append_left (by omega)] at hp
            exact hr i p hp
          · have hi2 := (List.getElem?_eq_some_iff.1 hp).1
            rw [List.length_append, hl2] at hi2
            simp at hi2
            obtain rfl : i = m := by omega
            rw [List.getElem?_append_right (by omega)] at hp
            rw [hl2, Nat.sub_self] at hp
            simp at hp
            subst hp
            exact ⟨c, h1, h2, h4⟩
    obtain ⟨xs, hxl, hg, hr⟩ := ex len (Nat.le_refl _)
    refine ⟨xs, ⟨some a, cap, by rw [hxl], by omega, rfl, by omega, fun _ => ⟨a, rfl, hr⟩⟩, by omega, hg⟩
end
end Go.Proofs.YthmjblmdbcmjcaaDoor.O
