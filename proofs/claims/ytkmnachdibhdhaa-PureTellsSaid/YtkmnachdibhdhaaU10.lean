/- Contracts of the functions of this seat (each: the call of the function does what the plain Lean function of the same name tells; the conditions stand in each statement). Written by a program of this session and by hand; checked by Lean. -/
import Derived.Test.YtkmnachdibhdhaaU0
import Derived.Test.YtkmnachdibhdhaaU8
import Derived.Test.YtkmnachdibhdhaaU9
namespace Go.Proofs.Ytkmnachdibhdhaa.U
open Go.RowKit Go.Proofs.YtkmnachdibhdhaaW.PrintWords Go.Proofs.YtkmnachdibhdhaaW.PrintLast Go.Proofs.YtkmnachdibhdhaaW.PrintMore
attribute [local go_sem] max2_int min2_int max_two min_two max_three min_three max_four min_four   -- for this text's walks alone
set_option linter.unusedVariables false
set_option linter.unusedSimpArgs false

/-! ### pure_Pure: function 17 -/
section kwp
open Go.Conc
/-! Code that sends and receives, nobody else being there: a walk that asks of the frame that it isn't an early one. -/
def KWp (P : Program) (c : Code) (Q : Exit → Act → World → Prop) (a : Act) (w : World) : Prop :=
  ∀ (b : Frame) (k : List Item) (cs : List Frame), b.kind ≠ .early → ∃ e a' w', Q e a' w' ∧ Arrives P (lone (b.at a (.code c :: k)) cs w) b k cs e a' w'
section
variable {P : Program} {Q : Exit → Act → World → Prop} {a : Act} {w : World}
theorem kwp_of_wp {c : Code} (h : c.wp P Q a w) : KWp P c Q a w := fun b k cs _ => h b k cs
theorem kwp_mono {c : Code} {Q' : Exit → Act → World → Prop} (h : KWp P c Q a w) (hq : ∀ e a w, Q e a w → Q' e a w) : KWp P c Q' a w :=
  fun b k cs hb => let ⟨e, a', w', q, r⟩ := h b k cs hb; ⟨e, a', w', hq _ _ _ q, r⟩
theorem kwp_seq {x y : Code} (h : KWp P x (Exit.then (KWp P y Q) Q) a w) : KWp P (Code.seq x y) Q a w := by
  intro b k cs hb; obtain ⟨e, a1, w1, hq, harr⟩ := h b (.code y :: k) cs hb; cases e
  case normal =>
    obtain ⟨e2, a2, w2, hq2, harr2⟩ := hq b k cs hb; exact ⟨e2, a2, w2, hq2, .of_steps (.head step_seq harr) harr2⟩
  all_goals exact ⟨_, a1, w1, hq, .of_steps (.one step_seq) (.pass (x := .code y) rfl (fun _ _ => .inl (by simp)) harr)⟩
theorem kwp_cond {c : Operand} {x y : Code} {t : Bool} (hc : a.eval c = .bool t) (ht : t = true → KWp P x Q a w) (hf : t = false → KWp P y Q a w) : KWp P (Code.cond c x y) Q a w := by
  intro b k cs hb; cases t
  · obtain ⟨e, a', w', q, r⟩ := hf rfl b k cs hb
    exact ⟨e, a', w', q, .of_steps (.one (step_cond hc)) r⟩
  · obtain ⟨e, a', w', q, r⟩ := ht rfl b k cs hb
    exact ⟨e, a', w', q, .of_steps (.one (step_cond hc)) r⟩
theorem kwp_skip (h : Q .normal a w) : KWp P Code.skip Q a w := kwp_of_wp (wp_skip h)
theorem kwp_exit {id : Nat} (h : Q (.exit id) a w) : KWp P (Code.exit id) Q a w := kwp_of_wp (wp_exit h)
theorem kwp_ret (h : Q .ret a w) : KWp P Code.ret Q a w := kwp_of_wp (wp_ret h)
theorem kwp_block {id : Nat} {c : Code} (h : KWp P c (Exit.inBlock id Q) a w) : KWp P (Code.block id c) Q a w := by
  intro b k cs hb; obtain ⟨e, a1, w1, hq, harr⟩ := h b (.inBlock id :: k) cs hb
  cases e with
  | normal => exact ⟨.normal, a1, w1, hq, .head step_block (Steps.trans harr (.one step_inBlock))⟩
  | exit id' =>
    by_cases hid : id' = id
    · simp only [Exit.inBlock, hid, if_true] at hq
      exact ⟨.normal, a1, w1, hq, .head step_block (harr k (by simp [exitTo, hid]))⟩
    · simp only [Exit.inBlock, hid, if_false] at hq
      refine ⟨.exit id', a1, w1, hq, fun k' hk => .head step_block (harr k' ?_)⟩
      have h3 : (id == id') = false := by simp; exact fun h => hid h.symm
      simp [exitTo, h3, hk]
  | goto l => exact ⟨_, a1, w1, hq, fun k' hk => .head step_block (harr k' (by simp [gotoIn, hk]))⟩
  | ret => exact ⟨_, a1, w1, hq, .of_steps (.one step_block) harr⟩
  | panic ch => exact ⟨_, a1, w1, hq, .of_steps (.one step_block) harr⟩
  | outgrown => exact ⟨_, a1, w1, hq, .of_steps (b := b) (k := k) (cs := cs) (e := .outgrown) (.one step_block) harr⟩
/-- A loop by rounds that are counted down; what holds ahead of a round may be told by any data. -/
theorem kwp_loop {c : Code} (I : Nat → Act → World → Prop) {n : Nat} (h0 : I n a w)
    (round : ∀ n a w, I n a w → KWp P c (Exit.then (fun a' w' => ∃ m, m < n ∧ I m a' w') Q) a w) : KWp P (Code.loop c) Q a w := by
  intro b k cs hb
  have key : ∀ n a w, I n a w → ∃ e a' w', Q e a' w' ∧ Arrives P (lone (b.at a (.code c :: .inLoop c :: k)) cs w) b k cs e a' w' := by
    intro n
    induction n using Nat.strongRecOn with
    | _ n ih =>
      intro a w hI; obtain ⟨e, a1, w1, hq, harr⟩ := round n a w hI b (.inLoop c :: k) cs hb; cases e
      case normal =>
        obtain ⟨m, hm, hI1⟩ := hq; obtain ⟨e2, a2, w2, hq2, harr2⟩ := ih m hm a1 w1 hI1; exact ⟨e2, a2, w2, hq2, .of_steps (Steps.trans harr (.one step_inLoop)) harr2⟩
      all_goals exact ⟨_, a1, w1, hq, .pass (x := .inLoop c) rfl (fun _ _ => .inl (by simp)) harr⟩
  obtain ⟨e, a', w', hq, harr⟩ := key n a w h0; exact ⟨e, a', w', hq, .of_steps (.one step_loop) harr⟩
theorem calls_of_kwp {f : FuncId} {fn : Func} {c : Code} {args : Array Value} {R : Ending → World → Prop} (hf : P.funcs[f]? = some fn) (hb : fn.body = some c)
    (h : KWp P c (bodyPost P fn R) { tmps := args ++ Array.replicate (fn.ntmps - args.size) undef, defers := [] } w) : Calls P f args w R := by
  intro cs
  let b : Frame := { (default : Frame) with fn := f, kind := .normal }
  have henter : Frame.enter P f args .normal = b.at { tmps := args ++ Array.replicate (fn.ntmps - args.size) undef, defers := [] } [.code c] := by
    simp [Frame.enter, Frame.at, hf, hb, b]
  obtain ⟨e, a', w', hq, harr⟩ := h b [] cs (by simp [b]); rw [← henter] at harr
  cases e with
  | normal =>
    obtain ⟨hd, v, hr, hR⟩ := hq; exact ⟨.returned v, w', _, hR, Steps.trans harr (.one step_end), rfl, rfl, hd, rfl, fn, hf, hr⟩
  | ret =>
    obtain ⟨hd, v, hr, hR⟩ := hq; obtain ⟨todo, hs⟩ := harr; exact ⟨.returned v, w', _, hR, hs, rfl, rfl, hd, rfl, fn, hf, hr⟩
  | panic chain =>
    obtain ⟨hd, hR⟩ := hq; obtain ⟨todo, hs⟩ := harr; exact ⟨.panicked chain, w', _, hR, hs, rfl, rfl, hd, fn, hf⟩
  | exit id => exact hq.elim
  | goto l => exact hq.elim
  | outgrown => exact ⟨.outgrown, w', b, hq, harr.resolve_left (by simp [b]), rfl, trivial⟩
/-! The operations of a region, one by one. -/
section
variable {b : Frame} {k : List Item} {cs : List Frame} {ops : Array Oper} {i : Nat} {rest : List Nat} {o : Oper}
theorem wanted_plain (hg : o.guard = none) (y : Nat → Option Bool) : Region.wanted o y = true := by simp [Region.wanted, hg]
theorem step_value {v : Value} {w' : World} (ho : ops[i]? = some o) (hg : o.guard = none) (hr : (execOp a.eval o).run P w = .ok (.value v) w') :
    step P (lone (b.at a (.inRegion ops (i :: rest) :: k)) cs w) = .next (lone (b.at (a.put o.dst v) (.inRegion ops rest :: k)) cs w') := by
  refine step_lone_go ?_
  have hfin : (b.at a (.inRegion ops (i :: rest) :: k)).finish v = b.at (a.put o.dst v) (.inRegion ops rest :: k) := by rw [Frame.finish_at, ho]; rfl
  have hg2 := stepG_op (P := P) (b := b) (k := k) (cs := cs) (w := w) (rest := rest) ho (wanted_plain hg (yielded ops a.tmps)); rw [hg2, ← hfin]
  simp [stepG.apply, hr]
theorem step_sends {c cap s r : Nat} {buf : Array Value} {v : Value} {tm : Bool} {x y : Operand} (hb : b.kind ≠ .early) (ho : ops[i]? = some o) (hg : o.guard = none) (hop : o.op = .send x y) (hx : a.eval x = .chan (some c)) (hy : a.eval y = v)
    (hc : w.heap[c]? = some (.chan cap buf false s r tm)) (hroom : buf.size < cap) :
    step P (lone (b.at a (.inRegion ops (i :: rest) :: k)) cs w) = .next (lone (b.at (a.put o.dst undef) (.inRegion ops rest :: k)) cs (w.setChan c cap (buf.push v) false (s + 1) r tm)) := by
  have hfin : (b.at a (.inRegion ops (i :: rest) :: k)).finish undef = b.at (a.put o.dst undef) (.inRegion ops rest :: k) := by rw [Frame.finish_at, ho]; rfl
  rw [← hfin]; exact step_lone_send_room (stepG_comm (cases := #[scase c v (.tuple #[])]) (blocking := true) (shape := .send) (w' := w) ho (wanted_plain hg _) hb (by simp [execOp, hop, hx, hy, scase])) hc hroom
theorem step_recvs {c cap s r : Nat} {buf : Array Value} {z : Value} {closed tm ok : Bool} (hb : b.kind ≠ .early) (ho : ops[i]? = some o) (hg : o.guard = none)
    (hr : (execOp a.eval o).run P w = .ok (.comm #[rcase c z] true (.recv ok)) w)
    (hc : w.heap[c]? = some (.chan cap buf closed s r tm)) (hsome : 0 < buf.size) :
    step P (lone (b.at a (.inRegion ops (i :: rest) :: k)) cs w) = .next (lone (b.at (a.put o.dst (got ok (buf.getD 0 undef) true)) (.inRegion ops rest :: k)) cs (w.setChan c cap (buf.extract 1 buf.size) closed s (r + 1) tm)) := by
  have hfin : (b.at a (.inRegion ops (i :: rest) :: k)).finish (got ok (buf.getD 0 undef) true) = b.at (a.put o.dst (got ok (buf.getD 0 undef) true)) (.inRegion ops rest :: k) := by rw [Frame.finish_at, ho]; rfl
  rw [← hfin]; exact step_lone_recv_buf ok (stepG_comm (cases := #[rcase c z]) (blocking := true) (shape := .recv ok) (w' := w) ho (wanted_plain hg _) hb hr) hc hsome
theorem step_recv_ends {c cap s r : Nat} {z : Value} {tm ok : Bool} (hb : b.kind ≠ .early) (ho : ops[i]? = some o) (hg : o.guard = none)
    (hr : (execOp a.eval o).run P w = .ok (.comm #[rcase c z] true (.recv ok)) w)
    (hc : w.heap[c]? = some (.chan cap #[] true s r tm)) :
    step P (lone (b.at a (.inRegion ops (i :: rest) :: k)) cs w) = .next (lone (b.at (a.put o.dst (got ok z false)) (.inRegion ops rest :: k)) cs w) := by
  have hfin : (b.at a (.inRegion ops (i :: rest) :: k)).finish (got ok z false) = b.at (a.put o.dst (got ok z false)) (.inRegion ops rest :: k) := by rw [Frame.finish_at, ho]; rfl
  rw [← hfin]; exact step_lone_recv_shut ok (stepG_comm (cases := #[rcase c z]) (blocking := true) (shape := .recv ok) (w' := w) ho (wanted_plain hg _) hb hr) hc
end
/-- 'c <- v' where there is room: the region of two moves and the send. -/
theorem kwp_send {id : Nat} {o0 o1 o2 : Oper} {x0 x1 : Operand} {d0 d1 c cap s r : Nat} {buf : Array Value} {v : Value} {tm : Bool}
    (h0 : o0.op = .move x0) (g0 : o0.guard = none) (e0 : o0.dst = some d0) (h1 : o1.op = .move x1) (g1 : o1.guard = none) (e1 : o1.dst = some d1) (h2 : o2.op = .send (.tmp d0) (.tmp d1)) (g2 : o2.guard = none) (e2 : o2.dst = none)
    (hx0 : a.eval x0 = .chan (some c)) (hx1 : (a.put (some d0) (.chan (some c))).eval x1 = v)
    (hc : w.heap[c]? = some (.chan cap buf false s r tm)) (hroom : buf.size < cap) (hd0 : d0 < a.tmps.size) (hd1 : d1 < a.tmps.size) (hne : d0 ≠ d1)
    (h : ∀ W', W' = w.setChan c cap (buf.push v) false (s + 1) r tm → Q .normal ((a.put (some d0) (.chan (some c))).put (some d1) v) W') : KWp P (.region id #[o0, o1, o2] false) Q a w := by
  intro b k cs hb; refine ⟨.normal, _, _, h _ rfl, ?_⟩; refine Steps.head step_region ?_; rw [show List.range (#[o0, o1, o2] : Array Oper).size = [0, 1, 2] from rfl]; refine Steps.head (step_value (o := o0) (v := .chan (some c)) (w' := w) rfl g0 (by simp [execOp, h0, hx0])) ?_; rw [e0]; refine Steps.head (step_value (o := o1) (v := v) (w' := w) rfl g1 (by simp [execOp, h1, hx1])) ?_; rw [e1]; refine Steps.head (step_sends (o := o2) (v := v) hb rfl g2 h2 ?_ ?_ hc hroom) ?_
  · simp [Act.eval, Act.put, Array.getElem!_eq_getD, hd0, hd1, Ne.symm hne, hne]
  · simp [Act.eval, Act.put, Array.getElem!_eq_getD, hd0, hd1]
  rw [e2]; exact .one step_region_end
/-- 'x, ok := <-c' (of a range over a channel) where something waits in the buffer. -/
theorem kwp_recv {id : Nat} {o0 o1 : Oper} {d0 d1 c cap s r : Nat} {buf : Array Value} {v z : Value} {closed tm : Bool} (g0 : o0.guard = none) (e0 : o0.dst = some d0) (hr : (execOp a.eval o0).run P w = .ok (.comm #[rcase c z] true (.recv true)) w)
    (h1 : o1.op = .extract (.tmp d0) 1) (g1 : o1.guard = none) (e1 : o1.dst = some d1) (hc : w.heap[c]? = some (.chan cap buf closed s r tm)) (hsome : 0 < buf.size) (hv : buf.getD 0 undef = v) (hd0 : d0 < a.tmps.size)
    (h : ∀ W', W' = w.setChan c cap (buf.extract 1 buf.size) closed s (r + 1) tm → Q .normal ((a.put (some d0) (.tuple #[v, .bool true])).put (some d1) (.bool true)) W') : KWp P (.region id #[o0, o1] false) Q a w := by
  intro b k cs hb; refine ⟨.normal, _, _, h _ rfl, ?_⟩; refine Steps.head step_region ?_; rw [show List.range (#[o0, o1] : Array Oper).size = [0, 1] from rfl]; refine Steps.head (step_recvs (o := o0) (ok := true) hb rfl g0 hr hc hsome) ?_; rw [e0, hv]; refine Steps.head (step_value (o := o1) (v := .bool true) (w' := w.setChan c cap (buf.extract 1 buf.size) closed s (r + 1) tm) rfl g1 ?_) ?_
  · simp [execOp, h1, got, Act.eval, Act.put, hd0, Instr.extract]
  rw [e1]; exact .one step_region_end
/-- .. and where the channel is closed and empty. -/
theorem kwp_recv_end {id : Nat} {o0 o1 : Oper} {d0 d1 c cap s r : Nat} {z : Value} {tm : Bool} (g0 : o0.guard = none) (e0 : o0.dst = some d0) (hr : (execOp a.eval o0).run P w = .ok (.comm #[rcase c z] true (.recv true)) w)
    (h1 : o1.op = .extract (.tmp d0) 1) (g1 : o1.guard = none) (e1 : o1.dst = some d1) (hc : w.heap[c]? = some (.chan cap #[] true s r tm)) (hd0 : d0 < a.tmps.size)
    (h : Q .normal ((a.put (some d0) (.tuple #[z, .bool false])).put (some d1) (.bool false)) w) : KWp P (.region id #[o0, o1] false) Q a w := by
  intro b k cs hb; refine ⟨.normal, _, _, h, ?_⟩; refine Steps.head step_region ?_; rw [show List.range (#[o0, o1] : Array Oper).size = [0, 1] from rfl]; refine Steps.head (step_recv_ends (o := o0) (ok := true) hb rfl g0 hr hc) ?_; rw [e0]; refine Steps.head (step_value (o := o1) (v := .bool false) (w' := w) rfl g1 ?_) ?_
  · simp [execOp, h1, got, Act.eval, Act.put, hd0, Instr.extract]
  rw [e1]; exact .one step_region_end
end
end kwp
theorem pp_at_rows {w : World} {A : Option Addr} {n : Nat} {xs : List (List Int)} (h : Kd.C (Kd.slice 3 (Kd.int .i64)) w A n xs) (i : Int) (h0 : 0 ≤ i) (h1 : i < n) : ∃ ad A0 c0, A = some ad ∧ w.cell? (ad.add i.toNat) = some (.slice A0 (xs.getD i.toNat []).length c0) ∧ (xs.getD i.toNat []).length ≤ c0 ∧ (Kd.int .i64).C w A0 (xs.getD i.toNat []).length (xs.getD i.toNat []) := by
  obtain ⟨ad, c, e, _, hK, hc0⟩ := Kd.C_get h ([] : List Int) i h0 h1; have hc : ∀ j u, c[j]? = some u → w.cell? (ad.add (i.toNat * 1 + j)) = some u := hc0; obtain ⟨A0, c0, rfl, l0, g0⟩ := hK; exact ⟨ad, A0, c0, e, au95, l0, g0⟩
theorem pp_at_ints {w : World} {A : Option Addr} {n : Nat} {xs : List Int} (h : Kd.C (Kd.int .i64) w A n xs) (i : Nat) (h1 : i < n) (h2 : i < xs.length) : ∃ ad, A = some ad ∧ w.cell? (ad.add i) = some (.int .i64 xs[i]) := by
  obtain ⟨ad, c, e, _, hK, hc0⟩ := Kd.C_get h (0 : Int) (i : Int) (by omega) (by omega); have hc : ∀ j u, c[j]? = some u → w.cell? (ad.add (i * 1 + j)) = some u := hc0; obtain rfl : c = [Value.int .i64 (xs.getD (i : Int).toNat 0)] := hK; refine ⟨ad, e, ?_⟩; have hq := hc 0 _ rfl; rw [Nat.mul_one, Nat.add_zero] at hq; rw [hq]
  simp [h2]
/-- slices.Contains of a row that is read. -/
theorem pp_contains (w : World) (A : Option Addr) (c : Nat) (xs : List Int) (x : Int) (h : Kd.C (Kd.int .i64) w A xs.length xs) (hl : xs.length ≤ 1000000) :
    Calls Try.prog 44 #[.slice A xs.length c, .int .i64 x] w fun e w' => e = .returned (.bool (xs.contains x)) ∧ w' = w := by
  by_cases h0 : xs = []
  · subst h0
    exact (Try.slices_Contains_int_empty A c x w).mono (by rintro e w' ⟨rfl, rfl⟩; exact ⟨rfl, rfl⟩)
  · have hpos : 0 < xs.length := List.length_pos_iff.2 h0
    obtain ⟨ad, rfl, hc⟩ := pp_at_ints h 0 hpos hpos
    have hsp : ad.spot = none := by
      cases hs : ad.spot with
      | none => rfl
      | some s =>
        exfalso
        unfold World.cell? at hc
        simp only [Addr.add] at hc
        split at hc <;> simp_all
    obtain ⟨b, off, sp⟩ := ad; dsimp only at hsp; subst hsp
    have hall : ∀ j, j < xs.length → w.cell? ⟨b, off + j, none⟩ = some (.int .i64 (xs.getD j 0)) := by
      intro j hj; obtain ⟨ad, e, hc⟩ := pp_at_ints h j hj hj; cases e; rw [show (⟨b, off + j, none⟩ : Addr) = (⟨b, off, none⟩ : Addr).add j from (by unfold Addr.add; split <;> simp_all), hc]
      simp [hj]
    refine (Try.slices_Contains_int b off xs.length c xs x w (Nat.le_refl _) (by omega) hall).mono ?_; rintro e w' ⟨rfl, rfl⟩; rw [List.take_length]; exact ⟨rfl, rfl⟩
section purep
open Go.Conc
set_option maxRecDepth 100000
theorem lit84 (arr : Array Value) (h : arr.size = 84) : ∃ T : Nat → Value, arr = #[T 0, T 1, T 2, T 3, T 4, T 5, T 6, T 7, T 8, T 9, T 10, T 11, T 12, T 13, T 14, T 15, T 16, T 17, T 18, T 19, T 20, T 21, T 22, T 23, T 24, T 25, T 26, T 27, T 28, T 29, T 30, T 31, T 32, T 33, T 34, T 35, T 36, T 37, T 38, T 39, T 40, T 41, T 42, T 43, T 44, T 45, T 46, T 47, T 48, T 49, T 50, T 51, T 52, T 53, T 54, T 55, T 56, T 57, T 58, T 59, T 60, T 61, T 62, T 63, T 64, T 65, T 66, T 67, T 68, T 69, T 70, T 71, T 72, T 73, T 74, T 75, T 76, T 77, T 78, T 79, T 80, T 81, T 82, T 83] := by
  refine ⟨fun j => arr.getD j undef, ?_⟩
  have e : arr = ((List.range 84).map fun j => arr.getD j undef).toArray := by
    apply Array.ext
    · simp [h]
    · intro i h1 h2
      simp [h1]
  exact e
/-! What pure.Pure tells. -/
def ppA (st : Int → Option Bool) (n : Int) (cap : Nat) : Nat → Int → List Bool → List Int → Option (List Bool × List Int)
  | 0, _, _, _ => none
  | d + 1, i, out, buf => if i < n then (st i).bind fun s => if i < (out.length : Int) then (if s = true then (if buf.length < cap then ppA st n cap d (wrap64 (i + 1)) (out.set i.toNat false) (buf ++ [i]) else none) else ppA st n cap d (wrap64 (i + 1)) (out.set i.toNat true) buf) else none else some (out, buf)
def ppC (whom : List (List Int)) (bad : Int) (cap : Nat) : Nat → Int → List Bool → List Int → Option (List Bool × List Int)
  | 0, _, _, _ => none
  | d + 1, k, out, buf => if k < (whom.length : Int) then (if k < (out.length : Int) then (if rdOf false out k = true then (if (whom.getD k.toNat []).contains bad = true then (if buf.length < cap then ppC whom bad cap d (wrap64 (k + 1)) (out.set k.toNat false) (buf ++ [k]) else none) else ppC whom bad cap d (wrap64 (k + 1)) out buf) else ppC whom bad cap d (wrap64 (k + 1)) out buf) else none) else some (out, buf)
def ppB (whom : List (List Int)) (cap : Nat) : Nat → List Bool → List Int → Option (List Bool)
  | 0, _, _ => none
  | _ + 1, out, [] => some out
  | d + 1, out, bad :: t => (ppC whom bad cap (whom.length + 1) 0 out t).bind fun p => ppB whom cap d p.1 p.2
def ppSt (k : Nat) (ms : List S52) (i : Int) : Option Bool := pure_stores.f k (rd_T52 ms i).f0 (rd_T52 ms i).f1 (rd_T52 ms i).f2 (rd_T52 ms i).f3 (rd_T52 ms i).f4 (rd_T52 ms i).f5 (rd_T52 ms i).f6 (rd_T52 ms i).f7
def pure_Pure.f (k : Nat) (l0_0 l0_1 : List S86) (l0_2 : List S52) (a0_3 : Int) : Option (List Bool × Int) := (pure_whom.f k l0_0 l0_1 l0_2 a0_3).bind fun p => if p.2 = 0 then (if p.1.length ≤ 10000 ∧ l0_2.length ≤ 10000 ∧ p.1.all (fun l => decide (l.length ≤ 1000000)) = true then (ppA (ppSt k l0_2) l0_2.length p.1.length (l0_2.length + 1) 0 (List.replicate p.1.length false) []).bind fun q => (ppB p.1 p.1.length k q.1 q.2).bind fun o => some (o, 0) else none) else some ([], p.2)
theorem ppA_mono {st st' : Int → Option Bool} (h : ∀ i, LeO (st i) (st' i)) (n : Int) (cap : Nat) : ∀ d i out buf, LeO (ppA st n cap d i out buf) (ppA st' n cap d i out buf) := by
  intro d
  induction d with
  | zero => exact fun _ _ _ => LeO.refl _
  | succ d ih =>
    intro i out buf
    unfold ppA
    split
    · refine LeO.bind (h i) fun s => ?_
      split
      · split
        · split
          · exact ih _ _ _
          · exact LeO.refl _
        · exact ih _ _ _
      · exact LeO.refl _
    · exact LeO.refl _
theorem ppB_mono (whom : List (List Int)) (cap : Nat) : ∀ d out buf, LeO (ppB whom cap d out buf) (ppB whom cap (d + 1) out buf) := by
  intro d
  induction d with
  | zero => intro out buf r h; simp [ppB] at h
  | succ d ih =>
    intro out buf
    cases buf with
    | nil => exact LeO.refl _
    | cons b t => exact LeO.bind (LeO.refl _) fun p => ih _ _
theorem pure_Pure.mono : ∀ a0 a1 a2 a3 k, LeO (pure_Pure.f k a0 a1 a2 a3) (pure_Pure.f (k + 1) a0 a1 a2 a3) := by
  intro a0 a1 a2 a3 k
  unfold pure_Pure.f
  refine LeO.bind (pure_whom.mono _ _ _ _ _) fun p => ?_
  split
  · split
    · refine LeO.bind (ppA_mono (fun i => pure_stores.mono _ _ _ _ _ _ _ _ _) _ _ _ _ _ _) fun q => LeO.bind (ppB_mono _ _ _ _ _) fun _ => LeO.refl _
    · exact LeO.refl _
  · exact LeO.refl _
section
variable {P : Program} {Q : Exit → Act → World → Prop} {a : Act} {w : World}
theorem kwp_seq_wp {x y : Code} (h : ∀ K : Act → World → Prop, (∀ a w, KWp P y Q a w → K a w) → x.wp P (Exit.then K Q) a w) : KWp P (Code.seq x y) Q a w := kwp_seq (kwp_of_wp (h _ fun _ _ h => h))
theorem kwp_seq_k {x y : Code} (h : ∀ K : Act → World → Prop, (∀ a w, KWp P y Q a w → K a w) → KWp P x (Exit.then K Q) a w) : KWp P (Code.seq x y) Q a w := kwp_seq (h _ fun _ _ h => h)
theorem kwp_last {x : Code} {N : Act → World → Prop} (h : ∀ K : Act → World → Prop, (∀ a w, N a w → K a w) → x.wp P (Exit.then K Q) a w) : KWp P x (Exit.then N Q) a w := kwp_of_wp (h _ fun _ _ h => h)
theorem kwp_last3 {id : Nat} {x : Code} {N : Act → World → Prop} (h : ∀ K : Act → World → Prop, (∀ a w, N a w → K a w) → x.wp P (Exit.inBlock id (Exit.then K Q)) a w) : KWp P x (Exit.inBlock id (Exit.then N Q)) a w := kwp_of_wp (h _ fun _ _ h => h)
/-- The channel's block, and a row of one's own. -/
theorem grown_setChan (w : World) (c cap : Nat) (buf : Array Value) (cl : Bool) (s r : Nat) (tm : Bool) : w.grownBy (w.setChan c cap buf cl s r tm) (some c) := by
  refine ⟨rfl, rfl, rfl, Nat.le_of_eq (size_setChan w c cap buf cl s r tm).symm, fun k _ hk => ?_⟩; simp only [World.setChan]; rw [Array.getElem?_setIfInBounds_ne]; rintro rfl; exact hk rfl
theorem R_chan {α : Type} {d : Kd α} {e base : Nat} {ok : Nat → Prop} {v : Value} {xs : List α} {c cap s r : Nat} {buf : Array Value} {cl tm : Bool} (h : d.R e w base ok v xs) (hc : w.heap[c]? = some (.chan cap buf cl s r tm)) (cap' : Nat) (buf' : Array Value) (cl' : Bool) (s' r' : Nat) (tm' : Bool) :
    d.R e (w.setChan c cap' buf' cl' s' r' tm') base ok v xs :=
  Kd.R_mono (Kd.R_move (Kd.R_bound h) fun k hk => by
    obtain ⟨_, _, hlt, q, _, cells, hk⟩ := hk
    refine (grown_setChan w c cap' buf' cl' s' r' tm').block k hlt fun e => ?_
    injection e with e
    subst e; rw [hc] at hk
    cases hk) fun k hk => hk.1
theorem chan_kept {α : Type} {d : Kd α} {e base g n c2 : Nat} {ok : Nat → Prop} {xs : List α} {c cap s r : Nat} {buf : Array Value} {cl tm : Bool} {W : World} (h : d.R e w base ok (.slice (some ⟨g, 0, none⟩) n c2) xs) (hc : w.heap[c]? = some (.chan cap buf cl s r tm)) (hg : w.grownBy W (some g)) : W.heap[c]? = some (.chan cap buf cl s r tm) := by
  have hlt : c < w.heap.size := by
    rcases Nat.lt_or_ge c w.heap.size with h1 | h1
    · exact h1
    · rw [Array.getElem?_eq_none h1] at hc; cases hc
  refine (hg.block c hlt fun e => ?_).trans hc
  injection e with e
  subst e; obtain ⟨_, _, _, q, _, cells, hk⟩ := (Kd.R_bound h).1 c rfl; rw [hc] at hk; cases hk
end
/-- What holds of the two things that are made: the row of truths, and the channel. -/
structure PP (w1 W : World) (N : Nat) (v6 : Value) (gc : Nat) (out : List Bool) (buf : List Int) (closed : Bool) : Prop where
  hb : Below w1.heap.size w1 W
  row : Kd.R Kd.bool 4 W w1.heap.size (fun _ => True) v6 out
  chan : ∃ s r, W.heap[gc]? = some (.chan N (buf.map (Value.int .i64)).toArray closed s r false)
  low : w1.heap.size ≤ gc
theorem PP.alloc {w1 W : World} {N : Nat} {v6 : Value} {gc : Nat} {out : List Bool} {buf : List Int} {closed : Bool} (h : PP w1 W N v6 gc out buf closed) {W' : World} (hb : Below W.heap.size W W') : PP w1 W' N v6 gc out buf closed := by
  obtain ⟨s, r, hc⟩ := h.chan
  have hlt : gc < W.heap.size := by
    rcases Nat.lt_or_ge gc W.heap.size with h1 | h1
    · exact h1
    · rw [Array.getElem?_eq_none h1] at hc; cases hc
  exact ⟨h.hb.trans (hb.mono h.hb.size), Kd.R_below h.row hb, ⟨s, r, (hb.block gc hlt).trans hc⟩, h.low⟩
theorem PP.send {w1 W : World} {N : Nat} {v6 : Value} {gc : Nat} {out : List Bool} {buf : List Int} {closed : Bool} (h : PP w1 W N v6 gc out buf closed) {s r : Nat} {b0 : Array Value} {c0 : Bool} {n0 : Nat} (hc : W.heap[gc]? = some (.chan n0 b0 c0 s r false)) (buf' : List Int) (closed' : Bool) (s' r' : Nat) :
    PP w1 (W.setChan gc N (buf'.map (Value.int .i64)).toArray closed' s' r' false) N v6 gc out buf' closed' := by
  have hlt : gc < W.heap.size := by
    rcases Nat.lt_or_ge gc W.heap.size with h1 | h1
    · exact h1
    · rw [Array.getElem?_eq_none h1] at hc; cases hc
  exact ⟨below_setChan h.hb h.low _ _ _ _ _ _, R_chan h.row hc _ _ _ _ _ _, ⟨s', r', heap_setChan W gc N _ closed' s' r' false hlt⟩, h.low⟩
theorem PP.put {w1 W : World} {N g n cap : Nat} {gc : Nat} {out : List Bool} {buf : List Int} {closed : Bool} (h : PP w1 W N (.slice (some ⟨g, 0, none⟩) n cap) gc out buf closed) (hg : w1.heap.size ≤ g) (i : Int) (b : Bool) :
    PP w1 (W.setCell ⟨g, i.toNat, none⟩ (.bool b)) N (.slice (some ⟨g, 0, none⟩) n cap) gc (out.set i.toNat b) buf closed := by
  obtain ⟨h1, h2⟩ := Kd.R_putg h.row i b; obtain ⟨s, r, hc⟩ := h.chan; exact ⟨h.hb.setCell hg _, h1, ⟨s, r, chan_kept h.row hc h2⟩, h.low⟩
theorem pp_info : (Try.prog.info? 4).map (fun i => (i.zero, i.size, i.bytes)) = some (some (.bool false), 1, 1) := by kernel_rfl
/-- .. and where they lie. -/
structure PPI (w1 : World) (N : Nat) (v4 v6 : Value) (gc : Nat) (out : List Bool) (buf : List Int) (closed : Bool) (fix : List (Nat × Value)) (a : Act) (W : World) : Prop where
  d : a.defers = []
  sz : a.tmps.size = 84
  t4 : a.tmps[4]? = some v4
  t6 : a.tmps[6]? = some v6
  t7 : a.tmps[7]? = some (.chan (some gc))
  fx : ∀ p ∈ fix, a.tmps[p.1]? = some p.2
  pp : PP w1 W N v6 gc out buf closed
section
variable {P : Program} {Q : Exit → Act → World → Prop} {a : Act} {w : World}
theorem kwp_cut {x y : Code} (I : Act → World → Prop) (h1 : KWp P x (Exit.then I Q) a w) (h2 : ∀ a w, I a w → KWp P y Q a w) : KWp P (Code.seq x y) Q a w :=
  kwp_seq (kwp_mono h1 fun e a w hq => by cases e <;> first | exact h2 _ _ hq | exact hq)
end
theorem pp_zero (w : World) : (zeroValue 3).run Try.prog w = .ok (.int .i64 0) w := by kernel_rfl
theorem mk_chan (n : Nat) (hn : n ≤ 10000) (w : World) : (Instr.makeChan 78 (.int .i64 n)).run Try.prog w = .ok (.chan (some w.heap.size)) (w.alloc (.chan n #[] false 0 0 false)) := by
  obtain ⟨i, hi, he⟩ := Option.map_eq_some_iff.1 info3; simp only [Prod.mk.injEq] at he; exact run_makeChan Try.underlying78 hi .i64 n (by omega) (by rw [he.2.2]; omega)
set_option maxHeartbeats 8000000 in
set_option maxRecDepth 100000 in
theorem pure_Pure.calls (k : Nat) (A0_0 : Option Addr) (c0_0 : Nat) (l0_0 : List (S86)) (A0_1 : Option Addr) (c0_1 : Nat) (l0_1 : List (S86)) (A0_2 : Option Addr) (c0_2 : Nat) (l0_2 : List (S52)) (a0_3 : Int) (r1 : List Bool) (r2 : Int) (w : World) (hr0_0 : Kd.C k86 w A0_0 l0_0.length l0_0) (hc0_0 : l0_0.length ≤ c0_0) (hr0_1 : Kd.C k86 w A0_1 l0_1.length l0_1) (hc0_1 : l0_1.length ≤ c0_1) (hr0_2 : Kd.C k52 w A0_2 l0_2.length l0_2) (hc0_2 : l0_2.length ≤ c0_2) (h : pure_Pure.f k l0_0 l0_1 l0_2 a0_3 = some (r1, r2)) :
    Calls Try.prog 17 #[.agg #[.slice A0_0 l0_0.length c0_0, .slice A0_1 l0_1.length c0_1, .slice A0_2 l0_2.length c0_2, .int .i64 a0_3]] w fun e w' => ∃ v0_ : Value, e = .returned (.tuple #[v0_, .int .i64 r2]) ∧ Kd.R Kd.bool 4 w' w.heap.size (fun _ => True) v0_ r1 ∧ Below w.heap.size w w' := by
  have HR0 := Aside0.mk hr0_0; have HR1 := Aside0.mk hr0_1; have HR2 := Aside0.mk hr0_2; have HC0 := Aside0.mk hc0_0; have HC1 := Aside0.mk hc0_1; have HC2 := Aside0.mk hc0_2; clear hr0_0 hr0_1 hr0_2 hc0_0 hc0_1 hc0_2
  unfold pure_Pure.f at h
  obtain ⟨⟨whom, e0⟩, hall, h⟩ := Option.bind_eq_some_iff.mp h; have HA := Aside0.mk hall; clear hall
  dsimp only at h
  by_cases he : e0 = 0
  · subst he
    rw [if_pos rfl] at h
    by_cases hb : whom.length ≤ 10000 ∧ l0_2.length ≤ 10000 ∧ whom.all (fun l => decide (l.length ≤ 1000000)) = true
    case neg => rw [if_neg hb] at h; cases h
    rw [if_pos hb] at h
    obtain ⟨hb1, hb3, hb2⟩ := hb; obtain ⟨⟨out1, buf1⟩, hppA, h⟩ := Option.bind_eq_some_iff.mp h; obtain ⟨oo, hppB, h⟩ := Option.bind_eq_some_iff.mp h; obtain ⟨rfl, rfl⟩ := (by simpa using h : oo = r1 ∧ 0 = r2); dsimp only at hppB; have HPA := Aside0.mk hppA; have HPB := Aside0.mk hppB; have HB2 := Aside0.mk hb2; clear h hb2 hppA hppB; refine calls_of_kwp Try.func17 rfl ?_; simp only [Try.ntmps17, List.size_toArray, List.length_cons, List.length_nil, Nat.reduceAdd, Nat.reduceSub, Array.replicate_succ, Array.replicate_zero, List.push_toArray, List.append_toArray, List.nil_append, List.cons_append]; have hmk := mk_chan whom.length hb1
    refine kwp_seq_wp fun K hK => ?_
    go_wp2
    refine kwp_seq_wp fun K hK => ?_
    go_wp2_with (first | (go_at_call 43; (refine (pure_whom.calls k A0_0 c0_0 l0_0 A0_1 c0_1 l0_1 A0_2 c0_2 l0_2 a0_3 whom 0 _ (Kd.C_alloc HR0.out _) HC0.out (Kd.C_alloc HR1.out _) HC1.out (Kd.C_alloc HR2.out _) HC2.out HA.out).mono ?_); rintro e w1 ⟨v1, rfl, hS1, hb1'⟩; have S1 := Aside0.mk hS1; have BKm := Aside0.mk ((hb1'.block w.heap.size (by simp)).trans (blk_new _ _) : w1.heap[w.heap.size]? = some (.cells #[.slice A0_0 l0_0.length c0_0, .slice A0_1 l0_1.length c0_1, .slice A0_2 l0_2.length c0_2, .int .i64 a0_3] 25 (0, 0))); have B1 := Aside0.mk (((Below.refl w.heap.size w).alloc (Nat.le_refl _) (.cells #[.slice A0_0 l0_0.length c0_0, .slice A0_1 l0_1.length c0_1, .slice A0_2 l0_2.length c0_2, .int .i64 a0_3] 25)).trans (hb1'.mono (by simp))); obtain ⟨Aw, cw, rfl⟩ := Kd.R_slice (Kd.S_R hS1); clear hS1 hb1'))
    refine kwp_seq_wp fun K hK => ?_
    go_wp2
    refine kwp_seq_wp fun K hK => ?_
    go_wp2_with (first | ((with_reducible refine gate_dst (N := 23) rfl ?_); refine Kd.R_make Kd.bool _ 4 rfl (N := 23) rfl 30 _ _ rfl (whom.length : Int) rfl rfl Try.underlying30 (.bool false) 1 pp_info rfl (by decide) (by omega) false (ok := fun _ => True) (okp := fun _ => True) rfl (fun _ hk => hk) trivial (by omega) (by omega) (Below.refl _ _) (Nat.le_refl _) ?_; intro v6 w2 hR6 hB2 hg_ hnew_; clear hg_ hnew_; rw [Int.toNat_natCast] at hR6))
    refine kwp_seq_wp fun K hK => ?_
    go_wp2; have PP0 : PP w1 (w2.alloc (.chan whom.length #[] false 0 0 false)) whom.length v6 w2.heap.size (List.replicate whom.length false) [] false := ⟨hB2.alloc hB2.size _, Kd.R_alloc hR6 _, ⟨0, 0, heap_alloc_new _ _⟩, hB2.size⟩
    generalize w2.alloc (.chan whom.length #[] false 0 0 false) = W0 at *
    generalize w2.heap.size = gc at *
    clear hmk hB2 hR6 w2; have hm2 := blk_cell (blk_below BKm.out PP0.hb) 2
    refine kwp_seq_k fun K hK => ?_
    refine kwp_seq_wp fun K2 hK2 => ?_
    go_wp2; refine kwp_block ?_; refine kwp_loop (fun n a W => ∃ (i : Nat) (out : List Bool) (buf : List Int), n + i = l0_2.length ∧ Aside0 (ppA (ppSt k l0_2) l0_2.length whom.length (n + 1) (i : Int) out buf = some (out1, buf1)) ∧ Aside0 (PP w1 W whom.length v6 gc out buf false) ∧ a.defers = [] ∧ a.tmps.size = 84 ∧ a.tmps[4]? = some (.slice Aw whom.length cw) ∧ a.tmps[6]? = some (v6) ∧ a.tmps[7]? = some (.chan (some gc)) ∧ a.tmps[28]? = some (.slice A0_2 l0_2.length c0_2) ∧ a.tmps[29]? = some (.int .i64 (l0_2.length : Int)) ∧ a.tmps[30]? = some (.int .i64 (i : Int))) (n := l0_2.length) ⟨0, _, [], rfl, HPA, ⟨PP0⟩, rfl, rfl, rfl, rfl, rfl, rfl, rfl, rfl⟩ ?_; clear PP0 hm2; rintro n ⟨tm, df⟩ W ⟨i, out, buf, hni, HP, HPP, hdf, hsz, h4, h6, h7, h28, h29, h30⟩; dsimp only at hdf hsz h4 h6 h7 h28 h29 h30; subst hdf; obtain ⟨T, rfl⟩ := lit84 tm hsz; replace h4 : T 4 = _ := Option.some.inj h4; replace h6 : T 6 = _ := Option.some.inj h6; replace h7 : T 7 = _ := Option.some.inj h7; replace h28 : T 28 = _ := Option.some.inj h28; replace h29 : T 29 = _ := Option.some.inj h29; replace h30 : T 30 = _ := Option.some.inj h30; rw [h4, h6, h7, h28, h29, h30]; clear h4 h6 h7 h28 h29 h30 hsz; have hw : IntKind.i64.wrap ((i : Int) + 1) = ((i + 1 : Nat) : Int) := (i64_w _).trans (by unfold wrap64; omega)
    have hw2 : wrap64 ((i : Int) + 1) = ((i + 1 : Nat) : Int) := by unfold wrap64; omega
    have BW := B1.out.trans (HPP.out.hb.mono B1.out.size)
    by_cases hlt : i < l0_2.length
    · obtain ⟨n, rfl⟩ : ∃ m, n = m + 1 := ⟨n - 1, by omega⟩
      have hp := HP.out; rw [ppA, if_pos (by omega)] at hp; obtain ⟨s, hs, hp⟩ := Option.bind_eq_some_iff.mp hp; have HS := Aside0.mk hs; clear hs
      by_cases ho : (i : Int) < (out.length : Int)
      case neg => rw [if_neg ho] at hp; cases hp
      rw [if_pos ho, hw2] at hp; have HP2 := Aside0.mk hp; clear hp HP; obtain ⟨g, cap, rfl, hg, _, _⟩ := Kd.R_form HPP.out.row (by omega)
      have p0 : 0 ≤ (i : Int) := by omega
      have q0 : (i : Int) < (l0_2.length : Int) := by omega
      obtain ⟨adm, A0', c0', A1', c1', A7', c7', em, hx0, hx1, hx2, hx3, hx4, hx5, hx6, hx7, hl0, hi0, hl1, hi1, hl7, hi7⟩ := at_T52 HR2.out (i : Int) p0 q0; cases em; replace hx0 := (BW.cell (World.block_lt_of_cell? w _ hx0)).trans hx0; replace hx1 := (BW.cell (World.block_lt_of_cell? w _ hx1)).trans hx1; replace hx2 := (BW.cell (World.block_lt_of_cell? w _ hx2)).trans hx2; replace hx3 := (BW.cell (World.block_lt_of_cell? w _ hx3)).trans hx3; replace hx4 := (BW.cell (World.block_lt_of_cell? w _ hx4)).trans hx4; replace hx5 := (BW.cell (World.block_lt_of_cell? w _ hx5)).trans hx5; replace hx6 := (BW.cell (World.block_lt_of_cell? w _ hx6)).trans hx6; replace hx7 := (BW.cell (World.block_lt_of_cell? w _ hx7)).trans hx7; simp only [Int.toNat_natCast] at hx0 hx1 hx2 hx3 hx4 hx5 hx6 hx7; have HI0 := Aside0.mk hi0; have HI1 := Aside0.mk hi1; have HI7 := Aside0.mk hi7; clear hi0 hi1 hi7; have hd : decide ((i : Int) < (l0_2.length : Int)) = true := decide_eq_true q0; have hge : w.heap.size ≤ W.heap.size := BW.size; replace p0 := eq_true p0; replace q0 := eq_true q0; have o0 := eq_true ho
      refine kwp_seq_wp fun K hK => ?_
      go_wp2
      refine kwp_seq_wp fun K hK => ?_
      go_wp2
      refine kwp_seq_k fun K hK => ?_
      refine kwp_block ?_
      refine kwp_seq_wp fun K hK => ?_
      go_wp2_with (first | ((with_reducible refine gate_dst (N := 9) rfl ?_); refine box_event ?hg (N := 9) ?hd (cs := #[.slice none 0 0, .slice none 0 0, .int .u8 0, .bool false, .int .i64 0, .int .i64 0, .int .i64 0, .slice none 0 0]) (t := 52) ?hr ?_; (case hd => rfl); (case hg => rfl); (case hr => first | (go_simp; done) | (go_simp; rfl)); intro gb hgb w21 hbox hbx; have hgl : W.heap.size ≤ gb := Nat.le_of_eq hgb.symm; clear hgb; have hcz0 : w21.cell? ⟨gb, 0, none⟩ = some (.slice none 0 0) := (blk_cell hbox 0).trans rfl; have hfz0 := blk_frozen hbox 0; have hcz1 : w21.cell? ⟨gb, 1, none⟩ = some (.slice none 0 0) := (blk_cell hbox 1).trans rfl; have hfz1 := blk_frozen hbox 1; have hcz2 : w21.cell? ⟨gb, 2, none⟩ = some (.int .u8 0) := (blk_cell hbox 2).trans rfl; have hfz2 := blk_frozen hbox 2; have hcz3 : w21.cell? ⟨gb, 3, none⟩ = some (.bool false) := (blk_cell hbox 3).trans rfl; have hfz3 := blk_frozen hbox 3; have hcz4 : w21.cell? ⟨gb, 4, none⟩ = some (.int .i64 0) := (blk_cell hbox 4).trans rfl; have hfz4 := blk_frozen hbox 4; have hcz5 : w21.cell? ⟨gb, 5, none⟩ = some (.int .i64 0) := (blk_cell hbox 5).trans rfl; have hfz5 := blk_frozen hbox 5; have hcz6 : w21.cell? ⟨gb, 6, none⟩ = some (.int .i64 0) := (blk_cell hbox 6).trans rfl; have hfz6 := blk_frozen hbox 6; have hcz7 : w21.cell? ⟨gb, 7, none⟩ = some (.slice none 0 0) := (blk_cell hbox 7).trans rfl; have hfz7 := blk_frozen hbox 7))
      have B8 := Aside0.mk ((((((((hbx.setCell (p := ⟨gb, 0, none⟩) hgl (.slice A0' (rd_T52 l0_2 (i : Int)).f0.length c0')).setCell (p := ⟨gb, 1, none⟩) hgl (.slice A1' (rd_T52 l0_2 (i : Int)).f1.length c1')).setCell (p := ⟨gb, 2, none⟩) hgl (.int .u8 (rd_T52 l0_2 (i : Int)).f2)).setCell (p := ⟨gb, 3, none⟩) hgl (.bool (rd_T52 l0_2 (i : Int)).f3)).setCell (p := ⟨gb, 4, none⟩) hgl (.int .i64 (rd_T52 l0_2 (i : Int)).f4)).setCell (p := ⟨gb, 5, none⟩) hgl (.int .i64 (rd_T52 l0_2 (i : Int)).f5)).setCell (p := ⟨gb, 6, none⟩) hgl (.int .i64 (rd_T52 l0_2 (i : Int)).f6)).setCell (p := ⟨gb, 7, none⟩) hgl (.slice A7' (rd_T52 l0_2 (i : Int)).f7.length c7'))
      refine kwp_seq_wp fun K hK => ?_
      go_wp2_with (first | (go_at_call 42; (refine (pure_stores.calls k A0' c0' (rd_T52 l0_2 (i : Int)).f0 A1' c1' (rd_T52 l0_2 (i : Int)).f1 (rd_T52 l0_2 (i : Int)).f2 (rd_T52 l0_2 (i : Int)).f3 (rd_T52 l0_2 (i : Int)).f4 (rd_T52 l0_2 (i : Int)).f5 (rd_T52 l0_2 (i : Int)).f6 A7' c7' (rd_T52 l0_2 (i : Int)).f7 s _ (Kd.C_below HI0.out (BW.trans (B8.out.mono BW.size))) hl0 (Kd.C_below HI1.out (BW.trans (B8.out.mono BW.size))) hl1 (Kd.C_below HI7.out (BW.trans (B8.out.mono BW.size))) hl7 HS.out).mono ?_); rintro e w24 ⟨rfl, hb24⟩; have B9 := B8.out.trans (hb24.mono B8.out.size); have P9 := Aside0.mk (PP.alloc HPP.out B9); obtain ⟨hx9, hf9⟩ := Kd.R_celln false P9.out.row (i : Int) (by omega) ho; simp only [Int.toNat_natCast] at hx9 hf9))
      have P10 := PP.put P9.out hg (i : Int) (!s); simp only [Int.toNat_natCast] at P10; have hp := HP2.out; clear HP2
      cases s with
      | true =>
        simp only [Bool.not_true] at P10; rw [if_pos rfl] at hp
        by_cases hroom : buf.length < whom.length
        case neg => rw [if_neg hroom] at hp; cases hp
        rw [if_pos hroom, Int.toNat_natCast] at hp; have HP3 := Aside0.mk hp; clear hp; have P11 := Aside0.mk P10; clear P10
        refine kwp_seq_wp fun K3 hK3 => ?_
        go_wp2; refine kwp_cond (t := true) rfl (fun _ => ?_) (fun h => by cases h); obtain ⟨sn, rn, hc⟩ := P11.out.chan; refine kwp_send (v := .int .i64 (i : Int)) rfl rfl rfl rfl rfl rfl rfl rfl rfl rfl rfl hc (by simpa using hroom) (by simp) (by simp) (by decide) ?_; simp only [Act.put, List.setIfInBounds_toArray, List.set_cons_zero, List.set_cons_succ]; rw [show (buf.map (Value.int .i64)).toArray.push (.int .i64 (i : Int)) = ((buf ++ [(i : Int)]).map (Value.int .i64)).toArray by simp]; intro W12 hW12; have P12 := Aside0.mk (PP.send P11.out hc (buf ++ [(i : Int)]) false (sn + 1) rn); rw [← hW12] at P12; clear hW12 hc P11; show K _ _; refine hK _ _ ?_
        refine kwp_last fun K4 hK4 => ?_
        go_wp2; exact ⟨n, by omega, i + 1, by omega, out.set i false, buf ++ [(i : Int)], HP3, P12, by first | rfl | simp⟩
      | false =>
        simp only [Bool.not_false] at P10; rw [if_neg (by decide), Int.toNat_natCast] at hp; have HP3 := Aside0.mk hp; clear hp; have P11 := Aside0.mk P10; clear P10
        refine kwp_seq_wp fun K3 hK3 => ?_
        go_wp2; refine kwp_cond (t := false) rfl (fun h => by cases h) (fun _ => ?_); refine kwp_skip ?_; show K _ _; refine hK _ _ ?_
        refine kwp_last fun K4 hK4 => ?_
        go_wp2; exact ⟨n, by omega, i + 1, by omega, out.set i true, buf, HP3, P11, by first | rfl | simp⟩
    · obtain rfl : i = l0_2.length := by omega
      obtain rfl : n = 0 := by omega
      have hp := HP.out; rw [ppA, if_neg (by omega)] at hp; obtain ⟨rfl, rfl⟩ := (by simpa using hp : out = out1 ∧ buf = buf1); clear hp HP; have hd : decide ((l0_2.length : Int) < (l0_2.length : Int)) = false := decide_eq_false (by omega)
      refine kwp_seq_wp fun K hK2 => ?_
      go_wp2
      refine kwp_seq_wp fun K hK2 => ?_
      go_wp2; clear hd hw hw2 BW; obtain ⟨sn, rn, hc⟩ := HPP.out.chan; refine kwp_cut (PPI w1 whom.length (.slice Aw whom.length cw) v6 gc out buf buf.isEmpty []) ?_ ?_
      · have hlen := fun ty => run_len_chan (P := Try.prog) 78 ty Try.underlying78 hc
        have hcl := fun ats ty => run_close_open (P := Try.prog) (w := W) ats ty hc
        refine kwp_last fun K4 hK4 => ?_
        cases buf with
        | nil =>
          have P2 := PP.send HPP.out hc [] true sn rn; go_wp2; exact ⟨rfl, rfl, rfl, rfl, rfl, by simp, P2⟩
        | cons bad tl =>
          have hne : ((((bad :: tl).map (Value.int .i64)).toArray.size : Int) == 0) = false := by simp; omega
          go_wp2; exact ⟨rfl, rfl, rfl, rfl, rfl, by simp, HPP.out⟩
      · clear HPP hc
        intro a W3 HI; obtain ⟨tm, df⟩ := a; obtain rfl : df = [] := HI.d; obtain ⟨T, rfl⟩ := lit84 tm HI.sz; have h4 : T 4 = _ := Option.some.inj HI.t4; have h6 : T 6 = _ := Option.some.inj HI.t6; have h7 : T 7 = _ := Option.some.inj HI.t7; rw [h4, h6, h7]; have HPP := Aside0.mk HI.pp; clear HI h4 h6 h7; refine kwp_cut (PPI w1 whom.length (.slice Aw whom.length cw) v6 gc oo [] true []) ?_ ?_
        · refine kwp_seq_wp fun K5 hK5 => ?_
          go_wp2; refine kwp_block ?_; refine kwp_loop (fun n a W => ∃ (out : List Bool) (buf : List Int), Aside0 (ppB whom whom.length n out buf = some oo) ∧ PPI w1 whom.length (.slice Aw whom.length cw) v6 gc out buf buf.isEmpty [(53, .chan (some gc))] a W) (n := k) ⟨out, buf, HPB, ⟨rfl, rfl, rfl, rfl, rfl, by simp, HPP.out⟩⟩ ?_; clear HPP HPB; rintro n a W ⟨out, buf, HB, HI⟩; obtain ⟨tm, df⟩ := a; obtain rfl : df = [] := HI.d; obtain ⟨T, rfl⟩ := lit84 tm HI.sz; have h4 : T 4 = _ := Option.some.inj HI.t4; have h6 : T 6 = _ := Option.some.inj HI.t6; have h7 : T 7 = _ := Option.some.inj HI.t7; have h53 : T 53 = _ := Option.some.inj (HI.fx (53, .chan (some gc)) (by simp)); rw [h4, h6, h7, h53]; have HPP := Aside0.mk HI.pp; clear HI h4 h6 h7 h53; have hz := pp_zero; have huc := Try.underlying78
          cases n with
          | zero => exact absurd HB.out (by simp [ppB])
          | succ d =>
          cases buf with
          | nil =>
            obtain rfl : out = oo := by simpa [ppB] using HB.out
            obtain ⟨sn, rn, hc0⟩ := HPP.out.chan; have hc : W.heap[gc]? = some (.chan whom.length #[] true sn rn false) := hc0; clear hc0
            refine kwp_seq_k fun K hK => ?_
            refine kwp_recv_end (z := .int .i64 0) rfl rfl (by simp [go_sem, rcase, hz, huc]) rfl rfl rfl hc (by simp) ?_; simp only [Act.put, List.setIfInBounds_toArray, List.set_cons_zero, List.set_cons_succ]; show K _ _; refine hK _ _ ?_; clear hK K
            refine kwp_seq_wp fun K hK => ?_
            go_wp2; exact ⟨rfl, rfl, rfl, rfl, rfl, by simp, HPP.out⟩
          | cons bad tl =>
            obtain ⟨⟨out2, buf2⟩, hC, hB2⟩ := Option.bind_eq_some_iff.mp HB.out; dsimp only at hB2; have HC' := Aside0.mk hC; have HB' := Aside0.mk hB2; clear hC hB2 HB; obtain ⟨sn, rn, hc0⟩ := HPP.out.chan; have hc : W.heap[gc]? = some (.chan whom.length ((bad :: tl).map (Value.int .i64)).toArray false sn rn false) := hc0; clear hc0
            refine kwp_seq_k fun K hK => ?_
            refine kwp_recv (v := .int .i64 bad) (z := .int .i64 0) rfl rfl (by simp [go_sem, rcase, hz, huc]) rfl rfl rfl hc (by simp) (by simp) (by simp) ?_; simp only [Act.put, List.setIfInBounds_toArray, List.set_cons_zero, List.set_cons_succ]; rw [show ((bad :: tl).map (Value.int .i64)).toArray.extract 1 ((bad :: tl).map (Value.int .i64)).toArray.size = (tl.map (Value.int .i64)).toArray by simp; exact List.take_of_length_le (by simp)]; intro W2 hW2; have P2 := Aside0.mk (PP.send HPP.out hc tl false sn (rn + 1)); rw [← hW2] at P2; clear hW2 hc HPP; show K _ _; refine hK _ _ ?_; clear hK K
            refine kwp_seq_wp fun K hK => ?_
            go_wp2; refine kwp_block ?_
            refine kwp_seq_wp fun K hK => ?_
            go_wp2; refine kwp_cut (PPI w1 whom.length (.slice Aw whom.length cw) v6 gc out2 buf2 false [(53, .chan (some gc))]) ?_ ?_
            · refine kwp_seq_wp fun K hK => ?_
              go_wp2; refine kwp_block ?_; refine kwp_loop (fun n a W => ∃ (kk : Nat) (out : List Bool) (buf : List Int), n + kk = whom.length ∧ Aside0 (ppC whom bad whom.length (n + 1) (kk : Int) out buf = some (out2, buf2)) ∧ PPI w1 whom.length (.slice Aw whom.length cw) v6 gc out buf false [(10, .int .i64 bad), (53, .chan (some gc)), (57, .slice Aw whom.length cw), (58, .int .i64 (whom.length : Int)), (59, .int .i64 (kk : Int))] a W) (n := whom.length) ⟨0, out, tl, rfl, HC', ⟨rfl, rfl, rfl, rfl, rfl, by simp, P2.out⟩⟩ ?_; clear P2 HC'; rintro n a W ⟨kk, out, buf, hnk, HC2, HI⟩; obtain ⟨tm, df⟩ := a; obtain rfl : df = [] := HI.d; obtain ⟨T, rfl⟩ := lit84 tm HI.sz; have h4 : T 4 = _ := Option.some.inj HI.t4; have h6 : T 6 = _ := Option.some.inj HI.t6; have h7 : T 7 = _ := Option.some.inj HI.t7; have h10 : T 10 = _ := Option.some.inj (HI.fx (10, .int .i64 bad) (by simp)); have h53 : T 53 = _ := Option.some.inj (HI.fx (53, .chan (some gc)) (by simp)); have h57 : T 57 = _ := Option.some.inj (HI.fx (57, .slice Aw whom.length cw) (by simp)); have h58 : T 58 = _ := Option.some.inj (HI.fx (58, .int .i64 (whom.length : Int)) (by simp)); have h59 : T 59 = _ := Option.some.inj (HI.fx (59, .int .i64 (kk : Int)) (by simp)); rw [h4, h6, h7, h10, h53, h57, h58, h59]; have HPP := Aside0.mk HI.pp; clear HI h4 h6 h7 h10 h53 h57 h58 h59; have hw : IntKind.i64.wrap ((kk : Int) + 1) = ((kk + 1 : Nat) : Int) := (i64_w _).trans (by unfold wrap64; omega)
              have hw2 : wrap64 ((kk : Int) + 1) = ((kk + 1 : Nat) : Int) := by unfold wrap64; omega
              by_cases hlt : kk < whom.length
              · obtain ⟨m, rfl⟩ : ∃ m, n = m + 1 := ⟨n - 1, by omega⟩
                have hp := HC2.out; rw [ppC, if_pos (by omega)] at hp
                by_cases ho : (kk : Int) < (out.length : Int)
                case neg => rw [if_neg ho] at hp; cases hp
                rw [if_pos ho, hw2, Int.toNat_natCast] at hp; have HP2 := Aside0.mk hp; clear hp HC2; obtain ⟨A1, c1, e1, hl1, hC1⟩ := Kd.R_reads (Kd.S_R S1.out); cases e1; obtain ⟨adx, Ai, ci, hAd, px, hci, hCi⟩ := pp_at_rows (Kd.C_below hC1 HPP.out.hb) (kk : Int) (by omega) (by omega); subst hAd; simp only [Int.toNat_natCast] at px hci hCi
                have hwl : (whom.getD kk []).length ≤ 1000000 := by
                  have := List.all_eq_true.1 HB2.out (whom.getD kk []) (by rw [List.getD_eq_getElem?_getD, List.getElem?_eq_getElem hlt]; exact List.getElem_mem hlt)
                  simpa using this
                obtain ⟨g, cap, rfl, hg, _, _⟩ := Kd.R_form HPP.out.row (by omega); obtain ⟨hx9, hf9⟩ := Kd.R_celln false HPP.out.row (kk : Int) (by omega) ho; simp only [Int.toNat_natCast] at hx9 hf9; have HCI := Aside0.mk hCi; clear hCi hC1
                generalize whom.getD kk [] = lx at *
                have q0 : ((kk : Int) < (whom.length : Int)) = True := eq_true (by omega); have p0 : (0 ≤ (kk : Int)) = True := eq_true (by omega); have o0 := eq_true ho; have hd : decide ((kk : Int) < (whom.length : Int)) = true := decide_eq_true (by omega)
                refine kwp_seq_wp fun K hK => ?_
                go_wp2
                refine kwp_seq_wp fun K hK => ?_
                go_wp2
                refine kwp_seq_k fun K hK => ?_
                refine kwp_block ?_
                refine kwp_seq_wp fun K6 hK6 => ?_
                go_wp2
                cases hbb : rdOf false out (kk : Int) with
                | false =>
                  rw [hbb] at hx9; have hp := HP2.out; clear HP2; rw [hbb, if_neg (by decide)] at hp; have HP3 := Aside0.mk hp; clear hp
                  refine kwp_seq_wp fun K6 hK6 => ?_
                  go_wp2; refine kwp_cond (t := false) rfl (fun h => by cases h) (fun _ => ?_); refine kwp_skip ?_; show K _ _; refine hK _ _ ?_
                  refine kwp_last fun K4 hK4 => ?_
                  go_wp2; exact ⟨m, by omega, kk + 1, by omega, out, buf, HP3, ⟨rfl, rfl, rfl, rfl, rfl, by simp, HPP.out⟩⟩
                | true =>
                  rw [hbb] at hx9; have hp := HP2.out; clear HP2; rw [hbb, if_pos rfl] at hp
                  cases hcon : lx.contains bad with
                  | false =>
                    rw [hcon, if_neg (by decide)] at hp; have HP3 := Aside0.mk hp; clear hp
                    refine kwp_seq_wp fun K6 hK6 => ?_
                    go_wp2_with (first | (go_at_call 44; (refine (pp_contains W Ai ci lx bad HCI.out hwl).mono ?_); rintro e w11 ⟨rfl, hw11⟩; obtain rfl := hw11; rw [hcon]))
                    refine kwp_cond (t := false) rfl (fun h => by cases h) (fun _ => ?_); refine kwp_skip ?_; show K _ _; refine hK _ _ ?_
                    refine kwp_last fun K4 hK4 => ?_
                    go_wp2; exact ⟨m, by omega, kk + 1, by omega, out, buf, HP3, ⟨rfl, rfl, rfl, rfl, rfl, by simp, HPP.out⟩⟩
                  | true =>
                    rw [hcon, if_pos rfl] at hp
                    by_cases hroom : buf.length < whom.length
                    case neg => rw [if_neg hroom] at hp; cases hp
                    rw [if_pos hroom] at hp; have HP3 := Aside0.mk hp; clear hp; have P10 := PP.put HPP.out hg (kk : Int) false; simp only [Int.toNat_natCast] at P10; have P11 := Aside0.mk P10; clear P10
                    refine kwp_seq_wp fun K6 hK6 => ?_
                    go_wp2_with (first | (go_at_call 44; (refine (pp_contains W Ai ci lx bad HCI.out hwl).mono ?_); rintro e w11 ⟨rfl, hw11⟩; obtain rfl := hw11; rw [hcon]))
                    refine kwp_cond (t := true) rfl (fun _ => ?_) (fun h => by cases h)
                    refine kwp_seq_wp fun K6 hK6 => ?_
                    go_wp2; obtain ⟨sn, rn, hc⟩ := P11.out.chan; refine kwp_send (v := .int .i64 (kk : Int)) rfl rfl rfl rfl rfl rfl rfl rfl rfl rfl rfl hc (by simpa using hroom) (by simp) (by simp) (by decide) ?_; simp only [Act.put, List.setIfInBounds_toArray, List.set_cons_zero, List.set_cons_succ]; rw [show (buf.map (Value.int .i64)).toArray.push (.int .i64 (kk : Int)) = ((buf ++ [(kk : Int)]).map (Value.int .i64)).toArray by simp]; intro W12 hW12; have P12 := Aside0.mk (PP.send P11.out hc (buf ++ [(kk : Int)]) false (sn + 1) rn); rw [← hW12] at P12; clear hW12 hc P11; show K _ _; refine hK _ _ ?_
                    refine kwp_last fun K4 hK4 => ?_
                    go_wp2; exact ⟨m, by omega, kk + 1, out.set kk false, buf ++ [(kk : Int)], by omega, HP3, ⟨rfl, rfl, rfl, rfl, rfl, by simp, P12.out⟩⟩
              · obtain rfl : kk = whom.length := by omega
                obtain rfl : n = 0 := by omega
                have hp := HC2.out; rw [ppC, if_neg (by omega)] at hp; obtain ⟨rfl, rfl⟩ := (by simpa using hp : out = out2 ∧ buf = buf2); clear hp HC2; have hd : decide ((whom.length : Int) < (whom.length : Int)) = false := decide_eq_false (by omega)
                refine kwp_seq_wp fun K hK2 => ?_
                go_wp2
                refine kwp_seq_wp fun K hK2 => ?_
                go_wp2; exact ⟨rfl, rfl, rfl, rfl, rfl, by simp, HPP.out⟩
            · clear P2 HC'
              intro a W HI; obtain ⟨tm, df⟩ := a; obtain rfl : df = [] := HI.d; obtain ⟨T, rfl⟩ := lit84 tm HI.sz; have h4 : T 4 = _ := Option.some.inj HI.t4; have h6 : T 6 = _ := Option.some.inj HI.t6; have h7 : T 7 = _ := Option.some.inj HI.t7; have h53 : T 53 = _ := Option.some.inj (HI.fx (53, .chan (some gc)) (by simp)); rw [h4, h6, h7, h53]; have HPP := Aside0.mk HI.pp; clear HI h4 h6 h7 h53; obtain ⟨sn, rn, hc⟩ := HPP.out.chan
              have hlen := fun ty => run_len_chan (P := Try.prog) 78 ty Try.underlying78 hc
              have hcl := fun ats ty => run_close_open (P := Try.prog) (w := W) ats ty hc
              refine kwp_last3 fun K4 hK4 => ?_
              cases buf2 with
              | nil =>
                have P2 := PP.send HPP.out hc [] true sn rn; go_wp2; exact ⟨d, by omega, out2, [], HB', ⟨rfl, rfl, rfl, rfl, rfl, by simp, P2⟩⟩
              | cons bad2 tl2 =>
                have hne : ((((bad2 :: tl2).map (Value.int .i64)).toArray.size : Int) == 0) = false := by simp; omega
                go_wp2; exact ⟨d, by omega, out2, bad2 :: tl2, HB', ⟨rfl, rfl, rfl, rfl, rfl, by simp, HPP.out⟩⟩
        · intro a W HI
          obtain ⟨tm, df⟩ := a; obtain rfl : df = [] := HI.d; obtain ⟨T, rfl⟩ := lit84 tm HI.sz; have h4 : T 4 = _ := Option.some.inj HI.t4; have h6 : T 6 = _ := Option.some.inj HI.t6; have h7 : T 7 = _ := Option.some.inj HI.t7; rw [h4, h6, h7]; have HPP := Aside0.mk HI.pp; clear HI h4 h6 h7; refine kwp_of_wp ?_; go_wp2
          go_ret2
          exact ⟨_, rfl, Kd.R_lower HPP.out.row B1.out.size, B1.out.trans (HPP.out.hb.mono B1.out.size)⟩
  · rw [if_neg he] at h
    obtain ⟨rfl, rfl⟩ := (by simpa using h : [] = r1 ∧ e0 = r2)
    have hne : (e0 != 0) = true := by rw [bne_iff_ne]; exact he
    go_enter Try.func17, Try.ntmps17
    go_wp2_with (first | (go_at_call 43; (refine (pure_whom.calls k A0_0 c0_0 l0_0 A0_1 c0_1 l0_1 A0_2 c0_2 l0_2 a0_3 whom e0 _ (Kd.C_alloc HR0.out _) HC0.out (Kd.C_alloc HR1.out _) HC1.out (Kd.C_alloc HR2.out _) HC2.out HA.out).mono ?_); rintro e w1 ⟨v1, rfl, hS1, hb1'⟩; have B1 := Aside0.mk (((Below.refl w.heap.size w).alloc (Nat.le_refl _) (.cells #[.slice A0_0 l0_0.length c0_0, .slice A0_1 l0_1.length c0_1, .slice A0_2 l0_2.length c0_2, .int .i64 a0_3] 25)).trans (hb1'.mono (by simp))); obtain ⟨Aw, cw, rfl⟩ := Kd.R_slice (Kd.S_R hS1); clear hS1 hb1'))
    go_ret2
    exact ⟨_, rfl, Kd.R_nil _ _ _ _ _, B1.out⟩
end purep

/-! ### slices_Clone_api_Value_api_Value: function 63 -/
def slices_Clone_api_Value_api_Value.f (l0 : List S86) : Option (List S86) := if l0.length < 5864062014805 then some l0 else none
set_option maxHeartbeats 8000000 in
set_option maxRecDepth 100000 in
theorem slices_Clone_api_Value_api_Value.calls (A0 : Option Addr) (c0 : Nat) (l0 : List (S86)) (r : List (S86)) (w : World) (hr0 : Kd.C k86 w A0 l0.length l0) (hc0 : l0.length ≤ c0) (h : slices_Clone_api_Value_api_Value.f l0 = some r) :
    Calls Try.prog 63 #[.slice A0 l0.length c0] w fun e w' => ∃ v0_ : Value, e = .returned (v0_) ∧ Kd.R k86 86 w' w.heap.size (fun _ => True) v0_ r ∧ Below w.heap.size w w' := by
  have hl : l0.length < 5864062014805 := by
    by_cases c : l0.length < 5864062014805
    · exact c
    · simp [slices_Clone_api_Value_api_Value.f, c] at h
  simp only [slices_Clone_api_Value_api_Value.f, if_pos hl, Option.some.injEq] at h
  obtain rfl := h; have HB := Aside0.mk (Below.refl w.heap.size w)
  have hn0 : ∀ (W : World) (n c : Nat) (A : Option Addr), (binOp .eql 22 (.slice A n c) (.slice none 0 0)).run Try.prog W = .ok (.bool A.isNone) W := fun W n c A => Lib.run_eql_slice_nil W _ _ A n c 0 0 Try.underlying22
  cases A0 with
  | none =>
    have h0 : l0 = [] := by
      rcases Nat.eq_zero_or_pos l0.length with h0 | h0
      · exact List.eq_nil_of_length_eq_zero h0
      · obtain ⟨ad, e, _⟩ := hr0.2.2 h0
        cases e
    subst h0; clear hr0 hc0
    go_enter Try.func63, Try.ntmps63
    go_wp2; go_ret; exact ⟨_, rfl, Kd.R_nil _ _ _ _ _, HB.out⟩
  | some ad =>
    have HR := Aside0.mk hr0; have HC := Aside0.mk hc0; clear hr0 hc0
    go_enter Try.func63, Try.ntmps63
    go_wp2_with (first | ((with_reducible refine gate_dst (N := 5) rfl ?_); refine Kd.R_lit k86 _ 86 ?hg (N := 5) ?hd (xs := ([] : List S86)) (inner := []) (ok := fun _ => True) (okp := fun _ => True) ?hr ?hp (fun _ hk => hk) trivial (Below.refl _ _) (Nat.le_refl _) (by simp) ?_; (case hd => rfl); (case hg => rfl); (case hr => first | (go_simp; done) | (go_simp; rfl)); (case hp => exact (Reps.none _ _)); intro v233 w7 ho8 hb hg_ hnew_; clear hg_ hnew_; have n0_ := Aside0.mk (Kd.R_lower ho8 (below_size HB.out)); have n1_ := Aside0.mk (below_step HB.out hb); clear HB; have HO234 := n0_; have HB := n1_; clear n0_ n1_; clear hb ho8) | ((with_reducible refine gate_builtin (b := .append) (xs := #[.tmp 5, .tmp 6]) rfl ?_); at_builtin; refine Kd.R_append_rows k86 (w0 := w) w.heap.size rfl (.tmp 5) (.tmp 6) 22 86 (.agg #[(.int .u8 0), (.int .i64 0), (.int .i64 0)]) 24 rfl Try.underlying22 info86 rfl (by decide) (by omega) v233 ([] : List S86) l0 _ _ _ (fun _ => True) (fun _ => False) rfl rfl ?aO ?aR (fun _ _ h => h) (fun _ h => h.elim) ?aF ?aB ?aS ?aL ?_; (case aR => repeat (first | exact (Kd.C_below HR.out HB.out) | (with_reducible refine Kd.C_alloc ?_ _) | (with_reducible refine Kd.C_drewN ?_ _) | (with_reducible refine Kd.C_drew ?_))); (case aB => exact (au48)); (case aF => exact (fun _ _ => trivial)); (case aO => exact (au102)); (case aS => exact (below_size (au48))); (case aL => simp only [List.length_nil, Nat.zero_add]; omega); intro v242 w9 ho hb hg hat; have n0_ := Aside0.mk (hb); have n1_ := Aside0.mk (ho); clear HB; have HB := n0_; have HO243 := n1_; clear n0_ n1_; clear ho hb hg hat))
    go_ret; exact ⟨_, rfl, HO243.out, HB.out⟩

-- NOT PRINTED: function 64 (slices_Clone_api_Method_api_Method)

/-! ### slices_Clone_uint8_uint8: function 65 -/
def slices_Clone_uint8_uint8.f (l0 : List Int) : Option (List Int) := if l0.length < 140737488355328 then some l0 else none
set_option maxHeartbeats 8000000 in
set_option maxRecDepth 100000 in
theorem slices_Clone_uint8_uint8.calls (A0 : Option Addr) (c0 : Nat) (l0 : List Int) (r : List Int) (w : World) (hr0 : Kd.C (Kd.int .u8) w A0 l0.length l0) (hc0 : l0.length ≤ c0) (h : slices_Clone_uint8_uint8.f l0 = some r) :
    Calls Try.prog 65 #[.slice A0 l0.length c0] w fun e w' => ∃ v0_ : Value, e = .returned (v0_) ∧ Kd.R (Kd.int .u8) 5 w' w.heap.size (fun _ => True) v0_ r ∧ Below w.heap.size w w' := by
  have hl : l0.length < 140737488355328 := by
    by_cases c : l0.length < 140737488355328
    · exact c
    · simp [slices_Clone_uint8_uint8.f, c] at h
  simp only [slices_Clone_uint8_uint8.f, if_pos hl, Option.some.injEq] at h
  obtain rfl := h; have HB := Aside0.mk (Below.refl w.heap.size w)
  have hn0 : ∀ (W : World) (n c : Nat) (A : Option Addr), (binOp .eql 49 (.slice A n c) (.slice none 0 0)).run Try.prog W = .ok (.bool A.isNone) W := fun W n c A => Lib.run_eql_slice_nil W _ _ A n c 0 0 Try.underlying49
  cases A0 with
  | none =>
    have h0 : l0 = [] := by
      rcases Nat.eq_zero_or_pos l0.length with h0 | h0
      · exact List.eq_nil_of_length_eq_zero h0
      · obtain ⟨ad, e, _⟩ := hr0.2.2 h0
        cases e
    subst h0; clear hr0 hc0
    go_enter Try.func65, Try.ntmps65
    go_wp2; go_ret; exact ⟨_, rfl, Kd.R_nil _ _ _ _ _, HB.out⟩
  | some ad =>
    have HR := Aside0.mk hr0; have HC := Aside0.mk hc0; clear hr0 hc0
    go_enter Try.func65, Try.ntmps65
    go_wp2_with (first | ((with_reducible refine gate_dst (N := 5) rfl ?_); refine Kd.R_lit (Kd.int .u8) _ 5 ?hg (N := 5) ?hd (xs := ([] : List Int)) (inner := []) (ok := fun _ => True) (okp := fun _ => True) ?hr ?hp (fun _ hk => hk) trivial (Below.refl _ _) (Nat.le_refl _) (by simp) ?_; (case hd => rfl); (case hg => rfl); (case hr => first | (go_simp; done) | (go_simp; rfl)); (case hp => exact (Reps.none _ _)); intro v233 w7 ho8 hb hg_ hnew_; clear hg_ hnew_; have n0_ := Aside0.mk (Kd.R_lower ho8 (below_size HB.out)); have n1_ := Aside0.mk (below_step HB.out hb); clear HB; have HO234 := n0_; have HB := n1_; clear n0_ n1_; clear hb ho8) | ((with_reducible refine gate_builtin (b := .append) (xs := #[.tmp 5, .tmp 6]) rfl ?_); at_builtin; refine Kd.R_append_rows (Kd.int .u8) (w0 := w) w.heap.size rfl (.tmp 5) (.tmp 6) 49 5 (.int .u8 0) 1 rfl Try.underlying49 info5 rfl (by decide) (by omega) v233 ([] : List Int) l0 _ _ _ (fun _ => True) (fun _ => False) rfl rfl ?aO ?aR (fun _ _ h => h) (fun _ h => h.elim) ?aF ?aB ?aS ?aL ?_; (case aR => repeat (first | exact (Kd.C_below HR.out HB.out) | (with_reducible refine Kd.C_alloc ?_ _) | (with_reducible refine Kd.C_drewN ?_ _) | (with_reducible refine Kd.C_drew ?_))); (case aB => exact (au48)); (case aF => exact (fun _ _ => trivial)); (case aO => exact (au102)); (case aS => exact (below_size (au48))); (case aL => simp only [List.length_nil, Nat.zero_add]; omega); intro v242 w9 ho hb hg hat; have n0_ := Aside0.mk (hb); have n1_ := Aside0.mk (ho); clear HB; have HB := n0_; have HO243 := n1_; clear n0_ n1_; clear ho hb hg hat))
    go_ret; exact ⟨_, rfl, HO243.out, HB.out⟩

/-! ### slices_Clone_api_Instr_api_Instr: function 66 -/
def slices_Clone_api_Instr_api_Instr.f (l0 : List S70) : Option (List S70) := if l0.length < 5864062014805 then some l0 else none
set_option maxHeartbeats 8000000 in
set_option maxRecDepth 100000 in
theorem slices_Clone_api_Instr_api_Instr.calls (A0 : Option Addr) (c0 : Nat) (l0 : List (S70)) (r : List (S70)) (w : World) (hr0 : Kd.C k70 w A0 l0.length l0) (hc0 : l0.length ≤ c0) (h : slices_Clone_api_Instr_api_Instr.f l0 = some r) :
    Calls Try.prog 66 #[.slice A0 l0.length c0] w fun e w' => ∃ v0_ : Value, e = .returned (v0_) ∧ Kd.R k70 70 w' w.heap.size (fun _ => True) v0_ r ∧ Below w.heap.size w w' := by
  have hl : l0.length < 5864062014805 := by
    by_cases c : l0.length < 5864062014805
    · exact c
    · simp [slices_Clone_api_Instr_api_Instr.f, c] at h
  simp only [slices_Clone_api_Instr_api_Instr.f, if_pos hl, Option.some.injEq] at h
  obtain rfl := h; have HB := Aside0.mk (Below.refl w.heap.size w)
  have hn0 : ∀ (W : World) (n c : Nat) (A : Option Addr), (binOp .eql 50 (.slice A n c) (.slice none 0 0)).run Try.prog W = .ok (.bool A.isNone) W := fun W n c A => Lib.run_eql_slice_nil W _ _ A n c 0 0 Try.underlying50
  cases A0 with
  | none =>
    have h0 : l0 = [] := by
      rcases Nat.eq_zero_or_pos l0.length with h0 | h0
      · exact List.eq_nil_of_length_eq_zero h0
      · obtain ⟨ad, e, _⟩ := hr0.2.2 h0
        cases e
    subst h0; clear hr0 hc0
    go_enter Try.func66, Try.ntmps66
    go_wp2; go_ret; exact ⟨_, rfl, Kd.R_nil _ _ _ _ _, HB.out⟩
  | some ad =>
    have HR := Aside0.mk hr0; have HC := Aside0.mk hc0; clear hr0 hc0
    go_enter Try.func66, Try.ntmps66
    go_wp2_with (first | ((with_reducible refine gate_dst (N := 5) rfl ?_); refine Kd.R_lit k70 _ 70 ?hg (N := 5) ?hd (xs := ([] : List S70)) (inner := []) (ok := fun _ => True) (okp := fun _ => True) ?hr ?hp (fun _ hk => hk) trivial (Below.refl _ _) (Nat.le_refl _) (by simp) ?_; (case hd => rfl); (case hg => rfl); (case hr => first | (go_simp; done) | (go_simp; rfl)); (case hp => exact (Reps.none _ _)); intro v233 w7 ho8 hb hg_ hnew_; clear hg_ hnew_; have n0_ := Aside0.mk (Kd.R_lower ho8 (below_size HB.out)); have n1_ := Aside0.mk (below_step HB.out hb); clear HB; have HO234 := n0_; have HB := n1_; clear n0_ n1_; clear hb ho8) | ((with_reducible refine gate_builtin (b := .append) (xs := #[.tmp 5, .tmp 6]) rfl ?_); at_builtin; refine Kd.R_append_rows k70 (w0 := w) w.heap.size rfl (.tmp 5) (.tmp 6) 50 70 (.agg #[(.int .u8 0), (.int .i64 0), (.int .i64 0)]) 24 rfl Try.underlying50 info70 rfl (by decide) (by omega) v233 ([] : List S70) l0 _ _ _ (fun _ => True) (fun _ => False) rfl rfl ?aO ?aR (fun _ _ h => h) (fun _ h => h.elim) ?aF ?aB ?aS ?aL ?_; (case aR => repeat (first | exact (Kd.C_below HR.out HB.out) | (with_reducible refine Kd.C_alloc ?_ _) | (with_reducible refine Kd.C_drewN ?_ _) | (with_reducible refine Kd.C_drew ?_))); (case aB => exact (au48)); (case aF => exact (fun _ _ => trivial)); (case aO => exact (au102)); (case aS => exact (below_size (au48))); (case aL => simp only [List.length_nil, Nat.zero_add]; omega); intro v242 w9 ho hb hg hat; have n0_ := Aside0.mk (hb); have n1_ := Aside0.mk (ho); clear HB; have HB := n0_; have HO243 := n1_; clear n0_ n1_; clear ho hb hg hat))
    go_ret; exact ⟨_, rfl, HO243.out, HB.out⟩

end Go.Proofs.Ytkmnachdibhdhaa.U
