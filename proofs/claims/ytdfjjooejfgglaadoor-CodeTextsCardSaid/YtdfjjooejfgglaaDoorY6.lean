/- Contracts of the functions of this seat (each: the call of the function does what the plain Lean function of the same name tells; the conditions stand in each statement). Written by a program of this session and by hand; checked by Lean. -/
import Derived.Test.YtdfjjooejfgglaaDoorY0
import Derived.Test.YtdfjjooejfgglaaDoorY3
import Derived.Test.YtdfjjooejfgglaaDoorY5
namespace Go.Proofs.YtdfjjooejfgglaaDoor.Y
open Go.RowKit Go.Proofs.YtdfjjooejfgglaaDoorW.PrintWords Go.Proofs.YtdfjjooejfgglaaDoorW.PrintLast Go.Proofs.YtdfjjooejfgglaaDoorW.PrintMore
attribute [local go_sem] max2_int min2_int max_two min_two max_three min_three max_four min_four   -- for this text's walks alone
set_option linter.unusedVariables false
set_option linter.unusedSimpArgs false

/-! ### code_Parse: function 22 -/
section
attribute [local go_sem] Oper.semAt_some
/-- A text's first line, with its end; what comes behind. -/
def lineAt (s : ByteArray) : ByteArray := if 0 ≤ Lib.indexByte s.data.toList 10 then s.extract 0 ((Lib.indexByte s.data.toList 10).toNat + 1) else s
def restAt (s : ByteArray) : ByteArray := if 0 ≤ Lib.indexByte s.data.toList 10 then s.extract ((Lib.indexByte s.data.toList 10).toNat + 1) s.size else ⟨#[]⟩
def restK (s : ByteArray) : Nat → ByteArray
  | 0 => s
  | k + 1 => restAt (restK s k)
def upto (s : ByteArray) (k : Nat) : List ByteArray := (List.range k).map fun j => lineAt (restK s j)
theorem upto_succ (s : ByteArray) (k : Nat) : upto s (k + 1) = upto s k ++ [lineAt (restK s k)] := by simp [upto, List.range_succ]
theorem upto_length (s : ByteArray) (k : Nat) : (upto s k).length = k := by simp [upto]
/-- The text's k-th line comes behind the k ones ahead of it. -/
def LineOk (s : ByteArray) (pre : List ByteArray) (x : ByteArray) : Prop := ∃ k, pre = upto s k ∧ x = lineAt (restK s k) ∧ (restK s k).size ≠ 0 ∧ k + (restK s k).size ≤ s.size
def remB (B : Nat) (w : World) : Nat := match w.cell? ⟨B, 0, none⟩ with | some (.string s) => s.size | _ => 0
theorem index_lt {s : ByteArray} {m : Nat} (h : Lib.indexByte s.data.toList 10 = (m : Int)) : m < s.size := by
  have := (Lib.indexByte_some h).1
  have h2 := (List.getElem?_eq_some_iff.1 this).1
  simpa using h2
theorem index_lt' {s : ByteArray} {m : Nat} {c : UInt8} (h : Lib.indexByte s.data.toList c = (m : Int)) : m < s.size := by
  have := (Lib.indexByte_some h).1
  have h2 := (List.getElem?_eq_some_iff.1 this).1
  simpa using h2
theorem wrap64_id' {x : Int} (h1 : -9223372036854775808 ≤ x) (h2 : x ≤ 9223372036854775807) : wrap64 x = x := by unfold wrap64; omega
def Stp (B : Nat) (A A' : World) : Prop := ∃ v, A' = A.setCell ⟨B, 0, none⟩ v
set_option maxRecDepth 100000 in
set_option maxHeartbeats 2000000 in
theorem lines1_in (n : Nat) (hn : 1 ≤ n) (l B : Nat) (s : ByteArray) (hs : s.size ≤ 4000) (J Jx : List ByteArray → World → Prop)
    (W : World) (hJ : AbidesFrom W.heap.size J) (hJS : ∀ pre A A', J pre A → Stp B A A' → J pre A')
    (hY : ∀ pre x W, J pre W → LineOk s pre x → YieldAt Fence.wide (n - 1) Tryd.prog l #[.string x] W fun e W' =>
      (e = .returned (.bool true) ∧ J (pre ++ [x]) W' ∧ (∀ u, Boxed W B 9 u → Boxed W' B 9 u)) ∨ (e = .returned (.bool false) ∧ Jx (pre ++ [x]) W'))
    (hB : Boxed W B 9 (.string s)) (h0 : J [] W) :
    CallsIn Fence.wide n Tryd.prog 58 #[.func (.yield l) #[] #[], .pointer (some ⟨B, 0, none⟩)] W fun e W' => (∃ v, e = .returned v) ∧
      ((∃ ys, (∃ k, ys = upto s k ∧ (restK s k).size = 0 ∧ k ≤ s.size) ∧ J ys W') ∨ (∃ pre, (∃ k, pre = upto s k) ∧ Jx pre W')) := by
  refine callsIn_of_wp Tryd.func58 rfl trivial ?_ rfl
  simp only [Tryd.ntmps58, List.size_toArray, List.length_cons, List.length_nil, Nat.reduceAdd, Nat.reduceSub, Array.replicate_succ, Array.replicate_zero, List.push_toArray, List.append_toArray, List.nil_append, List.cons_append]
  gi_wp2
  gi_loopw [] (fun wr => ∃ k : Nat, J (upto s k) wr ∧ Boxed wr B 9 (.string (restK s k)) ∧ k + (restK s k).size ≤ s.size)
    (fun wr => remB B wr)
  case atStart => exact ⟨0, h0, hB, by simp [restK]⟩
  case round =>
    obtain ⟨k, hJs, hb, hk⟩ := hrel
    obtain ⟨r, hr⟩ : ∃ r, restK s k = r := ⟨_, rfl⟩
    rw [hr] at hb hk
    have hc := hb.cell
    have hf := hb.frozen
    by_cases hz : r.size = 0
    · have hz1 : decide (0 < (r.size : Int)) = false := by rw [decide_eq_false_iff_not]; omega
      gi_wp2
      go_end0
      exact ⟨⟨_, rfl⟩, .inl ⟨_, ⟨k, rfl, by rw [hr]; exact hz, by omega⟩, hJs⟩⟩
    · have hz1 : decide (0 < (r.size : Int)) = true := by rw [decide_eq_true_eq]; omega
      by_cases hi : 0 ≤ Lib.indexByte r.data.toList 10
      · obtain ⟨m, hm⟩ : ∃ m : Nat, Lib.indexByte r.data.toList 10 = (m : Int) := ⟨_, (Int.toNat_of_nonneg hi).symm⟩
        have hlt : m < r.size := index_lt hm
        have c1 : (0 : Int) ≤ (m : Int) + 1 := by omega
        have c2 : (m : Int) + 1 ≤ (r.size : Int) := by omega
        have c3 : decide ((0 : Int) ≤ (m : Int)) = true := by rw [decide_eq_true_eq]; omega
        have c4 : wrap64 ((m : Int) + 1) = (m : Int) + 1 := wrap64_id' (by omega) (by omega)
        gi_wp2_with (first | (refine ⟨trivial, ?_⟩; gi_at_call 59; (refine (callsIn_wide.2 (Tryd.strings_IndexByte _ _ _)).mono ?_); rintro e w1 ⟨rfl, rfl⟩; rw [show Lib.indexByte r.data.toList (Int.toNat 10).toUInt8 = (m : Int) from hm]))
        have hl1 : lineAt r = r.extract 0 (m + 1) := by unfold lineAt; rw [hm, if_pos (by omega)]; rfl
        have hr1 : restAt r = r.extract (m + 1) r.size := by unfold restAt; rw [hm, if_pos (by omega)]; rfl
        have hsz : (r.extract (m + 1) r.size).size = r.size - (m + 1) := by rw [ByteArray.size_extract]; omega
        gi_region_o
        have hJ2 := hJ _ _ (w1.setCell ⟨B, 0, none⟩ (.string (r.extract (m + 1) r.size))).drew none (hJS _ _ _ hJs ⟨_, rfl⟩) ⟨rfl, rfl, rfl, Nat.le_refl _, fun _ _ _ => rfl⟩ (fun r e => by cases e)
        have hb2 : Boxed (w1.setCell ⟨B, 0, none⟩ (.string (r.extract (m + 1) r.size))).drew B 9 (.string (r.extract (m + 1) r.size)) := hb.set _
        generalize (w1.setCell ⟨B, 0, none⟩ (.string (r.extract (m + 1) r.size))).drew = w2 at hJ2 hb2 ⊢
        obtain ⟨fn, tmps, assign, body, hy, hR⟩ := hY _ (r.extract 0 (m + 1)) w2 hJ2 ⟨k, rfl, by rw [hr, hl1], by rw [hr]; exact hz, by rw [hr]; exact hk⟩
        gi_wp2
        refine hR.mono ?_
        rintro e W3 (⟨rfl, hJ3, hk3⟩ | ⟨rfl, hJx3⟩)
        · have hb3 := hk3 _ hb2
          gi_wp2
          go_roundw
          case rel =>
            refine ⟨k + 1, ?_, ?_, ?_⟩
            · rw [upto_succ, hr, hl1]; exact hJ3
            · show Boxed _ B _ (.string (restAt (restK s k)))
              rw [hr, hr1]; exact hb3
            · show k + 1 + (restAt (restK s k)).size ≤ s.size
              rw [hr, hr1, hsz]; omega
          case measure =>
            unfold remB
            rw [hb3.cell, hc]
            show (r.extract (m + 1) r.size).size < r.size
            rw [hsz]; omega
        · gi_wp2
          refine bodyPost_ret (results_none rfl _ _ _) rfl ?_
          exact ⟨⟨_, rfl⟩, .inr ⟨_, ⟨k + 1, by rw [upto_succ, hr, hl1]⟩, hJx3⟩⟩
      · have c3 : decide ((0 : Int) ≤ Lib.indexByte r.data.toList 10) = false := by rw [decide_eq_false_iff_not]; exact hi
        have hl1 : lineAt r = r := by unfold lineAt; rw [if_neg hi]
        have hr1 : restAt r = ⟨#[]⟩ := by unfold restAt; rw [if_neg hi]
        have hsz : (⟨#[]⟩ : ByteArray).size = 0 := rfl
        have hJ2 := hJS _ _ (wr.setCell ⟨B, 0, none⟩ (.string ⟨#[]⟩)) hJs ⟨_, rfl⟩
        have hb2 : Boxed (wr.setCell ⟨B, 0, none⟩ (.string ⟨#[]⟩)) B 9 (.string ⟨#[]⟩) := hb.set _
        obtain ⟨fn, tmps, assign, body, hy, hR⟩ := hY _ r _ hJ2 ⟨k, rfl, by rw [hr, hl1], by rw [hr]; exact hz, by rw [hr]; exact hk⟩
        gi_wp2_with (first | (refine ⟨trivial, ?_⟩; gi_at_call 59; (refine (callsIn_wide.2 (Tryd.strings_IndexByte _ _ _)).mono ?_); rintro e w1 ⟨rfl, hw1⟩; obtain rfl := hw1))
        refine hR.mono ?_
        rintro e W3 (⟨rfl, hJ3, hk3⟩ | ⟨rfl, hJx3⟩)
        · have hb3 := hk3 _ hb2
          gi_wp2
          go_roundw
          case rel =>
            refine ⟨k + 1, ?_, ?_, ?_⟩
            · rw [upto_succ, hr, hl1]; exact hJ3
            · show Boxed _ B _ (.string (restAt (restK s k)))
              rw [hr, hr1]; exact hb3
            · show k + 1 + (restAt (restK s k)).size ≤ s.size
              rw [hr, hr1, hsz]; omega
          case measure =>
            unfold remB
            rw [hb3.cell, hc]
            show (⟨#[]⟩ : ByteArray).size < r.size
            rw [hsz]; omega
        · gi_wp2
          refine bodyPost_ret (results_none rfl _ _ _) rfl ?_
          exact ⟨⟨_, rfl⟩, .inr ⟨_, ⟨k + 1, by rw [upto_succ, hr, hl1]⟩, hJx3⟩⟩
end
set_option maxRecDepth 100000 in
set_option maxHeartbeats 1000000 in
theorem lines_in (n : Nat) (s : ByteArray) (w : World) :
    CallsIn Fence.wide n Tryd.prog 44 #[.string s] w fun e w' => e = .returned (.func (.func 58) #[] #[.pointer (some ⟨w.heap.size, 0, none⟩)]) ∧ w' = w.alloc (.cells #[.string s] 9) := by
  refine callsIn_of_wp Tryd.func44 rfl trivial ?_ rfl
  simp only [Tryd.ntmps44, List.size_toArray, List.length_cons, List.length_nil, Nat.reduceAdd, Nat.reduceSub, Array.replicate_succ, Array.replicate_zero, List.push_toArray, List.append_toArray, List.nil_append, List.cons_append]
  gi_wp2
  go_ret
  exact ⟨rfl, rfl⟩
/-- What a round keeps for the iterator: the rest of the text. -/
def KpB (B : Nat) (W W' : World) : Prop := ∀ u, Boxed W B 9 u → Boxed W' B 9 u
theorem lines_stops (n : Nat) (hn : 1 ≤ n) (B : Nat) (s : ByteArray) (hs : s.size ≤ 4000) (w : World) (hB : Boxed w B 9 (.string s)) :
    SeqStopsS Fence.wide n Tryd.prog 58 #[.pointer (some ⟨B, 0, none⟩)] (fun x : ByteArray => #[.string x]) (KpB B) (Stp B) (fun ys => ∃ k, ys = upto s k ∧ (restK s k).size = 0 ∧ k ≤ s.size) (fun pre => ∃ k, pre = upto s k) (LineOk s) w :=
  fun l J Jx W hk _ hJ _ hJS hY h0 => lines1_in n hn l B s hs J Jx W hJ hJS hY (hk _ hB) h0
section
set_option maxRecDepth 100000
set_option maxHeartbeats 1000000
theorem cut0_calls (s : ByteArray) (hs : s.size ≤ 4000) (w : World) :
    Calls Tryd.prog 60 #[.string s, .string ⟨#[32]⟩] w fun e w' => e = .returned (.tuple #[.string (if 0 ≤ Lib.indexByte s.data.toList 32 then s.extract 0 (Lib.indexByte s.data.toList 32).toNat else s), .string (if 0 ≤ Lib.indexByte s.data.toList 32 then s.extract ((Lib.indexByte s.data.toList 32).toNat + 1) s.size else ⟨#[]⟩), .bool (decide (0 ≤ Lib.indexByte s.data.toList 32))]) ∧ ∃ n, w' = w.drewN n := by
  by_cases hi : 0 ≤ Lib.indexByte s.data.toList 32
  · obtain ⟨m, hm⟩ : ∃ m : Nat, Lib.indexByte s.data.toList 32 = (m : Int) := ⟨_, (Int.toNat_of_nonneg hi).symm⟩
    have hlt : m < s.size := index_lt' hm
    rw [hm, if_pos (by omega), if_pos (by omega), decide_eq_true (by omega : (0 : Int) ≤ (m : Int))]
    have c1 : (0 : Int) ≤ (m : Int) := by omega
    have c2 : (m : Int) ≤ (s.size : Int) := by omega
    have c3 : (0 : Int) ≤ (m : Int) + 1 := by omega
    have c4 : (m : Int) + 1 ≤ (s.size : Int) := by omega
    have c5 : wrap64 ((m : Int) + 1) = (m : Int) + 1 := wrap64_id' (by omega) (by omega)
    have c6 : IntKind.i64.wrap ((m : Int) + 1) = (m : Int) + 1 := (i64_w _).trans c5
    have mixed : Tryd.prog.follows Departure.mixedOrders = true := by kernel_rfl
    go_enter Tryd.func60, Tryd.ntmps60
    go_wp2_with (first | (go_at_call 74; (refine (Tryd.stringslite_Index_one _ _ _).mono ?_); rintro e w1 ⟨rfl, rfl⟩; rw [hm]))
    go_region_o
    go_wp2
    go_ret3
    exact ⟨rfl, 1, rfl⟩
  · have c3 : decide ((0 : Int) ≤ Lib.indexByte s.data.toList 32) = false := by rw [decide_eq_false_iff_not]; exact hi
    rw [if_neg hi, if_neg hi, c3]
    go_enter Tryd.func60, Tryd.ntmps60
    go_wp2_with (first | (go_at_call 74; (refine (Tryd.stringslite_Index_one _ _ _).mono ?_); rintro e w1 ⟨rfl, rfl⟩))
    go_ret3
    exact ⟨rfl, 0, rfl⟩
/-- What stands ahead of the first blank; what stands behind it. -/
def nameAt (s : ByteArray) : ByteArray := if 0 ≤ Lib.indexByte s.data.toList 32 then s.extract 0 (Lib.indexByte s.data.toList 32).toNat else s
def argAt (s : ByteArray) : ByteArray := if 0 ≤ Lib.indexByte s.data.toList 32 then s.extract ((Lib.indexByte s.data.toList 32).toNat + 1) s.size else ⟨#[]⟩
theorem cut_calls (s : ByteArray) (hs : s.size ≤ 4000) (w : World) :
    Calls Tryd.prog 45 #[.string s, .string ⟨#[32]⟩] w fun e w' => e = .returned (.tuple #[.string (nameAt s), .string (argAt s), .bool (decide (0 ≤ Lib.indexByte s.data.toList 32))]) ∧ ∃ n, w' = w.drewN n := by
  have h : ∀ w : World, Calls Tryd.prog 60 #[.string s, .string ⟨#[32]⟩] w fun e w' => e = .returned (.tuple #[.string (nameAt s), .string (argAt s), .bool (decide (0 ≤ Lib.indexByte s.data.toList 32))]) ∧ ∃ n, w' = w.drewN n := cut0_calls s hs
  generalize nameAt s = x at h ⊢
  generalize argAt s = y at h ⊢
  generalize decide (0 ≤ Lib.indexByte s.data.toList 32) = b at h ⊢
  go_enter Tryd.func45, Tryd.ntmps45
  go_wp2_with (first | (go_at_call 60; (refine (h _).mono ?_); rintro e w1 ⟨rfl, nn, rfl⟩))
  go_ret3
  exact ⟨rfl, _, rfl⟩
/-- What strconv.Atoi tells, whatever the text. -/
def atoiV (s : ByteArray) : Int := match Lib.atoiAll s.data.toList with
  | .ok v => v
  | .range => Lib.atoiSat s.data.toList
  | _ => 0
theorem atoi_calls (s : ByteArray) (hs : s.size ≤ 4000) (w : World) (e1 e2 : Value) (h1 : w.cell? ⟨3, 0, none⟩ = some e1) (h2 : w.cell? ⟨4, 0, none⟩ = some e2) (v1 : e1 = .nilIface ∨ ∃ te pe, e1 = .iface te pe) (v2 : e2 = .nilIface ∨ ∃ te pe, e2 = .iface te pe) :
    Calls Tryd.prog 48 #[.string s] w fun e w' => ∃ ev, e = .returned (.tuple #[.int .i64 (atoiV s), ev]) ∧ (ev = .nilIface ∨ ∃ t p, ev = .iface t p) ∧ Below w.heap.size w w' := by
  cases h : Lib.atoiAll s.data.toList with
  | ok v =>
    refine (Tryd.strconv_Atoi_ok s (by omega) v h w).mono ?_
    rintro e w' ⟨rfl, hw⟩
    refine ⟨_, by unfold atoiV; rw [h], .inl rfl, ?_⟩
    rcases hw with rfl | ⟨t, rfl⟩
    · exact Below.refl _ _
    · exact Lib.bytesWorld_below _ _ _
  | range =>
    refine (Tryd.strconv_Atoi_range s (by omega) h e2 w h2 v2).mono ?_
    rintro e w' ⟨N, rfl, _, _, hb⟩
    exact ⟨_, by unfold atoiV; rw [h], .inr ⟨_, _, rfl⟩, hb⟩
  | _ =>
    refine (Tryd.strconv_Atoi_syntax s (by omega) h e1 w h1 v1).mono ?_
    rintro e w' ⟨N, rfl, _, _, hb⟩
    exact ⟨_, by unfold atoiV; rw [h], .inr ⟨_, _, rfl⟩, hb⟩
end
def trimAt (s : ByteArray) : ByteArray := ⟨(Lib.trimSuffix s.data.toList [10]).toArray⟩
/-- append(v, x) of one value of several cells, within a round. -/
theorem R_append_in {F : Fence} {nF : Nat} {P : Program} {ops : Array Oper} {rest : List Oper} {o : Oper} {a : Act} {Q : Exit → Act → World → Prop} {α : Type} (d : Kd α) {w0 W : World} (base : Nat) (hgd : o.guard = none) (s x : Operand) (t e : TypeId) (z : Value) (bytes : Nat)
    (ho : o.op = .call { callee := .builtin .append, args := #[s, x], argTypes := #[t, t] })
    (ht : P.underlying t = some (.slice e)) (hinfo : (P.info? e).map (fun i => (i.zero, i.size, i.bytes)) = some (some z, d.sz, bytes)) (hz : z.cells.size = d.sz) (hs0 : 0 < d.sz) (hb0 : 0 < bytes)
    (v : Value) (xs : List α) (p : α) (cs : List Value) (ok okp : Nat → Prop) (hs : a.eval s = v) (hx : a.eval x = .slice (some ⟨W.heap.size, 0, none⟩) 1 1) (hp : d.M W base okp p cs) (hokp : ∀ k, okp k → ok k ∧ some k ≠ v.ownBlock) (hfresh : ∀ k, W.heap.size ≤ k → ok k)
    (HO : d.R e W base ok v xs) (HB : Below base w0 W) (hbase : base ≤ W.heap.size) (hl : (xs.length + 1) * bytes ≤ 140737488355328)
    (h : ∀ v1 w1, d.R e w1 base ok v1 (xs ++ [p]) → Below base w0 w1 → W.grownBy w1 v.ownBlock → (v1.ownBlock = v.ownBlock ∨ ∃ b, v1.ownBlock = some b ∧ W.heap.size ≤ b) → wpListIn F nF P ops Q rest (a.put o.dst v1) w1) :
    wpListIn F nF P ops Q (o :: rest) a (W.alloc (.cells cs.toArray e)) := by
  obtain ⟨h0, inner, hown, hr⟩ := HO
  obtain ⟨i0, hi, hzz⟩ := Option.map_eq_some_iff.1 hinfo
  simp only [Prod.mk.injEq] at hzz
  obtain ⟨hz0, hz1, hz2⟩ := hzz
  have hlen : xs.length + 1 ≤ 140737488355328 := Nat.le_trans (Nat.le_mul_of_pos_right _ hb0) hl
  refine wpListIn_append_own_at _ hgd s x t ho base e i0 z d.sz bytes ht hi hz0 hz1 hz2 hz hs0 v xs.length inner hs (hown.alloc _) ⟨W.heap.size, 0, none⟩ 1 1 cs hx (by rw [d.K_len (d.K_of_M hp)]; simp)
    (by simpa using World.news_of_block (cs := cs.toArray) (t := e) (fr := (0, 0)) (heap_alloc_new W (.cells cs.toArray e))) (d.K_one (d.K_of_M hp)) (by simp only [maxLen]; omega) hl (by simp; omega) ?_
  intro v1 w1 hown1 hg _ hat
  have hg1 := World.grownBy.trans (World.grownBy_alloc W (.cells cs.toArray e) _) hg
  have hat1 : v1.ownBlock = v.ownBlock ∨ ∃ b, v1.ownBlock = some b ∧ W.heap.size ≤ b := by
    rcases hat with hat | hat
    · exact .inl hat
    · exact .inr ⟨_, hat, by simp⟩
  exact h v1 w1 (Kd.R_appended h0 hr hp hokp hfresh hown1 hg1 hat1) ((HB.alloc hbase _).grown hg (by simp; omega) (own_base hown)) hg1 hat1
theorem R_turn {W W' : World} {base : Nat} {ok : Nat → Prop} {v : Value} {xs : List S42} {row : Option Nat} (h : Kd.R k42 42 W base ok v xs) (hg : W.grownBy W' row) (hr : ∀ r, row = some r → ∃ o : Obj, W.heap[r]? = some o ∧ o.isCells = false) : Kd.R k42 42 W' base ok v xs := by
  cases row with
  | none => exact Kd.R_grown h hg (fun k _ => by simp)
  | some r =>
    obtain ⟨o, ho, hc⟩ := hr r rfl
    have hne : some r ≠ v.ownBlock := by
      intro e
      obtain ⟨inner, hown, _⟩ := h.2
      obtain ⟨cells, hcells⟩ := own_typed hown r e.symm
      rw [ho] at hcells
      cases hcells
      cases hc
    exact Kd.R_mono (Kd.R_grown (Kd.R_far1 h rfl hne) hg (fun k hk e => hk.2 (by injection e))) (fun _ h => h.1)
theorem lineAt_size (r : ByteArray) : (lineAt r).size ≤ r.size := by
  unfold lineAt
  split
  · rw [ByteArray.size_extract]; omega
  · omega
theorem argAt_size (r : ByteArray) : (argAt r).size ≤ r.size := by
  unfold argAt
  split
  · rw [ByteArray.size_extract]; omega
  · exact Nat.zero_le _
theorem trimAt_size (r : ByteArray) : (trimAt r).size ≤ r.size := by
  show (Lib.trimSuffix r.data.toList [10]).toArray.size ≤ r.data.size
  rw [List.size_toArray, ← Array.length_toList]
  unfold Lib.trimSuffix
  split
  · rw [List.length_take]; omega
  · omega
theorem toList_ne {a b : ByteArray} (h : a ≠ b) : (a.toList == b.toList) = false := by
  rw [beq_eq_false_iff_ne]
  intro e
  apply h
  have : a.data.toList = b.data.toList := by simpa [ByteArray.toList_eq] using e
  cases a; cases b
  simpa using this
section
variable (OPf : ByteArray → Option (Int × Bool)) (TXf : List S42 → Option (ByteArray × Int))
def cpOne (x : ByteArray) : Option S42 := (OPf (nameAt (trimAt x))).bind fun p => some ⟨p.1, atoiV (argAt (trimAt x)), 0⟩
def cpL0 : Nat → ByteArray → List S42 → Option (List S42)
  | 0, _, _ => none
  | n + 1, r, acc => if r.size = 0 then some acc else (cpOne OPf (lineAt r)).bind fun x => if 200 < acc.length + 1 then some (acc ++ [x]) else cpL0 n (restAt r) (acc ++ [x])
/-- The activation's own blocks. -/
def PSt (w W : World) (v : Value) (xs : List S42) : Prop :=
  W.heap[w.heap.size]? = some (.cells #[v] 23 (0, 0)) ∧ Below w.heap.size w W ∧ Kd.R k42 42 W w.heap.size (fun k => k ≠ w.heap.size ∧ k ≠ w.heap.size + 1) v xs
theorem PSt.turn {w W W' : World} {v : Value} {xs : List S42} {B : Nat} {row : Option Nat} (h : PSt w W v xs) (hB : w.heap.size < B) (hg : W.grownBy W' row) (hr : ∀ r, row = some r → B ≤ r ∧ ∃ o : Obj, W.heap[r]? = some o ∧ o.isCells = false) : PSt w W' v xs :=
  ⟨blk_grown h.1 hg (fun e => by have := (hr _ e.symm).1; omega), h.2.1.grown hg h.2.1.size (fun k e => by have := (hr _ e).1; omega), R_turn h.2.2 hg (fun r e => (hr r e).2)⟩
theorem PSt.below {w W W' : World} {v : Value} {xs : List S42} (h : PSt w W v xs) (hb : Below W.heap.size W W') : PSt w W' v xs :=
  ⟨blk_below h.1 hb, h.2.1.trans (hb.mono h.2.1.size), Kd.R_below h.2.2 hb⟩
theorem PSt.stp {w W W' : World} {v : Value} {xs : List S42} (h : PSt w W v xs) (hs : Stp (w.heap.size + 1) W W') : PSt w W' v xs := by
  obtain ⟨u, rfl⟩ := hs
  exact ⟨blk_far h.1 (p := ⟨w.heap.size + 1, 0, none⟩) (by show _ ≠ w.heap.size + 1; omega) _, h.2.1.setCell (p := ⟨w.heap.size + 1, 0, none⟩) (by show _ ≤ w.heap.size + 1; omega) _, Kd.R_far (p := ⟨w.heap.size + 1, 0, none⟩) h.2.2 (fun _ h => h.2) _⟩
theorem PSt.app {w W w9 : World} {v v9 : Value} {xs ys : List S42} (hS : PSt w W v xs) (hg : W.grownBy w9 v.ownBlock) (hb : Below w.heap.size w w9) (hR : Kd.R k42 42 w9 w.heap.size (fun k => k ≠ w.heap.size ∧ k ≠ w.heap.size + 1) v9 ys) : PSt w (w9.setCell ⟨w.heap.size, 0, none⟩ v9) v9 ys :=
  ⟨blk_put (blk_grown hS.1 hg (fun e => (hS.2.2.1 _ e.symm).1 rfl)) 0 _ rfl, hb.setCell (p := ⟨w.heap.size, 0, none⟩) (Nat.le_refl _) _, Kd.R_far (p := ⟨w.heap.size, 0, none⟩) hR (fun _ h => h.1) _⟩
theorem PSt.frame {w W W4 w9 : World} {v : Value} {xs : List S42} (h4 : Below W.heap.size W W4) (hS : PSt w W4 v xs) (hg : W4.grownBy w9 v.ownBlock) (u : Value) : KeepsOthers W (w9.setCell ⟨w.heap.size, 0, none⟩ u) ∧ KpB (w.heap.size + 1) W (w9.setCell ⟨w.heap.size, 0, none⟩ u) := by
  refine ⟨?_, ?_⟩
  · refine (KeepsOthers.trans ⟨h4.size, fun k o hk _ => blk_below hk h4⟩ (KeepsOthers.of_grownBy hg ?_)).trans (KeepsOthers.setCell _ _ _)
    intro j o hj ho
    obtain ⟨inner, hown, _⟩ := hS.2.2.2
    obtain ⟨cells, hcells⟩ := own_typed hown j hj
    rw [ho] at hcells
    cases hcells
    rfl
  · intro z hz
    exact blk_far (blk_grown (blk_below hz h4) hg (fun e => (hS.2.2.1 _ e.symm).2 rfl)) (p := ⟨w.heap.size, 0, none⟩) (by show _ ≠ w.heap.size; omega) _
attribute [local go_sem] Oper.semAt_some
set_option maxHeartbeats 4000000 in
set_option maxRecDepth 100000 in
theorem parse_calls (G : World → Prop) (hGb : ∀ w W, G w → Below w.heap.size w W → G W)
    (hop : ∀ x v b w, OPf x = some (v, b) → G w → Calls Tryd.prog 47 #[.string x] w fun e w' => e = .returned (.tuple #[.int .u8 v, .bool b]) ∧ ∃ n, w' = w.drewN n)
    (htx : ∀ A c l r1 r2 w, TXf l = some (r1, r2) → G w → Kd.C k42 w A l.length l → l.length ≤ c → Calls Tryd.prog 14 #[.slice A l.length c] w fun e w' => e = .returned (.tuple #[.string r1, .int .i64 r2]) ∧ Below w.heap.size w w')
    (hat : ∀ x w, x.size ≤ 4000 → G w → Calls Tryd.prog 48 #[.string x] w fun e w' => ∃ ev, e = .returned (.tuple #[.int .i64 (atoiV x), ev]) ∧ (ev = .nilIface ∨ ∃ t p, ev = .iface t p) ∧ Below w.heap.size w w')
    (s : ByteArray) (hs : s.size ≤ 4000) (L : List S42) (tx : ByteArray) (te : Int) (w : World) (hG : G w) (hL : cpL0 OPf 4001 s [] = some L) (hT : TXf L = some (tx, te)) (E : Int) (M : List S42) (hE1 : te = 0 → tx = s → E = 0 ∧ M = L) (hE2 : ¬ (te = 0 ∧ tx = s) → E = 40 ∧ M = []) :
    Calls Tryd.prog 22 #[.string s] w fun e w' => ∃ v, e = .returned (.tuple #[v, .int .i64 E]) ∧ Kd.R k42 42 w' w.heap.size (fun _ => True) v M ∧ Below w.heap.size w w' := by
  refine (callsIn_wide (n := 5)).1 ?_
  refine callsIn_of_wp_marks Tryd.func22 rfl trivial ?_ rfl
  simp only [Tryd.ntmps22, List.size_toArray, List.length_cons, List.length_nil, Nat.reduceAdd, Nat.reduceSub, Array.replicate_succ, Array.replicate_zero, List.push_toArray, List.append_toArray, List.nil_append, List.cons_append]
  gi_wp2_with (first | (refine ⟨trivial, ?_⟩; gi_at_call 44; (refine (lines_in _ _ _).mono ?_); rintro e w2 ⟨rfl, rfl⟩))
  obtain ⟨W0, hW0⟩ : ∃ W0, (w.alloc (.cells #[.slice none 0 0] 23)).alloc (.cells #[.string s] 9) = W0 := ⟨_, rfl⟩
  have hB0 : Below w.heap.size w W0 := by rw [← hW0]; exact below_alloc (below_alloc (Below.refl _ _) _) _
  have hsz : W0.heap.size = w.heap.size + 2 := by rw [← hW0]; simp
  have hbx : Boxed W0 (w.heap.size + 1) 9 (.string s) := by
    rw [← hW0]
    have := blk_new (w.alloc (.cells #[.slice none 0 0] 23)) (.cells #[.string s] 9)
    rwa [World.size_alloc] at this
  have hP0 : PSt w W0 (.slice none 0 0) [] := ⟨by rw [← hW0]; exact blk_alloc (blk_new _ _) _, hB0, Kd.R_nil _ _ _ _ _⟩
  rw [hW0]
  clear hW0
  refine range_state rfl (by omega) (gf := 58) (lb := #[.pointer (some ⟨w.heap.size + 1, 0, none⟩)]) rfl trivial (enters_of Tryd.func58 (by kernel_rfl) rfl)
    (lines_stops (5 - 1) (by omega) (w.heap.size + 1) s hs W0 hbx)
    (fun h1 h2 u h => h2 u (h1 u h))
    (fun W l o o' hl h _ _ u hu => (show _ = _ from (World.putObj_heap_other (by omega)).trans hu))
    (fun W o _ u hu => hu.alloc o) (fun _ => rfl)
    (fun A A' k o hst hk h => by obtain ⟨u, rfl⟩ := hst; exact (Below.heap_setCell A ⟨w.heap.size + 1, 0, none⟩ u k (by show k ≠ w.heap.size + 1; omega)).trans h)
    (fun pre W => (∃ acc v, PSt w W v acc ∧ acc.length = pre.length ∧ acc.length ≤ 200 ∧ cpL0 OPf (4001 - pre.length) (restK s pre.length) acc = some L) ∧ W0.heap.size ≤ W.heap.size)
    (fun c pre W => c = .exit 0 ∧ ∃ v, PSt w W v L)
    (fun pre W W' row hs hg hr => by
      obtain ⟨⟨acc, v, h1, h2⟩, h3⟩ := hs
      exact ⟨⟨acc, v, h1.turn (by omega) hg hr, h2⟩, Nat.le_trans h3 hg.size⟩)
    (fun c pre W W' row hs hg hr => by
      obtain ⟨h0, v, h1⟩ := hs
      exact ⟨h0, v, h1.turn (by omega) hg hr⟩)
    (fun pre W W' hs hst => by
      obtain ⟨⟨acc, v, h1, h2⟩, h3⟩ := hs
      exact ⟨⟨acc, v, h1.stp hst, h2⟩, by obtain ⟨u, rfl⟩ := hst; simpa using h3⟩)
    ⟨⟨[], _, hP0, rfl, by simp, hL⟩, Nat.le_refl _⟩
    (fun x a' _ => a' = { tmps := #[.string s, undef, .slice none 0 0, .int .i64 0, .pointer (some ⟨w.heap.size, 0, none⟩), .string x, undef, undef, undef, undef, undef, undef, undef, undef, undef, .string s, .func (.func 58) #[] #[.pointer (some ⟨w.heap.size + 1, 0, none⟩)], .string x, undef, undef, undef, undef, undef, undef, undef, undef, undef, undef, undef, undef, undef, undef, undef, undef, undef, undef, undef, undef, undef, undef, undef, undef, undef, undef, undef, undef, undef, undef, undef, undef, undef, undef, undef, undef, undef, undef, undef], defers := [] })
    (fun x a' _ W W' row hs hg hr => hs)
    ?assign ?body ?done ?stop
  case assign =>
    rintro l pre x W K ⟨⟨acc, v, hP, hl, h2, hrec⟩, hz⟩ hK
    gi_wp2
    exact hK _ _ (KeepsFrom.refl _ _) (fun u h => h) ⟨⟨acc, v, hP, hl, h2, hrec⟩, hz⟩ rfl
  case body =>
    rintro l pre x a' W hl ⟨r', hr'⟩ ⟨⟨acc, v, hP, hlen, h200, hrec⟩, hz⟩ rfl ⟨k, rfl, rfl, hne, hks⟩
    rw [upto_length] at hlen hrec
    obtain ⟨fu, hfu⟩ : ∃ fu, 4001 - k = fu + 1 := ⟨4000 - k, by omega⟩
    rw [hfu, cpL0, if_neg hne] at hrec
    obtain ⟨y, hy, hrec⟩ := Option.bind_eq_some_iff.mp hrec
    obtain ⟨⟨nb, ib⟩, hnb, hyy⟩ := Option.bind_eq_some_iff.mp hy
    obtain rfl := Option.some.inj hyy
    have hxs : (lineAt (restK s k)).size ≤ 4000 := by have := lineAt_size (restK s k); omega
    have hts : (trimAt (lineAt (restK s k))).size ≤ 4000 := by have := trimAt_size (lineAt (restK s k)); omega
    have has : (argAt (trimAt (lineAt (restK s k)))).size ≤ 4000 := by have := argAt_size (trimAt (lineAt (restK s k))); omega
    have hGW := hGb _ _ hG hP.2.1
    generalize lineAt (restK s k) = x at *
    dsimp only at hnb hrec
    generalize hxt : trimAt x = xt at *
    have HP := Aside0.mk hP
    have HLN := Aside0.mk hlen
    have HL2 := Aside0.mk h200
    clear hP hlen h200
    obtain ⟨Av, cv, rfl⟩ := Kd.R_slice HP.out.2.2
    have hbx := blk_cell HP.out.1 0
    have hbf := blk_frozen HP.out.1 0
    generalize hav : atoiV (argAt xt) = av at *
    by_cases hbig : 200 < acc.length + 1
    · have hgt : decide ((200 : Int) < ((acc.length + 1 : Nat) : Int)) = true := by rw [decide_eq_true_eq]; omega
      gi_wp2_with (first | (refine ⟨trivial, ?_⟩; gi_at_call 46; (refine (callsIn_wide.2 (Tryd.strings_TrimSuffix _ _ _ ?h9)).mono ?_); (case h9 => omega); rintro e w1 ⟨rfl, hw1⟩; obtain rfl := hw1; rw [show (⟨(Lib.trimSuffix x.data.toList (⟨#[10]⟩ : ByteArray).data.toList).toArray⟩ : ByteArray) = xt from hxt]) | (refine ⟨trivial, ?_⟩; gi_at_call 45; (refine (callsIn_wide.2 (cut_calls xt hts _)).mono ?_); rintro e w2 ⟨rfl, n2, rfl⟩) | (refine ⟨trivial, ?_⟩; gi_at_call 47; (refine (callsIn_wide.2 (hop _ nb ib _ hnb (hGb _ _ hGW (pw_below_drewN (Below.refl _ _) _)))).mono ?_); rintro e w3 ⟨rfl, n3, rfl⟩; have P3 := Aside0.mk (HP.out.below (pw_below_drewN (Below.refl _ _) (n2 + n3)))) | (refine ⟨trivial, ?_⟩; gi_at_call 48; (refine (callsIn_wide.2 (hat (argAt xt) _ has (hGb _ _ hG P3.out.2.1))).mono ?_); rintro e w4 ⟨ev, rfl, hev, hb4⟩; rw [hav]; have P4 := Aside0.mk (P3.out.below hb4); have q4 := blk_cell P4.out.1 0; have z4 := blk_frozen P4.out.1 0; have B4 := Aside0.mk ((pw_below_drewN (Below.refl w1.heap.size w1) (n2 + n3)).trans hb4); clear hb4) | (gi_at_builtin; go_loud (refine R_append_in k42 (w0 := w) w.heap.size rfl (.tmp 35) (.tmp 39) 23 42 (.agg #[(.int .u8 0), (.int .i64 0), (.int .i64 0)]) 24 rfl Tryd.underlying23 info42 rfl (by decide) (by omega) (.slice Av acc.length cv) acc (⟨nb, av, 0⟩ : S42) [.int .u8 nb, .int .i64 av, .int .i64 0] (fun k => k ≠ w.heap.size ∧ k ≠ w.heap.size + 1) (fun _ => False) rfl (by first | (go_simp; done) | (go_simp; rfl)) ?aP (fun _ hk => hk.elim) ?aF P4.out.2.2 P4.out.2.1 P4.out.2.1.size ?aL ?_); (case aP => exact k42_mkM _ _ _ (⟨nb, av, 0⟩ : S42)); (case aF => exact fun k_ hk_ => by have := B4.out.size; refine ⟨by omega, by omega⟩); (case aL => have := HL2.out; omega); intro v9 w9 ho hb9 hg9 hat9; obtain ⟨A9, c9, rfl⟩ := Kd.R_slice ho; rw [List.length_append, List.length_singleton] at ho; have hN := blk_grown P4.out.1 hg9 (fun e => (P4.out.2.2.1 _ e.symm).1 rfl); have n90 := blk_cell hN 0; have z90 := blk_frozen hN 0; have S9 := Aside0.mk (PSt.app P4.out hg9 hb9 ho); have q9 := blk_cell S9.out.1 0; have F9 := Aside0.mk (PSt.frame B4.out P4.out hg9 (.slice A9 (acc.length + 1) c9)); clear hN ho hb9 hg9 hat9))
      rw [if_pos hbig] at hrec
      obtain rfl := Option.some.inj hrec
      exact ⟨F9.out.1.from _, rfl, _, S9.out⟩
    · have hgt : decide ((200 : Int) < ((acc.length + 1 : Nat) : Int)) = false := by rw [decide_eq_false_iff_not]; omega
      gi_wp2_with (first | (refine ⟨trivial, ?_⟩; gi_at_call 46; (refine (callsIn_wide.2 (Tryd.strings_TrimSuffix _ _ _ ?h9)).mono ?_); (case h9 => omega); rintro e w1 ⟨rfl, hw1⟩; obtain rfl := hw1; rw [show (⟨(Lib.trimSuffix x.data.toList (⟨#[10]⟩ : ByteArray).data.toList).toArray⟩ : ByteArray) = xt from hxt]) | (refine ⟨trivial, ?_⟩; gi_at_call 45; (refine (callsIn_wide.2 (cut_calls xt hts _)).mono ?_); rintro e w2 ⟨rfl, n2, rfl⟩) | (refine ⟨trivial, ?_⟩; gi_at_call 47; (refine (callsIn_wide.2 (hop _ nb ib _ hnb (hGb _ _ hGW (pw_below_drewN (Below.refl _ _) _)))).mono ?_); rintro e w3 ⟨rfl, n3, rfl⟩; have P3 := Aside0.mk (HP.out.below (pw_below_drewN (Below.refl _ _) (n2 + n3)))) | (refine ⟨trivial, ?_⟩; gi_at_call 48; (refine (callsIn_wide.2 (hat (argAt xt) _ has (hGb _ _ hG P3.out.2.1))).mono ?_); rintro e w4 ⟨ev, rfl, hev, hb4⟩; rw [hav]; have P4 := Aside0.mk (P3.out.below hb4); have q4 := blk_cell P4.out.1 0; have z4 := blk_frozen P4.out.1 0; have B4 := Aside0.mk ((pw_below_drewN (Below.refl w1.heap.size w1) (n2 + n3)).trans hb4); clear hb4) | (gi_at_builtin; go_loud (refine R_append_in k42 (w0 := w) w.heap.size rfl (.tmp 35) (.tmp 39) 23 42 (.agg #[(.int .u8 0), (.int .i64 0), (.int .i64 0)]) 24 rfl Tryd.underlying23 info42 rfl (by decide) (by omega) (.slice Av acc.length cv) acc (⟨nb, av, 0⟩ : S42) [.int .u8 nb, .int .i64 av, .int .i64 0] (fun k => k ≠ w.heap.size ∧ k ≠ w.heap.size + 1) (fun _ => False) rfl (by first | (go_simp; done) | (go_simp; rfl)) ?aP (fun _ hk => hk.elim) ?aF P4.out.2.2 P4.out.2.1 P4.out.2.1.size ?aL ?_); (case aP => exact k42_mkM _ _ _ (⟨nb, av, 0⟩ : S42)); (case aF => exact fun k_ hk_ => by have := B4.out.size; refine ⟨by omega, by omega⟩); (case aL => have := HL2.out; omega); intro v9 w9 ho hb9 hg9 hat9; obtain ⟨A9, c9, rfl⟩ := Kd.R_slice ho; rw [List.length_append, List.length_singleton] at ho; have hN := blk_grown P4.out.1 hg9 (fun e => (P4.out.2.2.1 _ e.symm).1 rfl); have n90 := blk_cell hN 0; have z90 := blk_frozen hN 0; have S9 := Aside0.mk (PSt.app P4.out hg9 hb9 ho); have q9 := blk_cell S9.out.1 0; have F9 := Aside0.mk (PSt.frame B4.out P4.out hg9 (.slice A9 (acc.length + 1) c9)); clear hN ho hb9 hg9 hat9))
      rw [if_neg hbig] at hrec
      refine ⟨F9.out.1.from _, F9.out.2, ⟨_, _, S9.out, by simp [upto_length, HLN.out], by rw [List.length_append, List.length_singleton]; omega, ?_⟩, ?_⟩
      · rw [List.length_append, List.length_singleton, upto_length, show 4001 - (k + 1) = fu by omega]
        exact hrec
      · exact Nat.le_trans hz F9.out.1.size
  case done =>
    rintro D ys W hD ⟨k, rfl, hz0, hks⟩ ⟨⟨acc, v, hP, hlen, h200, hrec⟩, hz⟩ hK
    rw [upto_length] at hlen hrec
    obtain ⟨fu, hfu⟩ : ∃ fu, 4001 - k = fu + 1 := ⟨4000 - k, by omega⟩
    rw [hfu, cpL0, if_pos hz0] at hrec
    obtain rfl := Option.some.inj hrec
    have HP := Aside0.mk hP
    have HK := Aside0.mk hK
    have HD := Aside0.mk hD
    clear hP hK hlen h200 hks hfu hD
    obtain ⟨Av, cv, rfl⟩ := Kd.R_slice HP.out.2.2
    have hbx := blk_cell HP.out.1 0
    have hbf := blk_frozen HP.out.1 0
    have hC := Aside0.mk (Kd.R_reads' HP.out.2.2).2
    by_cases hte : te = 0
    · subst hte
      by_cases htx2 : tx = s
      · subst htx2
        obtain ⟨rfl, hM⟩ := hE1 rfl rfl
        obtain rfl := hM.symm
        gi_wp2_with (first | (refine ⟨trivial, ?_⟩; gi_at_call 14; (refine (callsIn_wide.2 (htx Av cv acc tx 0 _ hT (hGb _ _ hG HP.out.2.1) hC.out.2 hC.out.1)).mono ?_); rintro e w2 ⟨rfl, hb2⟩; have P2 := Aside0.mk (HP.out.below hb2); have K2 := Aside0.mk (blk_below HK.out hb2); have q2 := blk_cell P2.out.1 0; have z2 := blk_frozen P2.out.1 0; clear hb2))
        refine ⟨by simp, .inl ⟨_, _, rfl, run_takeDeferred K2.out, ?_⟩⟩
        refine ⟨.tuple #[.slice Av acc.length cv, .int .i64 0], by simp [results, Tryd.f22, go_sem], _, rfl, Kd.R_mono (R_turn P2.out.2.2 (grownBy_putObj' _ D (.deferred none)) (fun r e => by cases e; exact ⟨_, K2.out, rfl⟩)) (fun _ _ => trivial), (P2.out.2.1).trans (belowK_b (w := w) (Nat.le_refl _) _ D _ _ (by have := HD.out; omega) K2.out rfl rfl)⟩
      · obtain ⟨rfl, rfl⟩ := hE2 (fun h => htx2 h.2)
        have hne : (tx.toList == s.toList) = false := toList_ne htx2
        gi_wp2_with (first | (refine ⟨trivial, ?_⟩; gi_at_call 14; (refine (callsIn_wide.2 (htx Av cv acc tx 0 _ hT (hGb _ _ hG HP.out.2.1) hC.out.2 hC.out.1)).mono ?_); rintro e w2 ⟨rfl, hb2⟩; have P2 := Aside0.mk (HP.out.below hb2); have K2 := Aside0.mk (blk_below HK.out hb2); have q2 := blk_cell P2.out.1 0; have z2 := blk_frozen P2.out.1 0; clear hb2))
        refine ⟨by simp, .inl ⟨_, _, rfl, run_takeDeferred K2.out, ?_⟩⟩
        refine ⟨.tuple #[.slice none 0 0, .int .i64 40], by simp [results, Tryd.f22, go_sem], _, rfl, Kd.R_nil _ _ _ _ _, (P2.out.2.1).trans (belowK_b (w := w) (Nat.le_refl _) _ D _ _ (by have := HD.out; omega) K2.out rfl rfl)⟩
    · have hne : (te != 0) = true := by rw [bne_iff_ne]; exact hte
      obtain ⟨rfl, rfl⟩ := hE2 (fun h => hte h.1)
      gi_wp2_with (first | (refine ⟨trivial, ?_⟩; gi_at_call 14; (refine (callsIn_wide.2 (htx Av cv acc tx te _ hT (hGb _ _ hG HP.out.2.1) hC.out.2 hC.out.1)).mono ?_); rintro e w2 ⟨rfl, hb2⟩; have P2 := Aside0.mk (HP.out.below hb2); have K2 := Aside0.mk (blk_below HK.out hb2); have q2 := blk_cell P2.out.1 0; have z2 := blk_frozen P2.out.1 0; clear hb2))
      refine ⟨by simp, .inl ⟨_, _, rfl, run_takeDeferred K2.out, ?_⟩⟩
      refine ⟨.tuple #[.slice none 0 0, .int .i64 40], by simp [results, Tryd.f22, go_sem], _, rfl, Kd.R_nil _ _ _ _ _, (P2.out.2.1).trans (belowK_b (w := w) (Nat.le_refl _) _ D _ _ (by have := HD.out; omega) K2.out rfl rfl)⟩
  case stop =>
    rintro D c pre W hD ⟨kk, rfl⟩ ⟨rfl, v, hP⟩ hK
    have HP := Aside0.mk hP
    have HK := Aside0.mk hK
    have HD := Aside0.mk hD
    clear hP hK hD
    obtain ⟨Av, cv, rfl⟩ := Kd.R_slice HP.out.2.2
    have hbx := blk_cell HP.out.1 0
    have hbf := blk_frozen HP.out.1 0
    have hC := Aside0.mk (Kd.R_reads' HP.out.2.2).2
    by_cases hte : te = 0
    · subst hte
      by_cases htx2 : tx = s
      · subst htx2
        obtain ⟨rfl, hM⟩ := hE1 rfl rfl
        obtain rfl := hM.symm
        gi_wp2_with (first | (refine ⟨trivial, ?_⟩; gi_at_call 14; (refine (callsIn_wide.2 (htx Av cv L tx 0 _ hT (hGb _ _ hG HP.out.2.1) hC.out.2 hC.out.1)).mono ?_); rintro e w2 ⟨rfl, hb2⟩; have P2 := Aside0.mk (HP.out.below hb2); have K2 := Aside0.mk (blk_below HK.out hb2); have q2 := blk_cell P2.out.1 0; have z2 := blk_frozen P2.out.1 0; clear hb2))
        refine ⟨by simp, .inl ⟨_, _, rfl, run_takeDeferred K2.out, ?_⟩⟩
        refine ⟨.tuple #[.slice Av L.length cv, .int .i64 0], by simp [results, Tryd.f22, go_sem], _, rfl, Kd.R_mono (R_turn P2.out.2.2 (grownBy_putObj' _ D (.deferred none)) (fun r e => by cases e; exact ⟨_, K2.out, rfl⟩)) (fun _ _ => trivial), (P2.out.2.1).trans (belowK_b (w := w) (Nat.le_refl _) _ D _ _ (by have := HD.out; omega) K2.out rfl rfl)⟩
      · obtain ⟨rfl, rfl⟩ := hE2 (fun h => htx2 h.2)
        have hne : (tx.toList == s.toList) = false := toList_ne htx2
        gi_wp2_with (first | (refine ⟨trivial, ?_⟩; gi_at_call 14; (refine (callsIn_wide.2 (htx Av cv L tx 0 _ hT (hGb _ _ hG HP.out.2.1) hC.out.2 hC.out.1)).mono ?_); rintro e w2 ⟨rfl, hb2⟩; have P2 := Aside0.mk (HP.out.below hb2); have K2 := Aside0.mk (blk_below HK.out hb2); have q2 := blk_cell P2.out.1 0; have z2 := blk_frozen P2.out.1 0; clear hb2))
        refine ⟨by simp, .inl ⟨_, _, rfl, run_takeDeferred K2.out, ?_⟩⟩
        refine ⟨.tuple #[.slice none 0 0, .int .i64 40], by simp [results, Tryd.f22, go_sem], _, rfl, Kd.R_nil _ _ _ _ _, (P2.out.2.1).trans (belowK_b (w := w) (Nat.le_refl _) _ D _ _ (by have := HD.out; omega) K2.out rfl rfl)⟩
    · have hne : (te != 0) = true := by rw [bne_iff_ne]; exact hte
      obtain ⟨rfl, rfl⟩ := hE2 (fun h => hte h.1)
      gi_wp2_with (first | (refine ⟨trivial, ?_⟩; gi_at_call 14; (refine (callsIn_wide.2 (htx Av cv L tx te _ hT (hGb _ _ hG HP.out.2.1) hC.out.2 hC.out.1)).mono ?_); rintro e w2 ⟨rfl, hb2⟩; have P2 := Aside0.mk (HP.out.below hb2); have K2 := Aside0.mk (blk_below HK.out hb2); have q2 := blk_cell P2.out.1 0; have z2 := blk_frozen P2.out.1 0; clear hb2))
      refine ⟨by simp, .inl ⟨_, _, rfl, run_takeDeferred K2.out, ?_⟩⟩
      refine ⟨.tuple #[.slice none 0 0, .int .i64 40], by simp [results, Tryd.f22, go_sem], _, rfl, Kd.R_nil _ _ _ _ _, (P2.out.2.1).trans (belowK_b (w := w) (Nat.le_refl _) _ D _ _ (by have := HD.out; omega) K2.out rfl rfl)⟩
end
def code_Parse.f (k : Nat) (s : ByteArray) : Option (List S42 × Int) := if s.size ≤ 4000 then (cpL0 (op_Parse.f k) 4001 s []).bind fun L => (code_Text.f k L).bind fun t => if t.2 = 0 ∧ t.1 = s then some (L, 0) else some ([], 40) else none
theorem cpL0_mono (O1 O2 : ByteArray → Option (Int × Bool)) (hO : ∀ x, LeO (O1 x) (O2 x)) : ∀ n r acc, LeO (cpL0 O1 n r acc) (cpL0 O2 n r acc) := by
  intro n
  induction n with
  | zero => intro r acc; exact LeO.refl _
  | succ n ih =>
    intro r acc
    simp only [cpL0]
    refine LeO.ite (LeO.refl _) (LeO.bind ?_ fun x => LeO.ite (LeO.refl _) (ih _ _))
    unfold cpOne
    exact LeO.bind (hO _) fun _ => LeO.refl _
theorem code_Parse.mono : ∀ a0 k, LeO (code_Parse.f k a0) (code_Parse.f (k + 1) a0) := by
  intro s k
  unfold code_Parse.f
  exact LeO.ite (LeO.bind (cpL0_mono _ _ (fun x => op_Parse.mono _ _) _ _ _) fun L => LeO.bind (code_Text.mono _ _) fun t => LeO.refl _) (LeO.refl _)
theorem code_Parse.calls (k : Nat) (a0 : ByteArray) (r1 : List (S42)) (r2 : Int) (w : World) (hG : Gl w) (h : code_Parse.f k a0 = some (r1, r2)) :
    Calls Tryd.prog 22 #[.string a0] w fun e w' => ∃ v0_ : Value, e = .returned (.tuple #[v0_, .int .i64 r2]) ∧ Kd.R k42 42 w' w.heap.size (fun _ => True) v0_ r1 ∧ Below w.heap.size w w' := by
  unfold code_Parse.f at h
  by_cases hs : a0.size ≤ 4000
  case neg => rw [if_neg hs] at h; cases h
  rw [if_pos hs] at h
  obtain ⟨L, hL, h⟩ := Option.bind_eq_some_iff.mp h
  obtain ⟨⟨tx, te⟩, hT, h⟩ := Option.bind_eq_some_iff.mp h
  dsimp only at h
  refine parse_calls (op_Parse.f k) (code_Text.f k) Gl (fun w W h hb => h.below hb) ?_ ?_ ?_ a0 hs L tx te w hG hL hT r2 r1 ?_ ?_
  · intro x v b w hx hG'
    refine (op_Parse.calls k x v b w hG' hx).mono ?_
    rintro e w' ⟨rfl, hd⟩
    exact ⟨rfl, hd.out⟩
  · intro A c l r1 r2 w hx hG' hC hc
    refine (code_Text.calls k A c l r1 r2 w hG' hC hc hx).mono ?_
    rintro e w' ⟨rfl, hd⟩
    exact ⟨rfl, hd⟩
  · intro x w hx hG'
    obtain ⟨e1, q1, y1⟩ := hG'.e3
    obtain ⟨e2, q2, y2⟩ := hG'.e4
    exact atoi_calls x hx w e1 e2 q1 q2 y1 y2
  · intro h1 h2
    rw [if_pos ⟨h1, h2⟩] at h
    simp only [Option.some.injEq, Prod.mk.injEq] at h
    exact ⟨h.2.symm, h.1.symm⟩
  · intro h1
    rw [if_neg h1] at h
    simp only [Option.some.injEq, Prod.mk.injEq] at h
    exact ⟨h.2.symm, h.1.symm⟩

end Go.Proofs.YtdfjjooejfgglaaDoor.Y
