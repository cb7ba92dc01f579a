/- What a text of lines is: list-level laws of strings.Lines, Cut, TrimSuffix, Atoi as they are told at this seat. -/
import Derived.Test.YtdfjjooejfgglaaDoorY5
import Derived.Test.YtdfjjooejfgglaaDoorY6
import Derived.Test.YtdfjjooejfgglaaDoorLCodeN
namespace Go.Proofs.YtdfjjooejfgglaaDoor.M
open Go Go.RowKit Go.Proofs.YtdfjjooejfgglaaDoor.Y Go.Proofs.YtdfjjooejfgglaaDoorW.PrintWords Go.Proofs.YtdfjjooejfgglaaDoorW.PrintLast Go.Proofs.YtdfjjooejfgglaaDoorW.PrintMore
theorem parse_here (k : Nat) (s : ByteArray) : code_Parse.f k s = code_Parse.f k s := rfl
theorem ib_none {l : List UInt8} {c : UInt8} (h : ∀ x ∈ l, x ≠ c) : Lib.indexByte l c = -1 := by
  induction l with
  | nil => rfl
  | cons b l ih =>
    rw [Lib.indexByte, if_neg (by simpa using h b List.mem_cons_self), ih (fun x hx => h x (List.mem_cons_of_mem _ hx))]
    rfl
theorem ib_some {a b : List UInt8} {c : UInt8} (h : ∀ x ∈ a, x ≠ c) : Lib.indexByte (a ++ c :: b) c = (a.length : Int) := by
  induction a with
  | nil => simp [Lib.indexByte]
  | cons x a ih =>
    rw [List.cons_append, Lib.indexByte, if_neg (by simpa using h x List.mem_cons_self), ih (fun y hy => h y (List.mem_cons_of_mem _ hy)), if_neg (by simp <;> omega)]
    simp
theorem ba_extract (l : List UInt8) (i j : Nat) : (⟨l.toArray⟩ : ByteArray).extract i j = ⟨((l.take j).drop i).toArray⟩ := by
  apply ByteArray.ext
  apply Array.toList_inj.1
  rw [ByteArray.data_extract]
  simp [List.extract_eq_take_drop, List.drop_take]
theorem ba_eta (s : ByteArray) : s = ⟨s.data.toList.toArray⟩ := by apply ByteArray.ext; simp
theorem line_mid {a b : List UInt8} (h : ∀ x ∈ a, x ≠ 10) : lineAt ⟨(a ++ 10 :: b).toArray⟩ = ⟨(a ++ [10]).toArray⟩ ∧ restAt ⟨(a ++ 10 :: b).toArray⟩ = ⟨b.toArray⟩ := by
  have hi : Lib.indexByte (⟨(a ++ 10 :: b).toArray⟩ : ByteArray).data.toList 10 = (a.length : Int) := ib_some h
  unfold lineAt restAt
  rw [hi, if_pos (by omega), if_pos (by omega), ba_extract, ba_extract]
  constructor
  · congr 2
    rw [show ((a.length : Int).toNat + 1) = (a ++ [10]).length by simp, show a ++ 10 :: b = (a ++ [10]) ++ b by simp, List.take_left, List.drop_zero]
  · congr 2
    rw [show ((a.length : Int).toNat + 1) = (a ++ [10]).length by simp, show a ++ 10 :: b = (a ++ [10]) ++ b by simp, List.drop_take]
    simp [ByteArray.size]
    exact List.take_of_length_le (by omega)
theorem trim_line (a : List UInt8) : trimAt ⟨(a ++ [10]).toArray⟩ = ⟨a.toArray⟩ := by
  unfold trimAt Lib.trimSuffix Lib.hasSuffix
  have : ([10] : List UInt8).isSuffixOf (a ++ [10]) = true := by rw [List.isSuffixOf_iff_suffix]; exact ⟨a, rfl⟩
  rw [if_pos this]
  simp
theorem cut_bare {a : List UInt8} (h : ∀ x ∈ a, x ≠ 32) : nameAt ⟨a.toArray⟩ = ⟨a.toArray⟩ ∧ argAt ⟨a.toArray⟩ = ⟨#[]⟩ := by
  have hi : Lib.indexByte (⟨a.toArray⟩ : ByteArray).data.toList 32 = -1 := ib_none h
  unfold nameAt argAt
  rw [hi, if_neg (by decide), if_neg (by decide)]
  exact ⟨rfl, rfl⟩
theorem cut_mid {a b : List UInt8} (h : ∀ x ∈ a, x ≠ 32) : nameAt ⟨(a ++ 32 :: b).toArray⟩ = ⟨a.toArray⟩ ∧ argAt ⟨(a ++ 32 :: b).toArray⟩ = ⟨b.toArray⟩ := by
  have hi : Lib.indexByte (⟨(a ++ 32 :: b).toArray⟩ : ByteArray).data.toList 32 = (a.length : Int) := ib_some h
  unfold nameAt argAt
  rw [hi, if_pos (by omega), if_pos (by omega), ba_extract, ba_extract]
  constructor
  · congr 2
    simp
  · congr 2
    rw [show ((a.length : Int).toNat + 1) = (a ++ [32]).length by simp, show a ++ 32 :: b = (a ++ [32]) ++ b by simp, List.drop_take]
    simp [ByteArray.size]
    exact List.take_of_length_le (by omega)
/-- An instruction's line, without its end. -/
def ibody (x : IN) : List UInt8 := nameb x.f0 ++ (if (bnd x.f0).2 > 0 then 32 :: Lib.itoa x.f1 else [])
theorem name_bytes : ∀ n : Fin 256, (nameb ((n : Nat) : Int)).all (fun c => c != 10 && c != 32) = true := by decide +kernel
theorem digit_bytes : ∀ n : Fin 1025, (Lib.itoa ((n : Nat) : Int)).all (fun c => c != 10 && c != 32) = true ∧ (match Lib.atoiAll (Lib.itoa ((n : Nat) : Int)) with | .ok v => v == ((n : Nat) : Int) | _ => false) = true := by decide +kernel
theorem name_of (x : IN) (hx : 0 ≤ x.f0 ∧ x.f0 ≤ 255) : ∀ c ∈ nameb x.f0, c ≠ 10 ∧ c ≠ 32 := by
  obtain ⟨n, hn⟩ := byte_fin hx
  intro c hc
  rw [hn] at hc
  have := List.all_eq_true.1 (name_bytes n) c hc
  simpa using this
theorem digit_of {a : Int} (h : 0 ≤ a ∧ a ≤ 1024) : (∀ c ∈ Lib.itoa a, c ≠ 10 ∧ c ≠ 32) ∧ atoiV ⟨(Lib.itoa a).toArray⟩ = a := by
  obtain ⟨n, hn⟩ : ∃ n : Fin 1025, a = ((n : Nat) : Int) := ⟨⟨a.toNat, by omega⟩, by simp; omega⟩
  obtain ⟨h1, h2⟩ := digit_bytes n
  rw [hn]
  refine ⟨fun c hc => by have := List.all_eq_true.1 h1 c hc; simpa using this, ?_⟩
  show (match Lib.atoiAll (Lib.itoa ((n : Nat) : Int)) with | .ok v => v | .range => Lib.atoiSat _ | _ => 0) = _
  revert h2
  cases Lib.atoiAll (Lib.itoa ((n : Nat) : Int)) <;> simp
theorem body_bytes {x : IN} (hx : 0 ≤ x.f0 ∧ x.f0 ≤ 255) (hm : imays x = true) : ∀ c ∈ ibody x, c ≠ 10 := by
  obtain ⟨i1, i2, i3, i4, i5, i6⟩ := imays_inv hm hx
  intro c hc
  unfold ibody at hc
  rcases List.mem_append.1 hc with h | h
  · exact (name_of x hx c h).1
  · by_cases hw : (bnd x.f0).2 > 0
    · rw [if_pos hw] at h
      rcases List.mem_cons.1 h with rfl | h
      · decide
      · exact ((digit_of ⟨i2, i3⟩).1 c h).1
    · rw [if_neg hw] at h; cases h
theorem body_length {x : IN} (hx : 0 ≤ x.f0 ∧ x.f0 ≤ 255) (hm : imays x = true) : (itext x).length ≤ 16 := by
  obtain ⟨i1, i2, i3, i4, i5, i6⟩ := imays_inv hm hx
  obtain ⟨n, hn⟩ := byte_fin hx
  obtain ⟨_, n3⟩ := name_own n
  rw [← hn] at n3
  have hd := itoa_len ⟨i2, i3⟩
  unfold itext
  by_cases hw : (bnd x.f0).2 > 0
  · rw [if_pos hw]; simp; omega
  · rw [if_neg hw]; simp; omega
theorem text_length {l : List IN} (hI : isI l) (ha : l.all imays = true) : (l.flatMap itext).length ≤ 16 * l.length := by
  induction l with
  | nil => simp
  | cons x t ih =>
    rw [List.all_cons, Bool.and_eq_true] at ha
    have h1 := body_length (hI x List.mem_cons_self) ha.1
    have h2 := ih (fun z hz => hI z (List.mem_cons_of_mem _ hz)) ha.2
    rw [List.flatMap_cons, List.length_append, List.length_cons]
    omega
theorem opparse_all : ∀ n : Fin 33, op_Parse.f 40 ⟨(nameb ((n : Nat) : Int)).toArray⟩ = some (((n : Nat) : Int), true) := by decide +kernel
theorem opparse_f {x : IN} (hx : 0 ≤ x.f0 ∧ x.f0 < 33) (k : Nat) (hk : 40 ≤ k) : op_Parse.f k ⟨(nameb x.f0).toArray⟩ = some (x.f0, true) := by
  obtain ⟨n, hn⟩ : ∃ n : Fin 33, x.f0 = ((n : Nat) : Int) := ⟨⟨x.f0.toNat, by omega⟩, by simp; omega⟩
  rw [hn]
  exact op_up (fun k => op_Parse.mono _ k) (opparse_all n) k hk
/-- What a line of code's text is read as. -/
theorem one_line {x : IN} (hx : 0 ≤ x.f0 ∧ x.f0 ≤ 255) (hm : imays x = true) (k : Nat) (hk : 40 ≤ k) : cpOne (op_Parse.f k) ⟨(ibody x ++ [10]).toArray⟩ = some x := by
  obtain ⟨i1, i2, i3, i4, i5, i6⟩ := imays_inv hm hx
  have hn := fun c hc => (name_of x hx c hc).2
  have ex : x = ⟨x.f0, x.f1, 0⟩ := by rw [← i4]
  unfold cpOne
  rw [trim_line]
  unfold ibody
  by_cases hw : (bnd x.f0).2 > 0
  · rw [if_pos hw, (cut_mid hn).1, (cut_mid hn).2, opparse_f ⟨hx.1, i1⟩ k hk, Option.bind_some, (digit_of ⟨i2, i3⟩).2, ← ex]
  · rw [if_neg hw, List.append_nil, (cut_bare hn).1, (cut_bare hn).2, opparse_f ⟨hx.1, i1⟩ k hk, Option.bind_some, show atoiV ⟨#[]⟩ = 0 from rfl]
    have h0 := i6 hw
    rw [h0] at ex
    rw [← ex]
/-- Code's text is read as the code. -/
theorem lines_run (k : Nat) (hk : 40 ≤ k) : ∀ (t acc : List IN) (n : Nat), isI t → t.all imays = true → t.length < n → acc.length + t.length ≤ 200 → cpL0 (op_Parse.f k) n ⟨(t.flatMap itext).toArray⟩ acc = some (acc ++ t) := by
  intro t
  induction t with
  | nil =>
    intro acc n _ _ hn _
    obtain ⟨n, rfl⟩ : ∃ m, n = m + 1 := ⟨n - 1, by omega⟩
    rw [cpL0, if_pos (by rw [ba_size]; rfl), List.append_nil]
  | cons x t ih =>
    intro acc n hI ha hn hl
    obtain ⟨n, rfl⟩ : ∃ m, n = m + 1 := ⟨n - 1, by omega⟩
    rw [List.all_cons, Bool.and_eq_true] at ha
    have hx := hI x List.mem_cons_self
    have e : (x :: t).flatMap itext = ibody x ++ 10 :: t.flatMap itext := by
      rw [List.flatMap_cons]
      show (ibody x ++ [10]) ++ _ = _
      rw [List.append_assoc]; rfl
    rw [List.length_cons] at hn hl
    rw [e, cpL0, if_neg (by rw [ba_size]; simp), (line_mid (body_bytes hx ha.1)).1, (line_mid (body_bytes hx ha.1)).2, one_line hx ha.1 k hk, Option.bind_some, if_neg (by omega), ih (acc ++ [x]) n (fun z hz => hI z (List.mem_cons_of_mem _ hz)) ha.2 (by omega) (by simp; omega), List.append_assoc]
    rfl
theorem strIndex_l0 (l : List ByteArray) (hl : l.length ≤ 1000) (s : ByteArray) (d : Nat) : ∀ (k i : Nat), i + d = l.length → d < k → ∃ r, slices_Index_string_string.l0 k l s (l.length : Int) i = some r ∧ -1 ≤ r ∧ r < (l.length : Int) := by
  induction d with
  | zero =>
    intro k i hi hk
    obtain ⟨k, rfl⟩ : ∃ n, k = n + 1 := ⟨k - 1, by omega⟩
    simp only [slices_Index_string_string.l0]
    rw [if_neg (by omega)]
    exact ⟨-1, rfl, by omega, by omega⟩
  | succ d ih =>
    intro k i hi hk
    obtain ⟨k, rfl⟩ : ∃ n, k = n + 1 := ⟨k - 1, by omega⟩
    simp only [slices_Index_string_string.l0]
    rw [if_pos (by omega), if_pos (by omega), if_pos (by omega)]
    by_cases h : s.toList = (rdOf ByteArray.empty l (i : Int)).toList
    · rw [if_pos h]
      exact ⟨(i : Int), rfl, by omega, by omega⟩
    · rw [if_neg h, wrap64_id (by omega) (by omega)]
      exact ih k (i + 1) (by omega) (by omega)
theorem opparse_tot (s : ByteArray) (k : Nat) (hk : 40 ≤ k) : ∃ v b, op_Parse.f k s = some (v, b) ∧ 0 ≤ v ∧ v ≤ 255 := by
  have hL : gl0.length = 33 := rfl
  obtain ⟨r, h1, h2, h4⟩ := strIndex_l0 gl0 (by omega) s 33 k 0 (by omega) (by omega)
  have h3 : slices_Index_string_string.f k gl0 s = some r := h1
  unfold op_Parse.f
  rw [h3, Option.bind_some]
  by_cases c : r < 0
  · rw [if_pos c]; exact ⟨_, _, rfl, by omega, by omega⟩
  · rw [if_neg c, if_pos (by omega)]; exact ⟨_, _, rfl, by omega, by omega⟩
theorem rest_size {s : ByteArray} (h : s.size ≠ 0) : (restAt s).size < s.size := by
  unfold restAt
  split
  · rw [ByteArray.size_extract]; omega
  · show 0 < s.size
    omega
/-- Any text is read as some instructions. -/
theorem lines_tot (k : Nat) (hk : 40 ≤ k) : ∀ (n : Nat) (s : ByteArray) (acc : List IN), s.size < n → isI acc → acc.length ≤ 200 → ∃ L, cpL0 (op_Parse.f k) n s acc = some L ∧ isI L ∧ L.length ≤ 201 := by
  intro n
  induction n with
  | zero => intro s acc h; omega
  | succ n ih =>
    intro s acc hs hI hl
    rw [cpL0]
    by_cases h0 : s.size = 0
    · rw [if_pos h0]; exact ⟨acc, rfl, hI, by omega⟩
    rw [if_neg h0]
    obtain ⟨v, b, h1, h2⟩ := opparse_tot (nameAt (trimAt (lineAt s))) k hk
    unfold cpOne
    rw [h1, Option.bind_some, Option.bind_some]
    have hI2 : isI (acc ++ [(⟨v, atoiV (argAt (trimAt (lineAt s))), 0⟩ : IN)]) := by
      intro z hz
      rcases List.mem_append.1 hz with hz | hz
      · exact hI z hz
      · obtain rfl := List.mem_singleton.1 hz
        exact h2
    by_cases h200 : 200 < acc.length + 1
    · rw [if_pos h200]; exact ⟨_, rfl, hI2, by simp; omega⟩
    · rw [if_neg h200]
      exact ih _ _ (by have := rest_size h0; omega) hI2 (by simp; omega)
end Go.Proofs.YtdfjjooejfgglaaDoor.M
