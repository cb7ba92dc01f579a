/- CodeTells: any instructions may be code, and have the bytes and the text, that the chapter says. -/
import Derived.Test.YtdfjjooejfgglaaDoorQ2
import Derived.Test.YtdfjjooejfgglaaDoorQ3
import Derived.Test.YtdfjjooejfgglaaDoorQ5
import Derived.Test.YtdfjjooejfgglaaDoorQ6
import Derived.Test.YtdfjjooejfgglaaDoorQ7
import Derived.Test.YtdfjjooejfgglaaDoorQ8
import Derived.Test.YtdfjjooejfgglaaDoorLCode3
namespace Go.Proofs.YtdfjjooejfgglaaDoor.Pure
open Go.RowKit Go.Proofs.YtdfjjooejfgglaaDoor.Q Go.Proofs.YtdfjjooejfgglaaDoor.M Go.Proofs.YtdfjjooejfgglaaDoorW.PrintWords Go.Proofs.YtdfjjooejfgglaaDoorW.PrintLast Go.Proofs.YtdfjjooejfgglaaDoorW.PrintMore

theorem tBnd_all : ∀ n : Fin 256, capstanref04_Bounds.f 5 ((n : Nat) : Int) = some (bnd ((n : Nat) : Int)) := by decide +kernel
theorem tBnd_f (n : Fin 256) (k : Nat) (hk : 5 ≤ k) : capstanref04_Bounds.f k ((n : Nat) : Int) = some (bnd ((n : Nat) : Int)) := op_up (fun k => capstanref04_Bounds.mono _ k) (tBnd_all n) k hk
theorem tWide_f (x : IN) (hx : 0 ≤ x.f0 ∧ x.f0 ≤ 255) (k : Nat) (hk : 5 ≤ k) : capstanref05_Wide.f k x.f0 = some (decide ((bnd x.f0).2 > 0)) := by
  obtain ⟨n, hn⟩ := byte_fin hx
  unfold capstanref05_Wide.f
  rw [hn, tBnd_f n k hk, Option.bind_some]
theorem tMay_f (x : IN) (hx : 0 ≤ x.f0 ∧ x.f0 ≤ 255) (k : Nat) (hk : 5 ≤ k) : capstanref04_May.f k x.f0 x.f1 x.f2 = some (imays x) := by
  obtain ⟨n, hn⟩ := byte_fin hx
  unfold capstanref04_May.f imays
  rw [hn, tBnd_f n k hk, Option.bind_some]
  by_cases h2 : x.f2 = 0
  · rw [if_pos h2]
    by_cases h : (bnd ((n : Nat) : Int)).1 ≤ x.f1
    · rw [if_pos h, decide_eq_true h, Bool.true_and, h2]
      simp
    · rw [if_neg h, decide_eq_false h, Bool.false_and]
  · rw [if_neg h2, beq_eq_false_iff_ne.mpr h2, Bool.and_false, Bool.and_false]
theorem tMay_l0 (l : List IN) (hI : isI l) (hl : l.length ≤ 2000) (d : Nat) : ∀ (k i : Nat), i + d = min l.length 201 → 2 * d + 20 ≤ k → capstanref05_May.l0 k l i = some (((l.drop i).take d).all imays && decide (1 ≤ l.length ∧ l.length ≤ 200)) := by
  have fin : ∀ (k : Nat) (i : Int), capstanref05_May.j1 (k + 1) l i false = some (decide (1 ≤ l.length ∧ l.length ≤ 200)) := by
    intro k i
    rw [capstanref05_May.j1, if_neg (by decide)]
    by_cases h : (l.length : Int) ≥ 1
    · rw [if_pos h]; congr 1; rw [Bool.eq_iff_iff, decide_eq_true_eq, decide_eq_true_eq]; omega
    · rw [if_neg h, decide_eq_false (by omega)]
  induction d with
  | zero =>
    intro k i hi hk
    obtain ⟨k, rfl⟩ : ∃ n, k = n + 2 := ⟨k - 2, by omega⟩
    rw [List.take_zero, List.all_nil, Bool.true_and, capstanref05_May.l0]
    by_cases h : (i : Int) < (l.length : Int)
    · rw [if_pos h, decide_eq_false (by omega)]; exact fin k i
    · rw [if_neg h]; exact fin k i
  | succ d ih =>
    intro k i hi hk
    obtain ⟨k, rfl⟩ : ∃ n, k = n + 2 := ⟨k - 2, by omega⟩
    have hx := hI l[i] (List.getElem_mem (by omega))
    rw [capstanref05_May.l0, if_pos (by omega), decide_eq_true (by omega), capstanref05_May.j1, if_pos rfl, if_pos (by omega), if_pos (by omega), rdi_at (by omega), tMay_f _ hx k (by omega), Option.bind_some, List.drop_eq_getElem_cons (by omega : i < l.length), List.take_succ_cons, List.all_cons, wrap64_id (x := (i : Int) + 1) (by omega) (by omega), show ((i : Int) + 1) = ((i + 1 : Nat) : Int) by omega]
    cases imays l[i]
    · rw [if_neg (by decide), Bool.false_and, Bool.false_and]
    · rw [if_pos rfl, Bool.true_and]
      exact ih k (i + 1) (by omega) (by omega)
theorem tMay5_f (l : List IN) (hI : isI l) (hl : l.length ≤ 2000) (k : Nat) (hk : 2100 ≤ k) : capstanref05_May.f k l = some (cmay l) := by
  have := tMay_l0 l hI hl (min l.length 201) k 0 (by omega) (by omega)
  unfold capstanref05_May.f cmay
  rw [show (0 : Int) = ((0 : Nat) : Int) from rfl, this, List.drop_zero, Bool.and_comm]
  by_cases h : 1 ≤ l.length ∧ l.length ≤ 200
  · rw [List.take_of_length_le (by omega)]
  · rw [decide_eq_false h, Bool.false_and, Bool.false_and]
theorem tBytes_l0 (l : List IN) (hI : isI l) (hl : l.length ≤ 200) (ha : l.all imays = true) (d : Nat) : ∀ (k i : Nat) (acc : List Int), i + d = l.length → acc.length ≤ 3 * i + 1 → d + 20 ≤ k → capstanref05_Bytes.l0 k l acc i = some (acc ++ flat (l.drop i), 0) := by
  induction d with
  | zero =>
    intro k i acc hi hc hk
    obtain ⟨k, rfl⟩ : ∃ n, k = n + 1 := ⟨k - 1, by omega⟩
    simp only [capstanref05_Bytes.l0]
    rw [if_neg (by omega), List.drop_eq_nil_of_le (by omega)]
    simp [flat]
  | succ d ih =>
    intro k i acc hi hc hk
    obtain ⟨k, rfl⟩ : ∃ n, k = n + 1 := ⟨k - 1, by omega⟩
    have hx := hI l[i] (List.getElem_mem (by omega))
    have hm := List.all_eq_true.1 ha l[i] (List.getElem_mem (by omega))
    obtain ⟨i1, i2, i3, i4, i5, i6⟩ := imays_inv hm hx
    have ef : flat (l.drop i) = ibytes l[i] ++ flat (l.drop (i + 1)) := by rw [List.drop_eq_getElem_cons (by omega : i < l.length)]; unfold flat; rw [List.flatMap_cons]
    simp only [capstanref05_Bytes.l0]
    rw [if_pos (by omega), if_pos (by omega), if_pos (by omega), Option.bind_some, rdi_at (by omega), wrap64_id (x := (i : Int) + 1) (by omega) (by omega), show ((i : Int) + 1) = ((i + 1 : Nat) : Int) by omega, tWide_f _ hx k (by omega), Option.bind_some, ef]
    by_cases h2 : (bnd l[i].f0).2 > 0
    · have eb : ibytes l[i] = l[i].f0 :: leb 2 l[i].f1 := by unfold ibytes; rw [if_pos h2]
      have e2 : [(Int.tmod l[i].f1 256) % 256, (wrap64 (Int.tdiv l[i].f1 256)) % 256] = leb 2 l[i].f1 := by
        rw [tdiv256 i2, tmod256 i2, wrap64_id (by omega) (by omega)]
        simp [leb]
      rw [decide_eq_true h2, if_pos rfl, Option.bind_some, e2, if_pos (by simp [leb_length]; omega), ih k (i + 1) _ (by omega) (by simp [leb_length]; omega) (by omega), eb]
      simp
    · have eb : ibytes l[i] = [l[i].f0] := by unfold ibytes; rw [if_neg h2]
      rw [decide_eq_false h2, if_neg (by decide), ih k (i + 1) _ (by omega) (by simp; omega) (by omega), eb]
      simp
theorem tBytes_f (l : List IN) (hI : isI l) (hl : l.length ≤ 2000) (k : Nat) (hk : 2100 ≤ k) : capstanref05_Bytes.f k l = some (if cmay l = true then (cbytes l, 0) else ([], 40)) := by
  unfold capstanref05_Bytes.f
  rw [tMay5_f l hI hl k hk, Option.bind_some]
  cases hm : cmay l
  · rw [if_neg (by decide), if_neg (by decide)]
  · obtain ⟨h1, h2⟩ := cmay_inv hm
    have := tBytes_l0 l hI h1.2 h2 l.length k 0 [(l.length : Int)] (by omega) (by simp) (by omega)
    rw [if_pos rfl, if_pos rfl, show ((l.length : Int)) % 256 = l.length by omega]
    rw [show ((0 : Nat) : Int) = 0 from rfl, List.drop_zero] at this
    rw [this]
    rfl
/-- Are two rows the same, from a place on? -/
def sm (x y : List IN) : Nat → Nat → Bool
  | 0, _ => true
  | d + 1, i => if (!(((rd_T42 x (i : Int)).f0) == ((rd_T42 y (i : Int)).f0)) || (!(((rd_T42 x (i : Int)).f1) == ((rd_T42 y (i : Int)).f1)) || (!(((rd_T42 x (i : Int)).f2) == ((rd_T42 y (i : Int)).f2))))) = true then false else sm x y d (i + 1)
theorem sm_l0 (x y : List IN) (hx : x.length ≤ 100000) (hy : x.length = y.length) (d : Nat) : ∀ (k i : Nat), i + d = x.length → d < k → slices_Equal_api_Instr_api_Instr.l0 k x y x.length i = some (sm x y d i) := by
  induction d with
  | zero =>
    intro k i hi hk
    obtain ⟨k, rfl⟩ : ∃ n, k = n + 1 := ⟨k - 1, by omega⟩
    simp only [slices_Equal_api_Instr_api_Instr.l0]
    rw [if_neg (by omega), sm]
  | succ d ih =>
    intro k i hi hk
    obtain ⟨k, rfl⟩ : ∃ n, k = n + 1 := ⟨k - 1, by omega⟩
    simp only [slices_Equal_api_Instr_api_Instr.l0]
    rw [if_pos (by omega), if_pos (by omega), if_pos (by omega), if_pos (by omega), sm, wrap64_id (x := (i : Int) + 1) (by omega) (by omega), show ((i : Int) + 1) = ((i + 1 : Nat) : Int) by omega, ih k (i + 1) (by omega) (by omega)]
    split <;> rfl
theorem tsm_l0 (x y : List IN) (hx : x.length ≤ 100000) (hy : x.length = y.length) (d : Nat) : ∀ (k i : Nat), i + d = x.length → d < k → capstanref05_Same.l0 k x y i = some (sm x y d i) := by
  induction d with
  | zero =>
    intro k i hi hk
    obtain ⟨k, rfl⟩ : ∃ n, k = n + 1 := ⟨k - 1, by omega⟩
    simp only [capstanref05_Same.l0]
    rw [if_neg (by omega), sm]
  | succ d ih =>
    intro k i hi hk
    obtain ⟨k, rfl⟩ : ∃ n, k = n + 1 := ⟨k - 1, by omega⟩
    simp only [capstanref05_Same.l0]
    rw [if_pos (by omega), if_pos (by omega), if_pos (by omega), sm, wrap64_id (x := (i : Int) + 1) (by omega) (by omega), show ((i : Int) + 1) = ((i + 1 : Nat) : Int) by omega, ih k (i + 1) (by omega) (by omega)]
    split <;> rfl
def csame (x y : List IN) : Bool := if x.length = y.length then sm x y x.length 0 else false
theorem same_f (x y : List IN) (hx : x.length ≤ 2000) (k : Nat) (hk : 2100 ≤ k) : code_Same.f k x y = some (csame x y) := by
  unfold code_Same.f slices_Equal_api_Instr_api_Instr.f csame
  by_cases h : x.length = y.length
  · have := sm_l0 x y (by omega) h x.length k 0 (by omega) (by omega)
    rw [show ((0 : Nat) : Int) = 0 from rfl] at this
    rw [if_pos (by omega), if_pos h, this, Option.bind_some]
  · rw [if_neg (by omega), if_neg h, Option.bind_some]
theorem tSame_f (x y : List IN) (hx : x.length ≤ 2000) (k : Nat) (hk : 2100 ≤ k) : capstanref05_Same.f k x y = some (csame x y) := by
  unfold capstanref05_Same.f csame
  by_cases h : x.length = y.length
  · have := tsm_l0 x y (by omega) h x.length k 0 (by omega) (by omega)
    rw [show ((0 : Nat) : Int) = 0 from rfl] at this
    rw [if_pos (by omega), if_pos h, this]
  · rw [if_neg (by omega), if_neg h]
theorem csame_self (x : List IN) : csame x x = true := by
  unfold csame
  rw [if_pos rfl]
  have : ∀ d i, sm x x d i = true := by
    intro d
    induction d with
    | zero => intro i; rfl
    | succ d ih => intro i; rw [sm, if_neg (by simp)]; exact ih _
  exact this _ _
/-- The text of an instruction. -/
def nameb (a : Int) : List UInt8 := ((op_Name.f a).getD ⟨#[]⟩).data.toList
theorem name_all : ∀ n : Fin 256, op_Name.f ((n : Nat) : Int) = some ⟨(nameb ((n : Nat) : Int)).toArray⟩ ∧ capstanref04_Name.f ((n : Nat) : Int) = some ⟨(nameb ((n : Nat) : Int)).toArray⟩ ∧ (nameb ((n : Nat) : Int)).length ≤ 10 := by decide +kernel
theorem digits_all : ∀ n : Fin 1025, capstanref05_Digits.f 6 ((n : Nat) : Int) = some ⟨(Lib.itoa ((n : Nat) : Int)).toArray⟩ ∧ (Lib.itoa ((n : Nat) : Int)).length ≤ 20 := by decide +kernel
theorem digits_f {a : Int} (h : 0 ≤ a ∧ a ≤ 1024) (k : Nat) (hk : 6 ≤ k) : capstanref05_Digits.f k a = some ⟨(Lib.itoa a).toArray⟩ ∧ (Lib.itoa a).length ≤ 20 := by
  obtain ⟨n, hn⟩ : ∃ n : Fin 1025, a = ((n : Nat) : Int) := ⟨⟨a.toNat, by omega⟩, by simp; omega⟩
  rw [hn]
  exact ⟨op_up (fun k => capstanref05_Digits.mono _ k) (digits_all n).1 k hk, (digits_all n).2⟩
def itext (x : IN) : List UInt8 := nameb x.f0 ++ (if (bnd x.f0).2 > 0 then 32 :: Lib.itoa x.f1 else []) ++ [10]
theorem ba_size (a : List UInt8) : (⟨a.toArray⟩ : ByteArray).size = a.length := by show a.toArray.size = _; simp
theorem ba_append (a b : List UInt8) : (⟨a.toArray⟩ : ByteArray) ++ ⟨b.toArray⟩ = ⟨(a ++ b).toArray⟩ := by
  apply ByteArray.ext
  rw [ByteArray.data_append]
  simp
theorem text_l0 (l : List IN) : ∀ (k : Nat) (acc : List UInt8), isI l → l.all imays = true → acc.length + 40 * l.length ≤ 100000 → 10 ≤ k → code_Text.l0 k l acc = some (acc ++ l.flatMap itext) := by
  induction l with
  | nil => intro k acc _ _ _ _; simp [code_Text.l0]
  | cons x t ih =>
    intro k acc hI ha hb hk
    rw [List.all_cons, Bool.and_eq_true] at ha
    have hx := hI x List.mem_cons_self
    obtain ⟨i1, i2, i3, i4, i5, i6⟩ := imays_inv ha.1 hx
    obtain ⟨n, hn⟩ := byte_fin hx
    obtain ⟨n1, n2, n3⟩ := name_all n
    rw [← hn] at n1 n2 n3
    have hw : code_wide.f k x.f0 = some (decide ((bnd x.f0).2 > 0)) := by rw [hn]; exact wide_f n k (by omega)
    have hd := (digits_f ⟨i2, i3⟩ 6 (by omega)).2
    have hI' : isI t := fun z hz => hI z (List.mem_cons_of_mem _ hz)
    rw [List.length_cons] at hb
    rw [code_Text.l0, n1, Option.bind_some, hw, Option.bind_some, ba_size, if_pos (by omega), List.flatMap_cons]
    by_cases h2 : (bnd x.f0).2 > 0
    · have et : itext x = nameb x.f0 ++ (32 :: Lib.itoa x.f1) ++ [10] := by unfold itext; rw [if_pos h2]
      rw [decide_eq_true h2, if_pos rfl, if_pos ⟨i2, by omega, hd⟩, ih k _ hI' ha.2 (by simp; omega) hk, et]
      simp
    · have et : itext x = nameb x.f0 ++ [] ++ [10] := by unfold itext; rw [if_neg h2]
      rw [decide_eq_false h2, if_neg (by decide), ih k _ hI' ha.2 (by simp; omega) hk, et]
      simp
theorem tText_l0 (l : List IN) (hI : isI l) (hl : l.length ≤ 200) (ha : l.all imays = true) (d : Nat) : ∀ (k i : Nat) (acc : List UInt8), i + d = l.length → acc.length ≤ 40 * i → d + 20 ≤ k → capstanref05_Text.l0 k l ⟨acc.toArray⟩ i = some (⟨(acc ++ (l.drop i).flatMap itext).toArray⟩, 0) := by
  induction d with
  | zero =>
    intro k i acc hi hc hk
    obtain ⟨k, rfl⟩ : ∃ n, k = n + 1 := ⟨k - 1, by omega⟩
    simp only [capstanref05_Text.l0]
    rw [if_neg (by omega), List.drop_eq_nil_of_le (by omega), List.flatMap_nil, List.append_nil]
  | succ d ih =>
    intro k i acc hi hc hk
    obtain ⟨k, rfl⟩ : ∃ n, k = n + 1 := ⟨k - 1, by omega⟩
    have hx := hI l[i] (List.getElem_mem (by omega))
    have hm := List.all_eq_true.1 ha l[i] (List.getElem_mem (by omega))
    obtain ⟨i1, i2, i3, i4, i5, i6⟩ := imays_inv hm hx
    obtain ⟨n, hn⟩ := byte_fin hx
    obtain ⟨n1, n2, n3⟩ := name_all n
    rw [← hn] at n1 n2 n3
    obtain ⟨hd1, hd⟩ := digits_f ⟨i2, i3⟩ k (by omega)
    simp only [capstanref05_Text.l0]
    rw [if_pos (by omega), if_pos (by omega), rdi_at (by omega), n2, Option.bind_some, ba_append, ba_size, ba_size, if_pos (by omega), tWide_f _ hx k (by omega), Option.bind_some, wrap64_id (x := (i : Int) + 1) (by omega) (by omega), show ((i : Int) + 1) = ((i + 1 : Nat) : Int) by omega, List.drop_eq_getElem_cons (by omega : i < l.length), List.flatMap_cons]
    by_cases h2 : (bnd l[i].f0).2 > 0
    · have et : itext l[i] = nameb l[i].f0 ++ (32 :: Lib.itoa l[i].f1) ++ [10] := by unfold itext; rw [if_pos h2]
      have e32 : (⟨#[32]⟩ : ByteArray) = ⟨([32] : List UInt8).toArray⟩ := rfl
      have e10 : (⟨#[10]⟩ : ByteArray) = ⟨([10] : List UInt8).toArray⟩ := rfl
      rw [decide_eq_true h2, if_pos rfl, ba_size, if_pos (by simp; omega), hd1, Option.bind_some, e32, e10, ba_append, ba_append, ba_append, ba_size, ba_size, ba_size, if_pos (by simp; omega), if_pos (by simp; omega), ih k (i + 1) _ (by omega) (by simp; omega) (by omega), et]
      simp
    · have et : itext l[i] = nameb l[i].f0 ++ [] ++ [10] := by unfold itext; rw [if_neg h2]
      have e10 : (⟨#[10]⟩ : ByteArray) = ⟨([10] : List UInt8).toArray⟩ := rfl
      rw [decide_eq_false h2, if_neg (by decide), ba_size, if_pos (by simp; omega), e10, ba_append, ih k (i + 1) _ (by omega) (by simp; omega) (by omega), et]
      simp
theorem text_f (l : List IN) (hI : isI l) (hl : l.length ≤ 2000) (k : Nat) (hk : 2100 ≤ k) : code_Text.f k l = some (if cmay l = true then (⟨(l.flatMap itext).toArray⟩, 0) else (⟨#[]⟩, 40)) := by
  unfold code_Text.f
  rw [cMay_f l hI hl k hk, Option.bind_some]
  cases hm : cmay l
  · rw [if_neg (by decide), if_neg (by decide)]
  · obtain ⟨h1, h2⟩ := cmay_inv hm
    rw [if_pos rfl, if_pos rfl, text_l0 l k [] hI h2 (by simp; omega) (by omega), Option.bind_some, List.nil_append]
theorem tText_f (l : List IN) (hI : isI l) (hl : l.length ≤ 2000) (k : Nat) (hk : 2100 ≤ k) : capstanref05_Text.f k l = some (if cmay l = true then (⟨(l.flatMap itext).toArray⟩, 0) else (⟨#[]⟩, 40)) := by
  unfold capstanref05_Text.f
  rw [tMay5_f l hI hl k hk, Option.bind_some]
  cases hm : cmay l
  · rw [if_neg (by decide), if_neg (by decide)]
  · obtain ⟨h1, h2⟩ := cmay_inv hm
    have := tText_l0 l hI h1.2 h2 l.length k 0 [] (by omega) (by simp) (by omega)
    rw [if_pos rfl, if_pos rfl]
    rw [show ((0 : Nat) : Int) = 0 from rfl, List.drop_zero, List.nil_append] at this
    exact this
section
variable (x : List IN) (y : List IN) (W : List Int) (e : Int)
theorem ct_l1 (t : Int) (d : Nat) : ∀ (k i : Nat) (z : List Int), i + d = z.length → z.length ≤ 100000 → capstanlaw05_CodeTells.l1 (k + d + 1) x y W e t z i = capstanlaw05_CodeTells.l0 k x y W e (wrap64 (t + 1)) := by
  induction d with
  | zero =>
    intro k i z hi hz
    conv => lhs; unfold capstanlaw05_CodeTells.l1
    rw [if_neg (by omega)]
  | succ d ih =>
    intro k i z hi hz
    rw [show k + (d + 1) + 1 = (k + d + 1) + 1 from rfl]
    conv => lhs; unfold capstanlaw05_CodeTells.l1
    rw [if_pos (by omega), if_pos (by omega), wrap64_id (x := (i : Int) + 1) (by omega) (by omega)]
    exact ih k (i + 1) _ (by simp; omega) (by simpa using hz)
end
theorem ct_l0 (x : List IN) (hI : isI x) (hx : x.length ≤ 1000) (t : Int) (k : Nat) (hk : 4000 ≤ k) (ht : 0 ≤ t ∧ t < 2) (b : List Int) (e : Int) (hb : (if cmay x = true then (cbytes x, 0) else ([], 40)) = (b, e)) : ∃ k', k' + 3000 ≥ k ∧ capstanlaw05_CodeTells.l0 k x x b e t = capstanlaw05_CodeTells.l0 k' x x b e (t + 1) := by
  have hbl : b.length ≤ 700 := by
    cases hm : cmay x
    · rw [hm, if_neg (by decide)] at hb
      rw [← show _ = b from congrArg Prod.fst hb]; simp
    · rw [hm, if_pos rfl] at hb
      obtain ⟨h1, _⟩ := cmay_inv hm
      have := flat_length x
      rw [← show _ = b from congrArg Prod.fst hb]
      simp [cbytes]; omega
  obtain ⟨k, rfl⟩ : ∃ n, k = n + b.length + 1 + 2 := ⟨k - b.length - 3, by omega⟩
  refine ⟨k, by omega, ?_⟩
  rw [show k + b.length + 1 + 2 = (k + b.length + 1 + 1) + 1 from rfl]
  conv => lhs; unfold capstanlaw05_CodeTells.l0
  rw [if_pos ht.2, cBytes_f x hI (by omega) _ (by omega), Option.bind_some, hb]
  dsimp only
  rw [if_pos rfl, if_pos rfl, tSame_f x x (by omega) _ (by omega), Option.bind_some, csame_self, Bool.not_true]
  conv => lhs; unfold capstanlaw05_CodeTells.j3
  rw [if_neg (by decide)]
  have := ct_l1 x x b e t b.length k 0 b (by omega) (by omega)
  rw [show ((0 : Nat) : Int) = 0 from rfl, wrap64_id (by omega) (by omega)] at this
  exact this
theorem CodeTells : capstanlaw05_CodeTells.Pure := by
  intro l other hw _
  have hI : isI l := fun x hx => wf_u8 (hw.2 x hx).1
  refine ⟨12002, ?_⟩
  unfold capstanlaw05_CodeTells.f
  have hj : capstanlaw05_CodeTells.j0 (12001 + 1) l other true = some true := by rw [capstanlaw05_CodeTells.j0, if_pos rfl]
  by_cases hg : (l.length : Int) > 1000
  · rw [if_pos hg]; exact hj
  rw [if_neg hg]
  by_cases ho : (other.length : Int) > 1000
  · rw [decide_eq_true ho]; exact hj
  have hcopy : capstanref05_Copy.f l = some l := by
    unfold capstanref05_Copy.f
    rw [if_pos (by simp; omega), List.nil_append]
  obtain ⟨b, e, hbe⟩ : ∃ b e, (if cmay l = true then (cbytes l, (0 : Int)) else ([], 40)) = (b, e) := ⟨_, _, rfl⟩
  rw [decide_eq_false ho, show (12002 : Nat) = 12001 + 1 from rfl, capstanlaw05_CodeTells.j0, if_neg (by decide), hcopy, Option.bind_some, tBytes_f l hI (by omega) _ (by omega), Option.bind_some, text_f l hI (by omega) _ (by omega), Option.bind_some, tText_f l hI (by omega) _ (by omega), Option.bind_some, if_pos rfl, if_pos rfl, cMay_f l hI (by omega) _ (by omega), Option.bind_some, tMay5_f l hI (by omega) _ (by omega), Option.bind_some, bne_self_eq_false, if_neg (by decide), same_f l other (by omega) _ (by omega), Option.bind_some, tSame_f l other (by omega) _ (by omega), Option.bind_some, bne_self_eq_false, if_neg (by decide), same_f l l (by omega) _ (by omega), Option.bind_some, csame_self, Bool.not_true, hbe, show (12001 : Nat) = 12000 + 1 from rfl, capstanlaw05_CodeTells.j1, if_neg (by decide)]
  obtain ⟨k1, h1, e1⟩ := ct_l0 l hI (by omega) 0 12000 (by omega) (by omega) b e hbe
  obtain ⟨k2, h2, e2⟩ := ct_l0 l hI (by omega) 1 k1 (by omega) (by omega) b e hbe
  rw [e1, show (0 : Int) + 1 = 1 from rfl, e2]
  obtain ⟨k2, rfl⟩ : ∃ n, k2 = n + 1 := ⟨k2 - 1, by omega⟩
  conv => lhs; unfold capstanlaw05_CodeTells.l0
  rfl
end Go.Proofs.YtdfjjooejfgglaaDoor.Pure
