/- Layer 5 in plain terms, as much of it as texts ask: what may be code, its text. -/
import Derived.Test.YtdfjjooejfgglaaDoorX2
import Derived.Test.YtdfjjooejfgglaaDoorX3
import Derived.Test.YtdfjjooejfgglaaDoorX5
import Derived.Test.YtdfjjooejfgglaaDoorX6
import Derived.Test.YtdfjjooejfgglaaDoorLOp
namespace Go.Proofs.YtdfjjooejfgglaaDoor.M
open Go.RowKit Go.Proofs.YtdfjjooejfgglaaDoor.X Go.Proofs.YtdfjjooejfgglaaDoorW.PrintWords Go.Proofs.YtdfjjooejfgglaaDoorW.PrintLast Go.Proofs.YtdfjjooejfgglaaDoorW.PrintMore

/-- May an instruction be? -/
def imay (x a : Int) : Bool := decide ((bnd x).1 ≤ a) && decide (a ≤ (bnd x).2)
theorem byte_fin {x : Int} (h : 0 ≤ x ∧ x ≤ 255) : ∃ n : Fin 256, x = ((n : Nat) : Int) := ⟨⟨x.toNat, by omega⟩, by simp; omega⟩
theorem wide_f (n : Fin 256) (k : Nat) (hk : 5 ≤ k) : code_wide.f k ((n : Nat) : Int) = some (decide ((bnd ((n : Nat) : Int)).2 > 0)) := by
  unfold code_wide.f
  rw [bnd_f n k hk, Option.bind_some]
abbrev IN : Type := S42
def imays (x : IN) : Bool := decide ((bnd x.f0).1 ≤ x.f1) && (decide (x.f1 ≤ (bnd x.f0).2) && x.f2 == 0)
def isI (l : List IN) : Prop := ∀ x ∈ l, 0 ≤ x.f0 ∧ x.f0 ≤ 255
def cmay (l : List IN) : Bool := decide (1 ≤ l.length ∧ l.length ≤ 200) && l.all imays
theorem imays_inv {x : IN} (h : imays x = true) (hx : 0 ≤ x.f0 ∧ x.f0 ≤ 255) : x.f0 < 33 ∧ 0 ≤ x.f1 ∧ x.f1 ≤ 1024 ∧ x.f2 = 0 ∧ imay x.f0 x.f1 = true ∧ (¬ (bnd x.f0).2 > 0 → x.f1 = 0) := by
  unfold imays at h
  rw [Bool.and_eq_true, Bool.and_eq_true, decide_eq_true_eq, decide_eq_true_eq, beq_iff_eq] at h
  obtain ⟨h1, h2, h3⟩ := h
  obtain ⟨n, hn⟩ := byte_fin hx
  obtain ⟨_, _, b2, b3⟩ := bnd_all n
  rw [← hn] at b2 b3
  by_cases h4 : (n : Nat) < 33
  · have b4 := b2 h4
    refine ⟨by omega, by omega, by omega, h3, ?_, fun h => by omega⟩
    unfold imay
    rw [decide_eq_true h1, decide_eq_true h2]; rfl
  · rw [b3 h4] at h1 h2
    dsimp only at h1 h2
    omega
theorem cmay_inv {l : List IN} (h : cmay l = true) : (1 ≤ l.length ∧ l.length ≤ 200) ∧ l.all imays = true := by
  unfold cmay at h
  rw [Bool.and_eq_true, decide_eq_true_eq] at h
  exact h
theorem rdi_at {l : List IN} {i : Nat} (h : i < l.length) : rd_T42 l (i : Int) = l[i] := by simp [rd_T42, List.getD, List.getElem?_eq_getElem h]
theorem may1_f (x : IN) (hx : 0 ≤ x.f0 ∧ x.f0 ≤ 255) (k : Nat) (hk : 5 ≤ k) : code_May_1.f k x.f0 x.f1 x.f2 = some (!imays x) := by
  obtain ⟨n, hn⟩ := byte_fin hx
  unfold code_May_1.f imays
  rw [hn, opmay_f n _ _ k hk, Option.bind_some]
theorem idx_l0 (l : List IN) (hI : isI l) (hl : l.length ≤ 100000) (d : Nat) : ∀ (k i : Nat), i + d = l.length → d + 10 ≤ k → ∃ r, slices_IndexFunc_api_Instr_api_Instr.l0 k l l.length i = some r ∧ decide (r ≥ 0) = !(l.drop i).all imays := by
  induction d with
  | zero =>
    intro k i hi hk
    obtain ⟨k, rfl⟩ : ∃ n, k = n + 1 := ⟨k - 1, by omega⟩
    refine ⟨-1, ?_, ?_⟩
    · simp only [slices_IndexFunc_api_Instr_api_Instr.l0]
      rw [if_neg (by omega)]
    · rw [List.drop_eq_nil_of_le (by omega)]; rfl
  | succ d ih =>
    intro k i hi hk
    obtain ⟨k, rfl⟩ : ∃ n, k = n + 1 := ⟨k - 1, by omega⟩
    have hx := hI l[i] (List.getElem_mem (by omega))
    simp only [slices_IndexFunc_api_Instr_api_Instr.l0]
    rw [if_pos (by omega), if_pos (by omega), if_pos (by omega), rdi_at (by omega), may1_f _ hx k (by omega), Option.bind_some, List.drop_eq_getElem_cons (by omega : i < l.length), List.all_cons, wrap64_id (x := (i : Int) + 1) (by omega) (by omega), show ((i : Int) + 1) = ((i + 1 : Nat) : Int) by omega]
    cases h : imays l[i]
    · exact ⟨i, by rw [Bool.not_false, if_pos rfl], by rw [decide_eq_true (by omega)]; rfl⟩
    · obtain ⟨r, h1, h2⟩ := ih k (i + 1) (by omega) (by omega)
      exact ⟨r, by rw [Bool.not_true, if_neg (by decide), h1], by rw [h2, Bool.true_and]⟩
theorem cMay_f (l : List IN) (hI : isI l) (hl : l.length ≤ 2000) (k : Nat) (hk : 2100 ≤ k) : code_May.f k l = some (cmay l) := by
  unfold code_May.f cmay
  by_cases h1 : (l.length : Int) > 0
  · rw [if_pos h1]
    by_cases h2 : (l.length : Int) ≤ 200
    · obtain ⟨r, h3, h4⟩ := idx_l0 l hI (by omega) l.length k 0 (by omega) (by omega)
      rw [if_pos h2]
      unfold slices_ContainsFunc_api_Instr_api_Instr.f slices_IndexFunc_api_Instr_api_Instr.f
      rw [show (0 : Int) = ((0 : Nat) : Int) from rfl, h3, Option.bind_some, Option.bind_some, show ((0 : Nat) : Int) = 0 from rfl, h4, List.drop_zero, Bool.not_not, decide_eq_true (by omega : 1 ≤ l.length ∧ l.length ≤ 200), Bool.true_and]
    · rw [if_neg h2, decide_eq_false (by omega), Bool.false_and]
  · rw [if_neg h1, decide_eq_false (by omega), Bool.false_and]
/-- The text of an instruction. -/
def nameb (a : Int) : List UInt8 := ((op_Name.f a).getD ⟨#[]⟩).data.toList
theorem name_all : ∀ n : Fin 256, op_Name.f ((n : Nat) : Int) = some ⟨(nameb ((n : Nat) : Int)).toArray⟩ ∧ capstanref04_Name.f ((n : Nat) : Int) = some ⟨(nameb ((n : Nat) : Int)).toArray⟩ ∧ (nameb ((n : Nat) : Int)).length ≤ 10 := by decide +kernel
theorem ba_size (a : List UInt8) : (⟨a.toArray⟩ : ByteArray).size = a.length := by show a.toArray.size = _; simp
theorem ba_append (a b : List UInt8) : (⟨a.toArray⟩ : ByteArray) ++ ⟨b.toArray⟩ = ⟨(a ++ b).toArray⟩ := by
  apply ByteArray.ext
  rw [ByteArray.data_append]
  simp
def itext (x : IN) : List UInt8 := nameb x.f0 ++ (if (bnd x.f0).2 > 0 then 32 :: Lib.itoa x.f1 else []) ++ [10]
theorem digits_all : ∀ n : Fin 1025, capstanref05_Digits.f 6 ((n : Nat) : Int) = some ⟨(Lib.itoa ((n : Nat) : Int)).toArray⟩ ∧ (Lib.itoa ((n : Nat) : Int)).length ≤ 4 := by decide +kernel
theorem digits_f {a : Int} (h : 0 ≤ a ∧ a ≤ 1024) (k : Nat) (hk : 6 ≤ k) : capstanref05_Digits.f k a = some ⟨(Lib.itoa a).toArray⟩ ∧ (Lib.itoa a).length ≤ 4 := by
  obtain ⟨n, hn⟩ : ∃ n : Fin 1025, a = ((n : Nat) : Int) := ⟨⟨a.toNat, by omega⟩, by simp; omega⟩
  rw [hn]
  exact ⟨op_up (fun k => capstanref05_Digits.mono _ k) (digits_all n).1 k hk, (digits_all n).2⟩
theorem text_l0 (l : List IN) : ∀ (k : Nat) (acc : List UInt8), isI l → l.all imays = true → acc.length + 40 * l.length ≤ 100000 → 10 ≤ k → code_Text.l0 k l acc = some (acc ++ l.flatMap itext) := by
  induction l with
  | nil => intro k acc _ _ _ _; simp [code_Text.l0]
  | cons x t ih =>
    intro k acc hI ha hb hk
    rw [List.all_cons, Bool.and_eq_true] at ha
    have hx := hI x List.mem_cons_self
    obtain ⟨i1, i2, i3, i4, i5, i6⟩ := imays_inv ha.1 hx
    obtain ⟨n, hn⟩ := byte_fin hx
    obtain ⟨n1, n2, n3⟩ := name_all n
    rw [← hn] at n1 n2 n3
    have hw : code_wide.f k x.f0 = some (decide ((bnd x.f0).2 > 0)) := by rw [hn]; exact wide_f n k (by omega)
    have hd := (digits_f ⟨i2, i3⟩ 6 (by omega)).2
    have hI' : isI t := fun z hz => hI z (List.mem_cons_of_mem _ hz)
    rw [List.length_cons] at hb
    rw [code_Text.l0, n1, Option.bind_some, hw, Option.bind_some, ba_size, if_pos (by omega), List.flatMap_cons]
    by_cases h2 : (bnd x.f0).2 > 0
    · have et : itext x = nameb x.f0 ++ (32 :: Lib.itoa x.f1) ++ [10] := by unfold itext; rw [if_pos h2]
      rw [decide_eq_true h2, if_pos rfl, if_pos ⟨i2, by omega, by omega⟩, ih k _ hI' ha.2 (by simp; omega) hk, et]
      simp
    · have et : itext x = nameb x.f0 ++ [] ++ [10] := by unfold itext; rw [if_neg h2]
      rw [decide_eq_false h2, if_neg (by decide), ih k _ hI' ha.2 (by simp; omega) hk, et]
      simp
theorem text_f (l : List IN) (hI : isI l) (hl : l.length ≤ 2000) (k : Nat) (hk : 2100 ≤ k) : code_Text.f k l = some (if cmay l = true then (⟨(l.flatMap itext).toArray⟩, 0) else (⟨#[]⟩, 40)) := by
  unfold code_Text.f
  rw [cMay_f l hI hl k hk, Option.bind_some]
  cases hm : cmay l
  · rw [if_neg (by decide), if_neg (by decide)]
  · obtain ⟨h1, h2⟩ := cmay_inv hm
    rw [if_pos rfl, if_pos rfl, text_l0 l k [] hI h2 (by simp; omega) (by omega), Option.bind_some, List.nil_append]
theorem tBnd_all : ∀ n : Fin 256, capstanref04_Bounds.f 5 ((n : Nat) : Int) = some (bnd ((n : Nat) : Int)) := by decide +kernel
theorem tBnd_f (n : Fin 256) (k : Nat) (hk : 5 ≤ k) : capstanref04_Bounds.f k ((n : Nat) : Int) = some (bnd ((n : Nat) : Int)) := op_up (fun k => capstanref04_Bounds.mono _ k) (tBnd_all n) k hk
theorem tWide_f (x : IN) (hx : 0 ≤ x.f0 ∧ x.f0 ≤ 255) (k : Nat) (hk : 5 ≤ k) : capstanref05_Wide.f k x.f0 = some (decide ((bnd x.f0).2 > 0)) := by
  obtain ⟨n, hn⟩ := byte_fin hx
  unfold capstanref05_Wide.f
  rw [hn, tBnd_f n k hk, Option.bind_some]
theorem tMay_f (x : IN) (hx : 0 ≤ x.f0 ∧ x.f0 ≤ 255) (k : Nat) (hk : 5 ≤ k) : capstanref04_May.f k x.f0 x.f1 x.f2 = some (imays x) := by
  obtain ⟨n, hn⟩ := byte_fin hx
  unfold capstanref04_May.f imays
  rw [hn, tBnd_f n k hk, Option.bind_some]
  by_cases h2 : x.f2 = 0
  · rw [if_pos h2]
    by_cases h : (bnd ((n : Nat) : Int)).1 ≤ x.f1
    · rw [if_pos h, decide_eq_true h, Bool.true_and, h2]
      simp
    · rw [if_neg h, decide_eq_false h, Bool.false_and]
  · rw [if_neg h2, beq_eq_false_iff_ne.mpr h2, Bool.and_false, Bool.and_false]
end Go.Proofs.YtdfjjooejfgglaaDoor.M
