/- Layer 5: code.May, code.Bytes, code.Same in plain terms; the chapter's examples. -/
import Derived.Test.YtdfjjooejfgglaaDoorY2
import Derived.Test.YtdfjjooejfgglaaDoorY3
import Derived.Test.YtdfjjooejfgglaaDoorY4
import Derived.Test.YtdfjjooejfgglaaDoorY5
import Derived.Test.YtdfjjooejfgglaaDoorLCode2
namespace Go.Proofs.YtdfjjooejfgglaaDoor.M
open Go.RowKit Go.Proofs.YtdfjjooejfgglaaDoor.Y Go.Proofs.YtdfjjooejfgglaaDoorW.PrintWords Go.Proofs.YtdfjjooejfgglaaDoorW.PrintLast Go.Proofs.YtdfjjooejfgglaaDoorW.PrintMore

theorem rdi_at {l : List IN} {i : Nat} (h : i < l.length) : rd_T42 l (i : Int) = l[i] := by simp [rd_T42, List.getD, List.getElem?_eq_getElem h]
theorem may1_f (x : IN) (hx : 0 ≤ x.f0 ∧ x.f0 ≤ 255) (k : Nat) (hk : 5 ≤ k) : code_May_1.f k x.f0 x.f1 x.f2 = some (!imays x) := by
  obtain ⟨n, hn⟩ := byte_fin hx
  unfold code_May_1.f imays
  rw [hn, opmay_f n _ _ k hk, Option.bind_some]
theorem idx_l0 (l : List IN) (hI : isI l) (hl : l.length ≤ 100000) (d : Nat) : ∀ (k i : Nat), i + d = l.length → d + 10 ≤ k → ∃ r, slices_IndexFunc_api_Instr_api_Instr.l0 k l l.length i = some r ∧ decide (r ≥ 0) = !(l.drop i).all imays := by
  induction d with
  | zero =>
    intro k i hi hk
    obtain ⟨k, rfl⟩ : ∃ n, k = n + 1 := ⟨k - 1, by omega⟩
    refine ⟨-1, ?_, ?_⟩
    · simp only [slices_IndexFunc_api_Instr_api_Instr.l0]
      rw [if_neg (by omega)]
    · rw [List.drop_eq_nil_of_le (by omega)]; rfl
  | succ d ih =>
    intro k i hi hk
    obtain ⟨k, rfl⟩ : ∃ n, k = n + 1 := ⟨k - 1, by omega⟩
    have hx := hI l[i] (List.getElem_mem (by omega))
    simp only [slices_IndexFunc_api_Instr_api_Instr.l0]
    rw [if_pos (by omega), if_pos (by omega), if_pos (by omega), rdi_at (by omega), may1_f _ hx k (by omega), Option.bind_some, List.drop_eq_getElem_cons (by omega : i < l.length), List.all_cons, wrap64_id (x := (i : Int) + 1) (by omega) (by omega), show ((i : Int) + 1) = ((i + 1 : Nat) : Int) by omega]
    cases h : imays l[i]
    · exact ⟨i, by rw [Bool.not_false, if_pos rfl], by rw [decide_eq_true (by omega)]; rfl⟩
    · obtain ⟨r, h1, h2⟩ := ih k (i + 1) (by omega) (by omega)
      exact ⟨r, by rw [Bool.not_true, if_neg (by decide), h1], by rw [h2, Bool.true_and]⟩
theorem cMay_f (l : List IN) (hI : isI l) (hl : l.length ≤ 2000) (k : Nat) (hk : 2100 ≤ k) : code_May.f k l = some (cmay l) := by
  unfold code_May.f cmay
  by_cases h1 : (l.length : Int) > 0
  · rw [if_pos h1]
    by_cases h2 : (l.length : Int) ≤ 200
    · obtain ⟨r, h3, h4⟩ := idx_l0 l hI (by omega) l.length k 0 (by omega) (by omega)
      rw [if_pos h2]
      unfold slices_ContainsFunc_api_Instr_api_Instr.f slices_IndexFunc_api_Instr_api_Instr.f
      rw [show (0 : Int) = ((0 : Nat) : Int) from rfl, h3, Option.bind_some, Option.bind_some, show ((0 : Nat) : Int) = 0 from rfl, h4, List.drop_zero, Bool.not_not, decide_eq_true (by omega : 1 ≤ l.length ∧ l.length ≤ 200), Bool.true_and]
    · rw [if_neg h2, decide_eq_false (by omega), Bool.false_and]
  · rw [if_neg h1, decide_eq_false (by omega), Bool.false_and]
theorem put2_ok {n : Int} (h : 0 ≤ n ∧ n ≤ 1024) : put 2 n = (leb 2 n, 0) := by
  unfold put
  rw [if_neg (by omega), if_pos ⟨h.1, .inr (by rw [show (256 : Int) ^ (2 : Int).toNat = 65536 from rfl]; omega)⟩]; rfl
theorem cBytes_l0 (l : List IN) (hI : isI l) (hl : l.length ≤ 200) (ha : l.all imays = true) (d : Nat) : ∀ (k i : Nat) (acc : List Int), i + d = l.length → acc.length ≤ 3 * i + 1 → d + 20 ≤ k → code_Bytes.l0 k acc l l.length i = some (acc ++ flat (l.drop i), 0) := by
  induction d with
  | zero =>
    intro k i acc hi hc hk
    obtain ⟨k, rfl⟩ : ∃ n, k = n + 1 := ⟨k - 1, by omega⟩
    simp only [code_Bytes.l0]
    rw [if_neg (by omega), List.drop_eq_nil_of_le (by omega)]
    simp [flat]
  | succ d ih =>
    intro k i acc hi hc hk
    obtain ⟨k, rfl⟩ : ∃ n, k = n + 1 := ⟨k - 1, by omega⟩
    have hx := hI l[i] (List.getElem_mem (by omega))
    have hm := List.all_eq_true.1 ha l[i] (List.getElem_mem (by omega))
    obtain ⟨i1, i2, i3, i4, i5, i6⟩ := imays_inv hm hx
    obtain ⟨n, hn⟩ := byte_fin hx
    have ef : flat (l.drop i) = ibytes l[i] ++ flat (l.drop (i + 1)) := by rw [List.drop_eq_getElem_cons (by omega : i < l.length)]; unfold flat; rw [List.flatMap_cons]
    simp only [code_Bytes.l0]
    rw [if_pos (by omega), if_pos (by omega), if_pos (by omega), if_pos (by omega), Option.bind_some, rdi_at (by omega), wrap64_id (x := (i : Int) + 1) (by omega) (by omega), show ((i : Int) + 1) = ((i + 1 : Nat) : Int) by omega]
    have hw : code_wide.f k l[i].f0 = some (decide ((bnd l[i].f0).2 > 0)) := by rw [hn]; exact wide_f n k (by omega)
    rw [hw, Option.bind_some, ef]
    by_cases h2 : (bnd l[i].f0).2 > 0
    · have eb : ibytes l[i] = l[i].f0 :: leb 2 l[i].f1 := by unfold ibytes; rw [if_pos h2]
      rw [decide_eq_true h2, if_pos rfl, put_f 2 _ k (by omega), Option.bind_some, put2_ok ⟨i2, i3⟩, if_pos rfl, if_pos (by simp [leb_length]; omega), ih k (i + 1) _ (by omega) (by simp [leb_length]; omega) (by omega), eb]
      simp
    · have eb : ibytes l[i] = [l[i].f0] := by unfold ibytes; rw [if_neg h2]
      rw [decide_eq_false h2, if_neg (by decide), ih k (i + 1) _ (by omega) (by simp; omega) (by omega), eb]
      simp
theorem cBytes_f (l : List IN) (hI : isI l) (hl : l.length ≤ 2000) (k : Nat) (hk : 2100 ≤ k) : code_Bytes.f k l = some (if cmay l = true then (cbytes l, 0) else ([], 40)) := by
  unfold code_Bytes.f
  rw [cMay_f l hI hl k hk, Option.bind_some]
  cases hm : cmay l
  · rw [if_neg (by decide), if_neg (by decide)]
  · obtain ⟨h1, h2⟩ := cmay_inv hm
    have := cBytes_l0 l hI h1.2 h2 l.length k 0 [(l.length : Int)] (by omega) (by simp) (by omega)
    rw [if_pos rfl, if_pos rfl, show ((l.length : Int)) % 256 = l.length by omega]
    rw [show ((0 : Nat) : Int) = 0 from rfl, List.drop_zero] at this
    rw [this]
    rfl
theorem cSame_l0 (x : List IN) (hx : x.length ≤ 100000) (d : Nat) : ∀ (k i : Nat), i + d = x.length → d < k → slices_Equal_api_Instr_api_Instr.l0 k x x x.length i = some true := by
  induction d with
  | zero =>
    intro k i hi hk
    obtain ⟨k, rfl⟩ : ∃ n, k = n + 1 := ⟨k - 1, by omega⟩
    simp only [slices_Equal_api_Instr_api_Instr.l0]
    rw [if_neg (by omega)]
  | succ d ih =>
    intro k i hi hk
    obtain ⟨k, rfl⟩ : ∃ n, k = n + 1 := ⟨k - 1, by omega⟩
    simp only [slices_Equal_api_Instr_api_Instr.l0]
    rw [if_pos (by omega), if_pos (by omega), if_pos (by omega), if_pos (by omega), if_neg (by simp), wrap64_id (x := (i : Int) + 1) (by omega) (by omega), show ((i : Int) + 1) = ((i + 1 : Nat) : Int) by omega]
    exact ih k (i + 1) (by omega) (by omega)
theorem cSame_f (x : List IN) (hx : x.length ≤ 2000) (k : Nat) (hk : 2100 ≤ k) : code_Same.f k x x = some true := by
  unfold code_Same.f slices_Equal_api_Instr_api_Instr.f
  have := cSame_l0 x (by omega) x.length k 0 (by omega) (by omega)
  rw [show ((0 : Nat) : Int) = 0 from rfl] at this
  rw [if_pos rfl, this, Option.bind_some]
theorem told5_f {l : List Int} (hb : isB l) (hl : l.length ≤ 140737488355328) (e : Int) (h : cparse l 0 = ([], 0, e)) (k : Nat) (hk : 12 ≤ k) : capstanlaw05_told.f k e l = some true := by
  unfold capstanlaw05_told.f
  rw [cparse_f hb hl 0 k hk, Option.bind_some, h]
  simp
theorem cawake_f (k : Nat) (hk : 40 ≤ k) : capstanlaw05_awake.f k = some true := by
  obtain ⟨d, rfl⟩ := Nat.exists_eq_add_of_le hk
  induction d with
  | zero => decide +kernel
  | succ d ih => exact capstanlaw05_awake.mono _ _ (ih (by omega))
end Go.Proofs.YtdfjjooejfgglaaDoor.M
