/- Layer 5 in plain terms, the text. -/
import Derived.Test.YtdfjjooejfgglaaDoorY3
import Derived.Test.YtdfjjooejfgglaaDoorLCodeP
namespace Go.Proofs.YtdfjjooejfgglaaDoor.M
open Go.RowKit Go.Proofs.YtdfjjooejfgglaaDoor.Y Go.Proofs.YtdfjjooejfgglaaDoorW.PrintWords Go.Proofs.YtdfjjooejfgglaaDoorW.PrintLast Go.Proofs.YtdfjjooejfgglaaDoorW.PrintMore

/-- The text of an instruction. -/
def nameb (a : Int) : List UInt8 := ((op_Name.f a).getD ⟨#[]⟩).data.toList
theorem name_own : ∀ n : Fin 256, op_Name.f ((n : Nat) : Int) = some ⟨(nameb ((n : Nat) : Int)).toArray⟩ ∧ (nameb ((n : Nat) : Int)).length ≤ 10 := by decide +kernel
theorem itoa_len4 : ∀ n : Fin 1025, (Lib.itoa ((n : Nat) : Int)).length ≤ 4 := by decide +kernel
theorem itoa_len {a : Int} (h : 0 ≤ a ∧ a ≤ 1024) : (Lib.itoa a).length ≤ 4 := by
  obtain ⟨n, hn⟩ : ∃ n : Fin 1025, a = ((n : Nat) : Int) := ⟨⟨a.toNat, by omega⟩, by simp; omega⟩
  rw [hn]
  exact itoa_len4 n
theorem ba_size (a : List UInt8) : (⟨a.toArray⟩ : ByteArray).size = a.length := by show a.toArray.size = _; simp
theorem ba_append (a b : List UInt8) : (⟨a.toArray⟩ : ByteArray) ++ ⟨b.toArray⟩ = ⟨(a ++ b).toArray⟩ := by
  apply ByteArray.ext
  rw [ByteArray.data_append]
  simp
def itext (x : IN) : List UInt8 := nameb x.f0 ++ (if (bnd x.f0).2 > 0 then 32 :: Lib.itoa x.f1 else []) ++ [10]
theorem text_l0 (l : List IN) : ∀ (k : Nat) (acc : List UInt8), isI l → l.all imays = true → acc.length + 40 * l.length ≤ 100000 → 10 ≤ k → code_Text.l0 k l acc = some (acc ++ l.flatMap itext) := by
  induction l with
  | nil => intro k acc _ _ _ _; simp [code_Text.l0]
  | cons x t ih =>
    intro k acc hI ha hb hk
    rw [List.all_cons, Bool.and_eq_true] at ha
    have hx := hI x List.mem_cons_self
    obtain ⟨i1, i2, i3, i4, i5, i6⟩ := imays_inv ha.1 hx
    obtain ⟨n, hn⟩ := byte_fin hx
    obtain ⟨n1, n3⟩ := name_own n
    rw [← hn] at n1 n3
    have hw : code_wide.f k x.f0 = some (decide ((bnd x.f0).2 > 0)) := by rw [hn]; exact wide_f n k (by omega)
    have hd := itoa_len ⟨i2, i3⟩
    have hI' : isI t := fun z hz => hI z (List.mem_cons_of_mem _ hz)
    rw [List.length_cons] at hb
    rw [code_Text.l0, n1, Option.bind_some, hw, Option.bind_some, ba_size, if_pos (by omega), List.flatMap_cons]
    by_cases h2 : (bnd x.f0).2 > 0
    · have et : itext x = nameb x.f0 ++ (32 :: Lib.itoa x.f1) ++ [10] := by unfold itext; rw [if_pos h2]
      rw [decide_eq_true h2, if_pos rfl, if_pos ⟨i2, by omega, by omega⟩, ih k _ hI' ha.2 (by simp; omega) hk, et]
      simp
    · have et : itext x = nameb x.f0 ++ [] ++ [10] := by unfold itext; rw [if_neg h2]
      rw [decide_eq_false h2, if_neg (by decide), ih k _ hI' ha.2 (by simp; omega) hk, et]
      simp
theorem text_f (l : List IN) (hI : isI l) (hl : l.length ≤ 2000) (k : Nat) (hk : 2100 ≤ k) : code_Text.f k l = some (if cmay l = true then (⟨(l.flatMap itext).toArray⟩, 0) else (⟨#[]⟩, 40)) := by
  unfold code_Text.f
  rw [cMay_f l hI hl k hk, Option.bind_some]
  cases hm : cmay l
  · rw [if_neg (by decide), if_neg (by decide)]
  · obtain ⟨h1, h2⟩ := cmay_inv hm
    rw [if_pos rfl, if_pos rfl, text_l0 l k [] hI h2 (by simp; omega) (by omega), Option.bind_some, List.nil_append]
end Go.Proofs.YtdfjjooejfgglaaDoor.M
