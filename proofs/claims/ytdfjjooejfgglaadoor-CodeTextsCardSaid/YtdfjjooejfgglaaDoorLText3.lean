/- code.Parse in plain terms, without the document's own reading. -/
import Derived.Test.YtdfjjooejfgglaaDoorY6
import Derived.Test.YtdfjjooejfgglaaDoorLText
namespace Go.Proofs.YtdfjjooejfgglaaDoor.M
open Go Go.RowKit Go.Proofs.YtdfjjooejfgglaaDoor.Y Go.Proofs.YtdfjjooejfgglaaDoorW.PrintWords Go.Proofs.YtdfjjooejfgglaaDoorW.PrintLast Go.Proofs.YtdfjjooejfgglaaDoorW.PrintMore
/-- What has a text is parsed from it. -/
theorem parse_put {L : List IN} (hI : isI L) (hm : cmay L = true) (k : Nat) (hk : 2200 ≤ k) : code_Parse.f k ⟨(L.flatMap itext).toArray⟩ = some (L, 0) := by
  obtain ⟨q1, q2⟩ := cmay_inv hm
  have hl := text_length hI q2
  have hr := lines_run k (by omega) L [] 4001 hI q2 (by omega) (by simpa using q1.2)
  rw [List.nil_append] at hr
  unfold code_Parse.f
  rw [ba_size, if_pos (by omega), hr, Option.bind_some, text_f L hI (by omega) k (by omega), Option.bind_some, if_pos hm, if_pos ⟨rfl, rfl⟩]
/-- What is parsed has just that text. -/
theorem parse_inv (l : List UInt8) (hl : l.length ≤ 4000) (k : Nat) (hk : 2200 ≤ k) : code_Parse.f k ⟨l.toArray⟩ = some ([], 40) ∨ ∃ L, code_Parse.f k ⟨l.toArray⟩ = some (L, 0) ∧ isI L ∧ cmay L = true ∧ l = L.flatMap itext := by
  obtain ⟨L, h1, h2, h3⟩ := lines_tot k (by omega) 4001 ⟨l.toArray⟩ [] (by rw [ba_size]; omega) (fun _ h => by cases h) (by simp)
  unfold code_Parse.f
  rw [ba_size, if_pos hl, h1, Option.bind_some, text_f L h2 (by omega) k (by omega), Option.bind_some]
  cases hm : cmay L
  · exact .inl (by simp)
  · simp only [reduceIte]
    by_cases h : (⟨(L.flatMap itext).toArray⟩ : ByteArray) = ⟨l.toArray⟩
    · refine .inr ⟨L, by simp [h], h2, hm, ?_⟩
      have := congrArg (fun s : ByteArray => s.data.toList) h
      simpa using this.symm
    · exact .inl (by simp [h])
end Go.Proofs.YtdfjjooejfgglaaDoor.M
