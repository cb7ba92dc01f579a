/- Layer 13 in plain terms: what Check tells; the chapter's examples (of pure_Check.f, capstanlaw13_three.f, capstanlaw13_awake.f). -/
import Derived.Test.YtkmnachdibhdhaaT5
import Derived.Test.YtkmnachdibhdhaaT6
import Derived.Test.YtkmnachdibhdhaaLPure1
namespace Go.Proofs.Ytkmnachdibhdhaa.M
open Go.RowKit Go.Proofs.Ytkmnachdibhdhaa.T Go.Proofs.YtkmnachdibhdhaaW.PrintWords Go.Proofs.YtkmnachdibhdhaaW.PrintLast Go.Proofs.YtkmnachdibhdhaaW.PrintMore

variable {l0 l1 : List S86} {ms : List S52} {a3 : Int}
def reads (ms : List S52) (j : Int) : Bool := (rd_T52 ms j).f3
/-- A method says well. -/
def WellAt (ms : List S52) (j : Int) : Prop := reads ms j = true → sto ms j = false ∧ ∀ x ∈ (ws ms).getD j.toNat [], reads ms x = true
def Well (ms : List S52) : Prop := ∀ j : Int, 0 ≤ j → j < (ms.length : Int) → WellAt ms j
theorem pcRow_f (hs : Small ms) (ho : okAll ms) (k : Nat) (hk : 100000 < k) : ∀ m i : Nat, m + i = ms.length → (∀ j : Int, 0 ≤ j → j < (i : Int) → WellAt ms j) → (Well ms ∧ pcRow (pcSt k ms) (ws ms) ms (m + 1) (i : Int) = some 0) ∨ (¬ Well ms ∧ pcRow (pcSt k ms) (ws ms) ms (m + 1) (i : Int) = some 130) := by
  have hlen := hs.len
  intro m
  induction m with
  | zero =>
    intro i hi h
    obtain rfl : i = ms.length := by omega
    exact .inl ⟨h, by rw [pcRow, if_neg (by omega)]⟩
  | succ m ih =>
    intro i hi h
    have hw : wrap64 ((i : Int) + 1) = ((i + 1 : Nat) : Int) := by unfold wrap64; omega
    have next : WellAt ms (i : Int) → (Well ms ∧ pcRow (pcSt k ms) (ws ms) ms (m + 1) ((i + 1 : Nat) : Int) = some 0) ∨ (¬ Well ms ∧ pcRow (pcSt k ms) (ws ms) ms (m + 1) ((i + 1 : Nat) : Int) = some 130) := fun hi2 => ih (i + 1) (by omega) fun j j0 j1 => by
      by_cases e : j = (i : Int)
      · rw [e]; exact hi2
      · exact h j j0 (by omega)
    rw [pcRow, if_pos (by omega), hw]
    by_cases hr : (rd_T52 ms (i : Int)).f3 = true
    · have hst : pcSt k ms (i : Int) = some (sto ms (i : Int)) := stores_f _ _ _ _ _ _ _ _ (hs.code (i : Int) (by omega) (by omega)) k (by have := hs.code (i : Int) (by omega) (by omega); omega)
      rw [if_pos hr, hst, Option.bind_some]
      cases hsto : sto ms (i : Int) with
      | true =>
        rw [if_pos rfl]
        exact .inr ⟨fun hW => (by have := (hW (i : Int) (by omega) (by omega) hr).1; rw [hsto] at this; cases this), rfl⟩
      | false =>
        have hin : pcIn ms.length ((ws ms).getD (i : Int).toNat []) = true := by
          refine List.all_eq_true.2 fun x hx => ?_
          have h1 := ws_in ho (i : Int) (by omega) (by rw [ws_len]; omega) x hx
          rw [ws_len] at h1
          simpa using h1
        rw [if_neg (by decide), if_pos hin]
        cases hany : ((ws ms).getD (i : Int).toNat []).any (pcLoud ms) with
        | true =>
          rw [if_pos rfl]
          refine .inr ⟨fun hW => ?_, rfl⟩
          obtain ⟨x, hx, hl⟩ := List.any_eq_true.1 hany
          have h1 := (hW (i : Int) (by omega) (by omega) hr).2 x hx
          have h2 : (!reads ms x) = true := hl
          rw [h1] at h2
          cases h2
        | false =>
          rw [if_neg (by decide)]
          refine next fun _ => ⟨hsto, fun x hx => ?_⟩
          have h1 := List.any_eq_false.1 hany x hx
          have h2 : ¬ (!reads ms x) = true := h1
          simpa using h2
    · rw [if_neg hr]
      exact next fun h2 => absurd h2 hr
theorem Check_f (hs : Small ms) (k : Nat) (hk : 100000 < k) : (okAll ms ∧ Well ms ∧ pure_Check.f k l0 l1 ms a3 = some 0) ∨ (okAll ms ∧ ¬ Well ms ∧ pure_Check.f k l0 l1 ms a3 = some 130) ∨ (¬ okAll ms ∧ pure_Check.f k l0 l1 ms a3 = some 2) := by
  have hlen := hs.len
  have hwl := ws_len (ms := ms)
  unfold pure_Check.f
  rcases pwhom_f (l0 := l0) (l1 := l1) (a3 := a3) hs k (by omega) with ⟨ho, h⟩ | ⟨ho, h⟩
  · rw [h, Option.bind_some]
    dsimp only
    rw [if_pos rfl, if_pos ⟨hwl, by omega, ws_small hs⟩]
    rcases pcRow_f hs ho k hk ms.length 0 (by omega) (fun j j0 j1 => by omega) with ⟨h1, h2⟩ | ⟨h1, h2⟩
    · exact .inl ⟨ho, h1, h2⟩
    · exact .inr (.inl ⟨ho, h1, h2⟩)
  · rw [h, Option.bind_some]
    exact .inr (.inr ⟨ho, rfl⟩)
/-! The chapter's examples. -/
def exP (a b c : Bool) (last : S70) : List S52 := [⟨[], [], 0, a, 0, 0, 0, [⟨30, 1, 0⟩]⟩, ⟨[], [], 0, b, 0, 0, 0, [⟨5, 0, 0⟩]⟩, ⟨[], [], 0, c, 0, 0, 0, [last]⟩]
theorem three_0 : capstanlaw13_three.f 200 0 (-1) = some ([], [], exP false false false ⟨0, 0, 0⟩, -1) := by kernel_rfl
theorem three_1 : capstanlaw13_three.f 200 1 (-1) = some ([], [], exP true false false ⟨0, 0, 0⟩, -1) := by kernel_rfl
theorem three_4 : capstanlaw13_three.f 200 4 (-1) = some ([], [], exP false false true ⟨0, 0, 0⟩, -1) := by kernel_rfl
theorem three_5 : capstanlaw13_three.f 200 0 5 = some ([], [], exP false false false ⟨30, 5, 0⟩, -1) := by kernel_rfl
theorem exP_small (a b c : Bool) (last : S70) : Small (exP a b c last) := by
  refine ⟨by simp [exP], fun j h0 h1 => ?_⟩
  simp [exP] at h1
  have : j = 0 ∨ j = 1 ∨ j = 2 := by omega
  rcases this with rfl | rfl | rfl <;> simp [exP, rd_T52]
theorem exP_ws (a b c : Bool) : ws (exP a b c ⟨0, 0, 0⟩) = [[1], [], []] := by
  show [sset (nm (exP a b c ⟨0, 0, 0⟩) 0), sset (nm (exP a b c ⟨0, 0, 0⟩) 1), sset (nm (exP a b c ⟨0, 0, 0⟩) 2)] = _
  rw [show nm (exP a b c ⟨0, 0, 0⟩) 0 = [1] from rfl, show nm (exP a b c ⟨0, 0, 0⟩) 1 = [] from rfl, show nm (exP a b c ⟨0, 0, 0⟩) 2 = [] from rfl, sset_rise (by decide), sset_rise (by decide)]
theorem exP_ok (a b c : Bool) : okAll (exP a b c ⟨0, 0, 0⟩) := by
  intro j hj
  have : j = 0 ∨ j = 1 ∨ j = 2 := by simp [exP] at hj; omega
  rcases this with rfl | rfl | rfl
  · show cl_ok 3 [1] = true; decide
  · show cl_ok 3 [] = true; decide
  · show cl_ok 3 [] = true; decide
theorem pawake_f (k : Nat) (hk : 100001 ≤ k) : capstanlaw13_awake.f k = some true := by
  have t0 := up (f := fun k => capstanlaw13_three.f k 0 (-1)) (fun k => capstanlaw13_three.mono _ _ k) three_0 k (by omega)
  have t1 := up (f := fun k => capstanlaw13_three.f k 1 (-1)) (fun k => capstanlaw13_three.mono _ _ k) three_1 k (by omega)
  have t4 := up (f := fun k => capstanlaw13_three.f k 4 (-1)) (fun k => capstanlaw13_three.mono _ _ k) three_4 k (by omega)
  have t5 := up (f := fun k => capstanlaw13_three.f k 0 5) (fun k => capstanlaw13_three.mono _ _ k) three_5 k (by omega)
  have s0 := Stores_f (l0 := []) (l1 := []) (a3 := -1) (exP_small false false false ⟨0, 0, 0⟩) 1 k (by omega)
  have s0' : pure_Stores.f k [] [] (exP false false false ⟨0, 0, 0⟩) (-1) 1 = some (true, 0) := s0
  have c1 : pure_Check.f k [] [] (exP true false false ⟨0, 0, 0⟩) (-1) = some 130 := by
    rcases Check_f (l0 := []) (l1 := []) (a3 := -1) (exP_small true false false ⟨0, 0, 0⟩) k (by omega) with ⟨_, hW, _⟩ | ⟨_, _, h⟩ | ⟨h, _⟩
    · have := (hW 0 (by decide) (by decide) rfl).2 1 (by rw [exP_ws]; decide)
      cases this
    · exact h
    · exact absurd (exP_ok _ _ _) h
  have c4 : pure_Check.f k [] [] (exP false false true ⟨0, 0, 0⟩) (-1) = some 0 := by
    rcases Check_f (l0 := []) (l1 := []) (a3 := -1) (exP_small false false true ⟨0, 0, 0⟩) k (by omega) with ⟨_, _, h⟩ | ⟨_, hW, _⟩ | ⟨h, _⟩
    · exact h
    · refine absurd (fun j j0 j1 hr => ?_) hW
      have hj : j = 0 ∨ j = 1 ∨ j = 2 := by simp [exP] at j1; omega
      rcases hj with rfl | rfl | rfl
      · cases hr
      · cases hr
      · refine ⟨rfl, fun x hx => ?_⟩
        rw [exP_ws] at hx
        cases hx
    · exact absurd (exP_ok _ _ _) h
  have c5 : pure_Check.f k [] [] (exP false false false ⟨30, 5, 0⟩) (-1) = some 2 := by
    rcases Check_f (l0 := []) (l1 := []) (a3 := -1) (exP_small false false false ⟨30, 5, 0⟩) k (by omega) with ⟨h, _⟩ | ⟨h, _⟩ | ⟨_, h⟩
    · have : cl_ok 3 [5] = true := h 2 (by decide)
      cases this
    · have : cl_ok 3 [5] = true := h 2 (by decide)
      cases this
    · exact h
  rcases Pure_f (l0 := []) (l1 := []) (a3 := -1) (exP_small false false false ⟨0, 0, 0⟩) k (by omega) with ⟨_, o, h1, h2, h3⟩ | ⟨h, _⟩
  case inr => exact absurd (exP_ok _ _ _) h
  have b1 : Impure (exP false false false ⟨0, 0, 0⟩) 1 := .store (by decide) (by rw [exP_ws]; decide) rfl
  have b0 : Impure (exP false false false ⟨0, 0, 0⟩) 0 := .call (by decide) (by rw [exP_ws]; decide) (by rw [exP_ws]; decide) b1
  have b2 : ¬ Impure (exP false false false ⟨0, 0, 0⟩) 2 := fun h => by
    cases h with
    | store _ _ h => cases h
    | call _ _ h => rw [exP_ws] at h; cases h
  have e0 : rdOf false o 0 = false := (h3 0 (by decide) (by decide)).2 b0
  have e1 : rdOf false o 1 = false := (h3 1 (by decide) (by decide)).2 b1
  have e2 : rdOf false o 2 = true := by
    have : ¬ tr o 2 = false := fun h => b2 ((h3 2 (by decide) (by decide)).1 h)
    show tr o 2 = true
    simpa using this
  have hl : (o.length : Int) = 3 := by rw [h2]; rfl
  unfold capstanlaw13_awake.f
  simp only [t0, t1, t4, t5, s0', c1, c4, c5, h1, Option.bind_some, hl, e0, e1, e2]
  rfl
end Go.Proofs.Ytkmnachdibhdhaa.M
