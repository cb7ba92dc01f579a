/- A module is the same as itself, in plain terms (of capstanref08_Same.f). -/
import Derived.Test.YtilhmjhblfpknaaP5
import Derived.Test.YtilhmjhblfpknaaP6
import Derived.Test.YtilhmjhblfpknaaP7
import Derived.Test.YtilhmjhblfpknaaLCopy
namespace Go.Proofs.Ytilhmjhblfpknaa.M
open Go.RowKit Go.Proofs.Ytilhmjhblfpknaa.P Go.Proofs.YtilhmjhblfpknaaW.PrintWords Go.Proofs.YtilhmjhblfpknaaW.PrintLast Go.Proofs.YtilhmjhblfpknaaW.PrintMore

theorem sameV_l0 (l : List S38) (hl : l.length ≤ 1000000) : ∀ q i : Nat, i + q = l.length → ∀ k, q + 1 ≤ k → capstanref03_Same.l0 k l l (i : Int) = some true := by
  intro q
  induction q with
  | zero =>
    intro i hi k hk
    obtain ⟨k, rfl⟩ : ∃ k', k = k' + 1 := ⟨k - 1, by omega⟩
    rw [capstanref03_Same.l0, if_neg (by omega)]
  | succ q ih =>
    intro i hi k hk
    obtain ⟨k, rfl⟩ : ∃ k', k = k' + 1 := ⟨k - 1, by omega⟩
    have hw : wrap64 ((i : Int) + 1) = ((i + 1 : Nat) : Int) := by unfold wrap64; omega
    rw [capstanref03_Same.l0, if_pos (by omega), if_pos (by omega), if_pos (by omega), if_neg (by simp), hw]
    exact ih (i + 1) (by omega) k (by omega)
theorem sameV_f (l : List S38) (hl : l.length ≤ 1000000) (k : Nat) (hk : l.length + 1 ≤ k) : capstanref03_Same.f k l l = some true := by
  unfold capstanref03_Same.f
  rw [if_pos rfl]
  exact sameV_l0 l hl l.length 0 (Nat.zero_add _) k hk
theorem sameK_l0 (l : List Int) (hl : l.length ≤ 1000000) : ∀ q i : Nat, i + q = l.length → ∀ k, q + 1 ≤ k → capstanref07_SameKinds.l0 k l l (i : Int) = some true := by
  intro q
  induction q with
  | zero =>
    intro i hi k hk
    obtain ⟨k, rfl⟩ : ∃ k', k = k' + 1 := ⟨k - 1, by omega⟩
    rw [capstanref07_SameKinds.l0, if_neg (by omega)]
  | succ q ih =>
    intro i hi k hk
    obtain ⟨k, rfl⟩ : ∃ k', k = k' + 1 := ⟨k - 1, by omega⟩
    have hw : wrap64 ((i : Int) + 1) = ((i + 1 : Nat) : Int) := by unfold wrap64; omega
    rw [capstanref07_SameKinds.l0, if_pos (by omega), if_pos (by omega), if_pos (by omega), if_pos rfl, hw]
    exact ih (i + 1) (by omega) k (by omega)
theorem sameK_f (l : List Int) (hl : l.length ≤ 1000000) (k : Nat) (hk : l.length + 1 ≤ k) : capstanref07_SameKinds.f k l l = some true := by
  unfold capstanref07_SameKinds.f
  rw [if_pos rfl]
  exact sameK_l0 l hl l.length 0 (Nat.zero_add _) k hk
theorem sameC_l0 (l : List S43) (hl : l.length ≤ 1000000) : ∀ q i : Nat, i + q = l.length → ∀ k, q + 1 ≤ k → capstanref05_Same.l0 k l l (i : Int) = some true := by
  intro q
  induction q with
  | zero =>
    intro i hi k hk
    obtain ⟨k, rfl⟩ : ∃ k', k = k' + 1 := ⟨k - 1, by omega⟩
    rw [capstanref05_Same.l0, if_neg (by omega)]
  | succ q ih =>
    intro i hi k hk
    obtain ⟨k, rfl⟩ : ∃ k', k = k' + 1 := ⟨k - 1, by omega⟩
    have hw : wrap64 ((i : Int) + 1) = ((i + 1 : Nat) : Int) := by unfold wrap64; omega
    rw [capstanref05_Same.l0, if_pos (by omega), if_pos (by omega), if_pos (by omega), if_neg (by simp), hw]
    exact ih (i + 1) (by omega) k (by omega)
theorem sameC_f (l : List S43) (hl : l.length ≤ 1000000) (k : Nat) (hk : l.length + 1 ≤ k) : capstanref05_Same.f k l l = some true := by
  unfold capstanref05_Same.f
  rw [if_pos rfl]
  exact sameC_l0 l hl l.length 0 (Nat.zero_add _) k hk
variable {l0 l1 : List S38} {ms : List S34} {a3 : Int}
theorem same_l0 (hs : Small ms) (hf : Few ms) : ∀ q i : Nat, i + q = ms.length → ∀ k, 100100 + q ≤ k → capstanref08_Same.l0 k (i : Int) l0 l1 ms a3 l0 l1 ms a3 = some true := by
  have hlen := hs.len
  intro q
  induction q with
  | zero =>
    intro i hi k hk
    obtain ⟨k, rfl⟩ : ∃ k', k = k' + 1 := ⟨k - 1, by omega⟩
    rw [capstanref08_Same.l0, if_neg (by omega)]
  | succ q ih =>
    intro i hi k hk
    obtain ⟨k, rfl⟩ : ∃ k', k = k' + 1 := ⟨k - 1, by omega⟩
    have hw : wrap64 ((i : Int) + 1) = ((i + 1 : Nat) : Int) := by unfold wrap64; omega
    have hil : i < ms.length := by omega
    obtain ⟨f0, f1⟩ := hf i hil
    have hc := hs.code i (by omega) (by omega)
    rw [capstanref08_Same.l0, if_pos (by omega), if_pos (by omega), if_pos (by omega), capstanref07_Same.f, sameK_f _ (by omega) k (by omega), Option.bind_some, if_pos rfl, sameK_f _ (by omega) k (by omega), Option.bind_some, if_pos rfl, if_pos rfl, if_pos (by simp), if_pos rfl, if_pos rfl, Option.bind_some, if_pos (by simp), sameC_f _ (by omega) k (by omega), Option.bind_some, if_pos rfl, hw]
    exact ih (i + 1) (by omega) k (by omega)
theorem same_f (hs : Small ms) (hf : Few ms) (h0 : l0.length ≤ 100) (h1 : l1.length ≤ 100) (k : Nat) (hk : 100200 ≤ k) : capstanref08_Same.f k l0 l1 ms a3 l0 l1 ms a3 = some true := by
  have hlen := hs.len
  obtain ⟨k, rfl⟩ : ∃ k', k = k' + 1 := ⟨k - 1, by omega⟩
  unfold capstanref08_Same.f
  rw [if_pos rfl, sameV_f l0 (by omega) _ (by omega), Option.bind_some, if_pos rfl, sameV_f l1 (by omega) _ (by omega), Option.bind_some, if_pos rfl, bne_self_eq_false, capstanref08_Same.j0, if_neg (by decide)]
  exact same_l0 hs hf ms.length 0 (Nat.zero_add _) k (by omega)
end Go.Proofs.Ytilhmjhblfpknaa.M
