/- Layer 11 in plain terms: rows of bits, the modules made of them (of capstanlaw11_made.f, calls_Deep.f); where no method is within a ring. -/
import Derived.Test.YtkmnachdibhdhaaP4
import Derived.Test.YtkmnachdibhdhaaP5
import Derived.Laws.BitsAllLaws
import Derived.Test.YtkmnachdibhdhaaLCalls3
import Derived.Test.YtkmnachdibhdhaaLCalls5
namespace Go.Proofs.Ytkmnachdibhdhaa.M
open Go.RowKit Go.Proofs.Ytkmnachdibhdhaa.P Go.Proofs.YtkmnachdibhdhaaW.PrintWords Go.Proofs.YtkmnachdibhdhaaW.PrintLast Go.Proofs.YtkmnachdibhdhaaW.PrintMore

theorem bit_and (r n : Nat) (hr : r < 65536) (hn : n < 16) : Go.bits .and .u16 (shr .u16 (r : Int) (n : Int)) 1 = 1 ↔ r.testBit n = true := by
  have h1 : shr .u16 (r : Int) (n : Int) = ((r / 2 ^ n : Nat) : Int) := by
    unfold shr
    rw [Int.toNat_natCast, show min n IntKind.u16.bits = n from Nat.min_eq_left (by show n ≤ 16; omega)]
    simp
  have h2 : r / 2 ^ n < 65536 := Nat.lt_of_le_of_lt (Nat.div_le_self _ _) hr
  rw [h1, show (1 : Int) = ((1 : Nat) : Int) from rfl, u16_and_nat _ _ h2 (by decide), Nat.and_one_is_mod, Nat.testBit_eq_decide_div_mod_eq, decide_eq_true_eq]
  omega
theorem bit_or (r n : Nat) (hr : r < 65536) (hn : n < 16) : Go.bits .or .u16 (r : Int) (shl .u16 1 (n : Int)) = ((r ||| 2 ^ n : Nat) : Int) := by
  have h0 : 2 ^ n < 65536 := Nat.lt_of_lt_of_le (Nat.pow_lt_pow_right (by decide) hn) (by decide)
  have h1 : shl .u16 1 (n : Int) = ((2 ^ n : Nat) : Int) := by
    unfold shl
    rw [Int.toNat_natCast, show min n IntKind.u16.bits = n from Nat.min_eq_left (by show n ≤ 16; omega), Int.one_mul]
    have : (2 : Int) ^ n = ((2 ^ n : Nat) : Int) := by simp
    rw [this, IntKind.wrap_u16]
    clear this
    generalize 2 ^ n = v at *
    omega
  rw [h1, u16_or_nat _ _ hr h0]
/-- The methods that a row's bits tell. -/
def rb (xs : List Int) (k : Nat) : List Int := if k < xs.length then ((List.range 16).filter fun n => (xs.getD k 0).toNat.testBit n).map fun (n : Nat) => (n : Int) else []
def Row16 (xs : List Int) : Prop := ∀ x ∈ xs, 0 ≤ x ∧ x < 65536
def mds (many : Nat) (xs : List Int) : List S52 := (List.range many).map fun k => mt (rb xs k)
theorem made_l1 (xs : List Int) (hx : Row16 xs) (many : Int) (k : Nat) (hk : k < xs.length) (acc : List S52) (ha : acc.length ≤ 1000) : ∀ (m n : Nat) (cs : List Int) (q : Nat), n + m = 16 → cs.length ≤ n → 
    capstanlaw11_made.l1 (q + 2 * m + 2) many xs (k : Int) (n : Int) acc (-1) 1 false 0 0 0 (cs.map fun x => ⟨30, x, 0⟩) =
    capstanlaw11_made.l0 q many xs (wrap64 ((k : Int) + 1)) (acc ++ [mt (cs ++ ((List.range' n m).filter fun n => (xs.getD k 0).toNat.testBit n).map fun (n : Nat) => (n : Int))]) (-1) := by
  obtain ⟨h0, h1⟩ := hx _ (List.getElem_mem hk)
  have hg : xs.getD k 0 = xs[k] := by simp [hk]
  have hrd : rd xs (k : Int) = xs[k] := by simp [rd, hk]
  intro m
  induction m with
  | zero =>
    intro n cs q hn hc
    obtain rfl : n = 16 := by omega
    rw [show q + 2 * 0 + 2 = (q + 1) + 1 from rfl, capstanlaw11_made.l1, if_neg (by decide), capstanlaw11_made.j2, if_neg (by decide), if_pos (by simp; omega), if_pos (by omega)]
    simp [mt]
  | succ m ih =>
    intro n cs q hn hc
    have hn2 : n < 16 := by omega
    have hw : wrap64 ((n : Int) + 1) = ((n + 1 : Nat) : Int) := by unfold wrap64; omega
    rw [show q + 2 * (m + 1) + 2 = (q + 2 * m + 2 + 1) + 1 by omega, capstanlaw11_made.l1, if_pos (by omega), decide_eq_true (by omega), capstanlaw11_made.j2, if_pos rfl, if_pos (by omega), if_pos (by omega), if_pos (by omega), hrd, hw, List.range'_succ, List.filter_cons]
    have hb := bit_and xs[k].toNat n (by omega) hn2
    rw [Int.toNat_of_nonneg h0] at hb
    rw [hg]
    by_cases hc2 : xs[k].toNat.testBit n = true
    · rw [if_pos (hb.2 hc2), if_pos (by simp; omega), if_pos hc2]
      have := ih (n + 1) (cs ++ [(n : Int)]) q (by omega) (by simp; omega)
      rw [List.map_append, hg] at this
      refine Eq.trans this ?_
      simp
    · rw [if_neg (fun h => hc2 (hb.1 h)), if_neg hc2]
      have := ih (n + 1) cs q (by omega) (by omega)
      rw [hg] at this
      exact this
theorem made_l0 (xs : List Int) (hx : Row16 xs) (many : Nat) (hm : many ≤ 16) : ∀ m k : Nat, k + m = many → capstanlaw11_made.l0 (40 * m + 1) (many : Int) xs (k : Int) ((List.range k).map fun k => mt (rb xs k)) (-1) = some ([], [], mds many xs, -1) := by
  intro m
  induction m with
  | zero =>
    intro k hk
    obtain rfl : k = many := by omega
    rw [capstanlaw11_made.l0, if_neg (by omega)]
    rfl
  | succ m ih =>
    intro k hk
    have hw : wrap64 ((k : Int) + 1) = ((k + 1 : Nat) : Int) := by unfold wrap64; omega
    have hr : ((List.range k).map fun k => mt (rb xs k)) ++ [mt (rb xs k)] = (List.range (k + 1)).map fun k => mt (rb xs k) := by rw [List.range_succ, List.map_append]; rfl
    have hi := ih (k + 1) (by omega)
    rw [← hr] at hi
    have hlen : ((List.range k).map fun k => mt (rb xs k)).length ≤ 1000 := by simp; omega
    generalize ((List.range k).map fun k => mt (rb xs k)) = acc at *
    rw [show 40 * (m + 1) + 1 = (40 * m + 40) + 1 by omega, capstanlaw11_made.l0, if_pos (by omega)]
    by_cases hkx : k < xs.length
    · have h1 := made_l1 xs hx (many : Int) k hkx acc hlen 16 0 [] (40 * m + 6) (by omega) (by simp)
      rw [List.map_nil] at h1
      refine Eq.trans h1 ?_
      have h2 : ([] : List Int) ++ ((List.range' 0 16).filter fun n => (xs.getD k 0).toNat.testBit n).map (fun (n : Nat) => (n : Int)) = rb xs k := by unfold rb; rw [if_pos hkx, List.range_eq_range']; rfl
      rw [h2, hw]
      exact up (f := fun q => capstanlaw11_made.l0 q (many : Int) xs ((k + 1 : Nat) : Int) (acc ++ [mt (rb xs k)]) (-1)) (fun q => (capstanlaw11_made.mono_l q).1 _ _ _ _ _) hi (40 * m + 6) (by omega)
    · have h2 : rb xs k = [] := by unfold rb; rw [if_neg hkx]
      rw [h2] at hi
      rw [show 40 * m + 40 = (40 * m + 38 + 1) + 1 by omega, capstanlaw11_made.l1, if_pos (by decide), decide_eq_false (by omega), capstanlaw11_made.j2, if_neg (by decide), if_pos (by simp), if_pos (by omega), hw]
      exact up (f := fun q => capstanlaw11_made.l0 q (many : Int) xs ((k + 1 : Nat) : Int) (acc ++ [mt []]) (-1)) (fun q => (capstanlaw11_made.mono_l q).1 _ _ _ _ _) hi (40 * m + 38) (by omega)
theorem made_f (xs : List Int) (hx : Row16 xs) (many : Nat) (hm : many ≤ 16) (k : Nat) (hk : 1000 ≤ k) : capstanlaw11_made.f k (many : Int) xs = some ([], [], mds many xs, -1) :=
  up (f := fun k => capstanlaw11_made.f k (many : Int) xs) (fun k => capstanlaw11_made.mono _ _ k) (made_l0 xs hx many hm many 0 (by omega)) k (by omega)
theorem mem_rb {xs : List Int} {k : Nat} {x : Int} : x ∈ rb xs k ↔ k < xs.length ∧ 0 ≤ x ∧ x < 16 ∧ (xs.getD k 0).toNat.testBit x.toNat = true := by
  unfold rb
  by_cases h : k < xs.length
  · rw [if_pos h, List.mem_map]
    constructor
    · rintro ⟨n, hn, rfl⟩
      obtain ⟨h1, h2⟩ := List.mem_filter.1 hn
      have := List.mem_range.1 h1
      exact ⟨h, by omega, by omega, h2⟩
    · rintro ⟨_, h1, h2, h3⟩
      exact ⟨x.toNat, List.mem_filter.2 ⟨List.mem_range.2 (by omega), h3⟩, by omega⟩
  · rw [if_neg h]
    exact ⟨fun h2 => absurd h2 List.not_mem_nil, fun h2 => absurd h2.1 h⟩
theorem mds_len (many : Nat) (xs : List Int) : (mds many xs).length = many := by simp [mds]
theorem nm_mds (many : Nat) (xs : List Int) (k : Nat) (h : k < many) : nm (mds many xs) k = rb xs k := by
  unfold nm
  have : rd_T52 (mds many xs) (k : Int) = mt (rb xs k) := by simp [rd_T52, mds, h]
  rw [this]
  exact nm_mt _
theorem mds_small (many : Nat) (hm : many ≤ 16) (xs : List Int) : Small (mds many xs) := by
  refine ⟨by rw [mds_len]; omega, fun j h0 h1 => ?_⟩
  rw [mds_len] at h1
  obtain ⟨k, rfl⟩ : ∃ k : Nat, j = (k : Int) := ⟨j.toNat, by omega⟩
  have hk : k < many := by omega
  have : rd_T52 (mds many xs) (k : Int) = mt (rb xs k) := by simp [rd_T52, mds, hk]
  rw [this]
  have h2 : (rb xs k).length ≤ 16 := by
    unfold rb
    split
    · rw [List.length_map]; exact Nat.le_trans (List.length_filter_le _ _) (by simp)
    · simp
  simp [mt]
  omega
/-- Where each calls such alone as have less of something, no set of methods calls within itself. -/
theorem no_ring {ms : List S52} (g : Int → Nat) (hw : WhomOk (ws ms)) (h : ∀ z : Int, 0 ≤ z → z < ((ws ms).length : Int) → ∀ x ∈ (ws ms).getD z.toNat [], g x < g z) : ¬ Ring ms := by
  rintro ⟨o, hI, hne, hr⟩
  have key : ∀ m z, g z = m → z ∈ odKeys (ws ms).length o → False := by
    intro m
    induction m using Nat.strongRecOn with
    | _ m ih =>
      intro z hz hzo
      obtain ⟨⟨h0, h1⟩, _⟩ := odKeys_mem.1 hzo
      obtain ⟨x, hx, hxo⟩ := hr z hzo
      have hxr := (hw z.toNat (by omega)).2 x hx
      exact ih (g x) (by have := h z h0 h1 x hx; omega) x rfl (odKeys_mem.2 ⟨hxr, hxo⟩)
  cases hk : odKeys (ws ms).length o with
  | nil => exact hne hk
  | cons z t => exact key _ z rfl (by rw [hk]; exact List.mem_cons_self ..)
end Go.Proofs.Ytkmnachdibhdhaa.M
