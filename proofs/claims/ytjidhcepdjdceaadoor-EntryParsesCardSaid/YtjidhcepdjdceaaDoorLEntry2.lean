/- Layer 20 in plain terms: what is parsed of bytes. -/
import Derived.Test.YtjidhcepdjdceaaDoorE5
import Derived.Test.YtjidhcepdjdceaaDoorE6
import Derived.Test.YtjidhcepdjdceaaDoorLEntry
import Derived.Test.YtjidhcepdjdceaaDoorLOctet3
namespace Go.Proofs.YtjidhcepdjdceaaDoor.M
open Go.RowKit Go.Proofs.YtjidhcepdjdceaaDoor.E Go.Proofs.YtjidhcepdjdceaaDoorW.PrintWords Go.Proofs.YtjidhcepdjdceaaDoorW.PrintLast Go.Proofs.YtjidhcepdjdceaaDoorW.PrintMore

/-- A number off the bytes, as long as nothing was wrong. -/
def enum (l : List Int) (a : Int) (bad : Bool) (w : Int) : Int × Int × Bool := if bad = true then (0, a, true) else if (get l a w).2.2 = 0 then ((get l a w).1, (get l a w).2.1, false) else (0, a, true)
theorem enum_f (l : List Int) (hb : isB l) (hl : l.length ≤ 140737488355327) (a : Int) (bad : Bool) (w : Int) (k : Nat) (hk : 12 ≤ k) : entry_reader_number.f k l a bad w = some (enum l a bad w) := by
  unfold entry_reader_number.f enum
  rw [get_f l hb (by omega) a w k hk, Option.bind_some]
def evals (l : List Int) : Nat → Int → Bool → List S37 → Int × Bool × List S37
  | 0, a, bad, acc => (a, bad, acc)
  | d + 1, a, bad, acc => if bad = true then (a, true, acc) else if (vread l a).2.2.2.2 = 0 then evals l d (vread l a).2.2.2.1 false (acc ++ [⟨(vread l a).1, (vread l a).2.1, (vread l a).2.2.1⟩]) else (a, true, acc)
theorem evals_f (l : List Int) (hb : isB l) (hl : l.length ≤ 140737488355327) (k : Nat) (hk : 20 ≤ k) (d : Nat) : ∀ (a : Int) (bad : Bool) (acc : List S37), d + acc.length ≤ 900 → entry_Parse.l0 k l d a bad acc = some (evals l d a bad acc) := by
  induction d with
  | zero => intro a bad acc _; rfl
  | succ d ih =>
    intro a bad acc h
    rw [entry_Parse.l0, evals, vread_f l hb hl a k hk, Option.bind_some]
    by_cases h1 : bad = true
    · rw [if_pos h1, if_pos h1]
    · rw [if_neg h1, if_neg h1]
      by_cases h2 : (vread l a).2.2.2.2 = 0
      · rw [if_pos h2, if_pos h2, if_pos (by omega)]
        exact ih _ _ _ (by simp; omega)
      · rw [if_neg h2, if_neg h2]
theorem evals_pread (l : List Int) (d : Nat) : ∀ (a : Int) (acc : List S37), (pread l d a acc).2.2 = 0 → evals l d a false acc = ((pread l d a acc).2.1, false, (pread l d a acc).1) := by
  induction d with
  | zero => intro a acc _; rfl
  | succ d ih =>
    intro a acc h
    simp only [pread] at h ⊢
    rw [evals, if_neg (by decide)]
    by_cases h2 : (vread l a).2.2.2.2 = 0
    · rw [if_pos h2] at h ⊢
      rw [if_pos h2]
      exact ih _ _ h
    · rw [if_neg h2] at h
      exact absurd h h2
theorem vread_vok (l : List Int) (a : Int) : -9223372036854775808 ≤ (vread l a).2.1 ∧ (vread l a).2.1 ≤ 9223372036854775807 := by
  unfold vread
  split
  · simp
  split
  · simp
  split
  · split
    · simp
    · dsimp only; unfold wrap64; omega
  split
  · split
    · simp
    · split
      · rename_i h
        unfold pm at h
        rw [decide_eq_true_eq] at h
        dsimp only
        omega
      · simp
  · simp
theorem evals_vok (l : List Int) (d : Nat) : ∀ (a : Int) (bad : Bool) (acc : List S37), (∀ v ∈ acc, vok v) → ∀ v ∈ (evals l d a bad acc).2.2, vok v := by
  induction d with
  | zero => intro a bad acc h; exact h
  | succ d ih =>
    intro a bad acc h
    rw [evals]
    split
    · exact h
    · split
      · refine ih _ _ _ (fun v hv => ?_)
        rcases List.mem_append.1 hv with h1 | h1
        · exact h v h1
        · obtain rfl := List.mem_singleton.1 h1
          exact vread_vok l a
      · exact h
def efail : Int × Int × Int × Int × List S37 × List Int × Int := (0, 0, 0, 0, [], [], 200)
def efin (l : List Int) (p s kd m : Int) (args : List S37) (b : List Int) (bad : Bool) : Int × Int × Int × Int × List S37 × List Int × Int := if bad = false ∧ ebytes p s kd m args b = (l, 0) then (p, s, kd, m, args, b, 0) else efail
theorem efin_f (l : List Int) (hl : isB l) (p s kd m : Int) (args : List S37) (b : List Int) (hb : isB b) (bad : Bool) (k : Nat) (hk : 20 ≤ k) : entry_Parse.fin k l p s kd m args b bad = some (efin l p s kd m args b bad) := by
  unfold entry_Parse.fin efin efail
  rw [ebytes_f _ _ _ _ _ _ _ hk, Option.bind_some, str_beq (ebytes_isB _ _ _ _ _ _ hb) hl]
  by_cases h : bad = false ∧ ebytes p s kd m args b = (l, 0)
  · rw [if_pos h, if_pos ⟨h.1, by rw [h.2], by rw [h.2]; simp⟩]
  · rw [if_neg h, if_neg (fun c => h ⟨c.1, Prod.ext (by simpa using c.2.2) c.2.1⟩)]
def eparse (l : List Int) : Int × Int × Int × Int × List S37 × List Int × Int :=
  let p := enum l 0 false 1
  let s := enum l p.2.1 p.2.2 6
  let q := enum l s.2.1 s.2.2 1
  if q.1 % 256 = 1 then
    let m := enum l q.2.1 q.2.2 1
    let n := enum l m.2.1 m.2.2 1
    let z := evals l (mn n.1 4).toNat n.2.1 n.2.2 []
    efin l p.1 s.1 1 m.1 z.2.2 [] z.2.1
  else if q.1 % 256 = 2 then efin l p.1 s.1 2 0 [] (getRow l q.2.1).1 (q.2.2 || (getRow l q.2.1).2.2 != 0)
  else efin l p.1 s.1 (q.1 % 256) 0 [] [] q.2.2
theorem getRow_isB {l : List Int} (hb : isB l) (a : Int) : isB (getRow l a).1 := by
  unfold getRow
  dsimp only
  split
  · split
    · exact isB_nil
    · exact piece_isB _ _ hb
  · exact isB_nil
theorem mn4 (n : Int) : (mn n 4).toNat ≤ 4 := by unfold mn; split <;> omega
theorem eparse_f (l : List Int) (hb : isB l) (hl : l.length ≤ 100000) (k : Nat) (hk : 30 ≤ k) : entry_Parse.f k l = some (eparse l) := by
  unfold entry_Parse.f eparse
  rw [enum_f l hb (by omega) _ _ _ _ (by omega), Option.bind_some, enum_f l hb (by omega) _ _ _ _ (by omega), Option.bind_some, enum_f l hb (by omega) _ _ _ _ (by omega), Option.bind_some]
  dsimp only
  split
  · rw [enum_f l hb (by omega) _ _ _ _ (by omega), Option.bind_some, enum_f l hb (by omega) _ _ _ _ (by omega), Option.bind_some, evals_f l hb (by omega) _ (by omega) _ _ _ _ (by have := mn4 (enum l (enum l (enum l (enum l (enum l 0 false 1).2.1 (enum l 0 false 1).2.2 6).2.1 (enum l (enum l 0 false 1).2.1 (enum l 0 false 1).2.2 6).2.2 1).2.1 (enum l (enum l (enum l 0 false 1).2.1 (enum l 0 false 1).2.2 6).2.1 (enum l (enum l 0 false 1).2.1 (enum l 0 false 1).2.2 6).2.2 1).2.2 1).2.1 (enum l (enum l (enum l (enum l 0 false 1).2.1 (enum l 0 false 1).2.2 6).2.1 (enum l (enum l 0 false 1).2.1 (enum l 0 false 1).2.2 6).2.2 1).2.1 (enum l (enum l (enum l 0 false 1).2.1 (enum l 0 false 1).2.2 6).2.1 (enum l (enum l 0 false 1).2.1 (enum l 0 false 1).2.2 6).2.2 1).2.2 1).2.2 1).1; simp; omega), Option.bind_some, efin_f l hb _ _ _ _ _ _ isB_nil _ _ (by omega)]
  · split
    · have hr := getRow_length l (enum l (enum l (enum l 0 false 1).2.1 (enum l 0 false 1).2.2 6).2.1 (enum l (enum l 0 false 1).2.1 (enum l 0 false 1).2.2 6).2.2 1).2.1
      rw [getRow_f l hb (by omega) _ _ (by omega), Option.bind_some]
      unfold bytes_Clone.f
      rw [if_pos (by omega), Option.bind_some, efin_f l hb _ _ _ _ _ _ (getRow_isB hb _) _ _ (by omega)]
    · rw [efin_f l hb _ _ _ _ _ _ isB_nil _ _ (by omega)]
theorem efin_back {l : List Int} {p s kd m : Int} {args : List S37} {b : List Int} {bad : Bool} : efin l p s kd m args b bad = efail ∨ (efin l p s kd m args b bad = (p, s, kd, m, args, b, 0) ∧ ebytes p s kd m args b = (l, 0)) := by
  unfold efin
  split
  · rename_i h; exact .inr ⟨rfl, h.2⟩
  · exact .inl rfl
/-- What is parsed has just those bytes. -/
theorem eparse_back (l : List Int) (hb : isB l) : eparse l = efail ∨ ∃ p s kd m args b, eparse l = (p, s, kd, m, args, b, 0) ∧ ebytes p s kd m args b = (l, 0) ∧ (∀ v ∈ args, vok v) ∧ isB b := by
  unfold eparse
  dsimp only
  split
  · rcases efin_back (l := l) with h | h
    · exact .inl h
    · exact .inr ⟨_, _, _, _, _, _, h.1, h.2, evals_vok _ _ _ _ _ (fun v hv => by cases hv), isB_nil⟩
  · split
    · rcases efin_back (l := l) with h | h
      · exact .inl h
      · exact .inr ⟨_, _, _, _, _, _, h.1, h.2, (fun v hv => by cases hv), getRow_isB hb _⟩
    · rcases efin_back (l := l) with h | h
      · exact .inl h
      · exact .inr ⟨_, _, _, _, _, _, h.1, h.2, (fun v hv => by cases hv), isB_nil⟩
theorem enum_at (a c : List Int) (n : Int) (h : 0 ≤ n ∧ n ≤ 255) (i : Int) (hi : i = a.length) : enum (a ++ n :: c) i false 1 = (n, i + 1, false) := by
  subst hi
  have e := put1 n h
  have := get_put (a := a) (c := c) (w := 1) (n := n) (by rw [e]) (by omega)
  rw [e] at this
  unfold enum
  rw [if_neg (by decide), show a ++ n :: c = a ++ [n] ++ c by simp, this, if_pos rfl]
theorem enum_at6 (a c : List Int) (n : Int) (h : 0 ≤ n ∧ n ≤ 1099511627776) (i : Int) (hi : i = a.length) : enum (a ++ (leb 6 n ++ c)) i false 6 = (n, i + 6, false) := by
  subst hi
  have e := put6 n h
  have := get_put (a := a) (c := c) (w := 6) (n := n) (by rw [e]) (by omega)
  rw [e] at this
  unfold enum
  rw [if_neg (by decide), ← List.append_assoc, this, if_pos rfl]
theorem efin_put (x y : List Int) (p s kd m : Int) (args : List S37) (b : List Int) (h : ebytes p s kd m args b = (x, 0)) : efin (x ++ y) p s kd m args b false = if y = [] then (p, s, kd, m, args, b, 0) else efail := by
  unfold efin
  rw [h]
  by_cases hy : y = []
  · subst hy
    rw [if_pos ⟨rfl, by simp⟩, if_pos rfl]
  · rw [if_neg (fun c => hy (by simpa using congrArg Prod.fst c.2)), if_neg hy]
/-- What has bytes is parsed from them; with more behind them, nothing is. -/
theorem eparse_put {p s kd m : Int} {args : List S37} {b : List Int} (h : eent p s kd m args b = true) (ho : ∀ v ∈ args, vok v) (y : List Int) : eparse ((ebytes p s kd m args b).1 ++ y) = if y = [] then (p, s, kd, m, args, b, 0) else efail := by
  obtain ⟨h1, h2⟩ := eent_ok h
  have he : ebytes p s kd m args b = (p :: (leb 6 s ++ kd :: ebody kd m args b), 0) := by unfold ebytes; rw [if_pos h]
  have hf := efin_put _ y p s kd m args b he
  have l6 := leb_length 6 s
  rw [he]
  dsimp only
  have e0 : p :: (leb 6 s ++ kd :: ebody kd m args b) ++ y = [] ++ p :: (leb 6 s ++ kd :: (ebody kd m args b ++ y)) := by simp
  have e1 : p :: (leb 6 s ++ kd :: ebody kd m args b) ++ y = [p] ++ (leb 6 s ++ kd :: (ebody kd m args b ++ y)) := by simp
  have e2 : p :: (leb 6 s ++ kd :: ebody kd m args b) ++ y = ([p] ++ leb 6 s) ++ kd :: (ebody kd m args b ++ y) := by simp
  obtain ⟨X, hX⟩ : ∃ X, X = p :: (leb 6 s ++ kd :: ebody kd m args b) ++ y := ⟨_, rfl⟩
  rw [← hX] at hf e0 e1 e2 ⊢
  have n0 : enum X 0 false 1 = (p, 1, false) := by rw [e0]; exact enum_at [] _ p (by omega) 0 rfl
  have n1 : enum X 1 false 6 = (s, 7, false) := by rw [e1]; exact enum_at6 [p] _ s (by omega) 1 rfl
  have n2 : enum X 7 false 1 = (kd, 8, false) := by rw [e2]; exact enum_at _ _ kd (by omega) 7 (by simp [l6])
  unfold eparse
  simp only [n0, n1, n2]
  rcases h2 with ⟨rfl, h3, h4, h5, rfl, h6⟩ | ⟨rfl, rfl, rfl, h3⟩
  · have eb : ebody 1 m args [] = m :: (args.length : Int) :: vflat args := by unfold ebody; rw [if_pos rfl]
    rw [eb] at e2
    have n3 : enum X 8 false 1 = (m, 9, false) := by
      rw [e2, show [p] ++ leb 6 s ++ 1 :: (m :: (args.length : Int) :: vflat args ++ y) = ([p] ++ leb 6 s ++ [1]) ++ m :: ((args.length : Int) :: (vflat args ++ y)) by simp]
      exact enum_at _ _ m (by omega) 8 (by simp [l6])
    have n4 : enum X 9 false 1 = ((args.length : Int), 10, false) := by
      rw [e2, show [p] ++ leb 6 s ++ 1 :: (m :: (args.length : Int) :: vflat args ++ y) = ([p] ++ leb 6 s ++ [1] ++ [m]) ++ (args.length : Int) :: (vflat args ++ y) by simp]
      exact enum_at _ _ _ (by omega) 9 (by simp [l6])
    have hp : pread X args.length 10 [] = (args, 10 + ((vflat args).length : Int), 0) := by
      have := pread_put args (fun v hv => ⟨h6 v hv, ho v hv⟩) ([p] ++ leb 6 s ++ [1] ++ [m] ++ [(args.length : Int)]) y []
      have hX2 : ([p] ++ leb 6 s ++ [1] ++ [m] ++ [(args.length : Int)]) ++ vflat args ++ y = X := by rw [e2]; simp
      have hl2 : (([p] ++ leb 6 s ++ [1] ++ [m] ++ [(args.length : Int)] : List Int).length : Int) = 10 := by simp [l6]
      rw [hX2, hl2] at this
      simpa using this
    have hz := evals_pread X args.length 10 [] (by rw [hp])
    rw [hp] at hz
    have hmn : (mn (args.length : Int) 4).toNat = args.length := by unfold mn; split <;> omega
    rw [if_pos (by decide)]
    simp only [n3, n4, hmn, hz]
    exact hf
  · have eb : ebody 2 0 [] b = (row b).1 := by unfold ebody row; rw [if_neg (by decide), if_neg (by omega)]
    rw [eb] at e2
    have hg := getRow_put ([p] ++ leb 6 s ++ [2]) y b (by omega)
    have hX2 : ([p] ++ leb 6 s ++ [2]) ++ (row b).1 ++ y = X := by rw [e2]; simp
    have hl2 : (([p] ++ leb 6 s ++ [2] : List Int).length : Int) = 8 := by simp [l6]
    rw [hX2, hl2] at hg
    rw [if_neg (by decide), if_pos (by decide), hg]
    exact hf
theorem ebytes_zero {p s k m : Int} {l : List S37} {b : List Int} : ((ebytes p s k m l b).2 == 0) = eent p s k m l b := by
  unfold ebytes
  cases h : eent p s k m l b <;> rfl
theorem ebytes_eent {p s k m : Int} {l : List S37} {b : List Int} (h : (ebytes p s k m l b).2 = 0) : eent p s k m l b = true := by
  rw [← ebytes_zero, h]; rfl
end Go.Proofs.YtjidhcepdjdceaaDoor.M
