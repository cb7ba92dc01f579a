/- Layer 7: what has bytes is read from them; what is read has just those bytes; in plain terms. -/
import Derived.Test.YtdbdajifalioiaaR0
import Derived.Test.YtdbdajifalioiaaLMethod2
import Derived.Test.YtdbdajifalioiaaLOctet2
namespace Go.Proofs.Ytdbdajifalioiaa.M
open Go.RowKit Go.Proofs.Ytdbdajifalioiaa.R Go.Proofs.YtdbdajifalioiaaW.PrintWords Go.Proofs.YtdbdajifalioiaaW.PrintLast Go.Proofs.YtdbdajifalioiaaW.PrintMore

theorem piece_mid (x p y : List Int) : piece (x ++ p ++ y) (x.length : Int) (p.length : Int) = p := by
  unfold piece
  rw [Int.toNat_natCast, Int.toNat_natCast, List.append_assoc, List.drop_left, List.take_left]
theorem st_put (x y : List Int) (w : Nat) (n lo hi : Int) (hw : 1 ≤ w ∧ w ≤ 3) (h0 : 0 ≤ n) (h1 : n < 256 ^ w) (hlo : lo ≤ n) (hhi : n ≤ hi) : st (x ++ leb w n ++ y) w lo hi x.length = (n, (x.length : Int) + w, 0) := by
  have hp : piece (x ++ leb w n ++ y) (x.length : Int) (w : Int) = leb w n := by
    have := piece_mid x (leb w n) y
    rwa [leb_length] at this
  have h3 : (256 : Int) ^ w ≤ 16777216 := by
    rcases (by omega : w = 1 ∨ w = 2 ∨ w = 3) with rfl | rfl | rfl <;> decide
  have hg : get (x ++ leb w n ++ y) x.length w = (n, (x.length : Int) + w, 0) := by
    unfold get
    have hl := leb_length w n
    rw [if_neg (by simp; omega), if_neg (by simp; omega), hp, val_leb w n h0 h1, if_neg (by omega)]
  unfold st
  rw [hg, if_pos rfl, if_neg (by omega)]
theorem st_byte (x y : List Int) (b lo hi : Int) (h0 : 0 ≤ b ∧ b ≤ 255) (hlo : lo ≤ b) (hhi : b ≤ hi) : st (x ++ b :: y) 1 lo hi x.length = (b, (x.length : Int) + 1, 0) := by
  have := st_put x y 1 b lo hi (by omega) h0.1 (by omega) hlo hhi
  have e : leb 1 b = [b] := by simp [leb]; omega
  rw [e] at this
  simpa using this
theorem kd_bound {x : Int} (h : kd x = true) : 1 ≤ x ∧ x ≤ 3 := by
  unfold kd at h
  have := of_decide_eq_true h
  omega
theorem kf_put (y : List Int) : ∀ (ks x acc : List Int), ks.all kd = true → kf (x ++ ks ++ y) ks.length x.length acc = (acc ++ ks, (x.length : Int) + ks.length, 0) := by
  intro ks
  induction ks with
  | nil => intro x acc _; simp [kf]
  | cons k ks ih =>
    intro x acc h
    rw [List.all_cons, Bool.and_eq_true] at h
    have hk := kd_bound h.1
    have e1 : x ++ k :: ks ++ y = x ++ k :: (ks ++ y) := by simp
    have e2 : x ++ k :: (ks ++ y) = (x ++ [k]) ++ ks ++ y := by simp
    rw [List.length_cons, kf, e1, st_byte x _ k 1 3 (by omega) hk.1 hk.2, if_pos rfl, show k % 256 = k by omega, e2]
    have := ih (x ++ [k]) (acc ++ [k]) h.2
    rw [show (((x ++ [k]).length : Nat) : Int) = (x.length : Int) + 1 by simp] at this
    rw [this]
    simp
    omega
theorem krow_put (x ks y : List Int) (most : Int) (h : ks.all kd = true) (hl : (ks.length : Int) ≤ most) (h255 : ks.length ≤ 255) : krow (x ++ ((ks.length : Int) :: ks) ++ y) x.length most = (ks, (x.length : Int) + 1 + ks.length, 0) := by
  unfold krow
  have e1 : x ++ ((ks.length : Int) :: ks) ++ y = x ++ (ks.length : Int) :: (ks ++ y) := by simp
  have e2 : x ++ (ks.length : Int) :: (ks ++ y) = (x ++ [(ks.length : Int)]) ++ ks ++ y := by simp
  rw [e1, st_byte x _ _ 0 most (by omega) (by omega) hl, if_pos rfl, e2]
  have := kf_put y ks (x ++ [(ks.length : Int)]) [] h
  rw [show (((x ++ [(ks.length : Int)]).length : Nat) : Int) = (x.length : Int) + 1 by simp] at this
  rw [show ((ks.length : Int)).toNat = ks.length by omega]
  simpa using this
def mnum (r : Int) (q : Bool) (fu st hp : Int) : List Int := [r, if q = true then 1 else 0] ++ (leb 3 fu ++ (leb 2 st ++ leb 2 hp))
theorem mnum_length (r : Int) (q : Bool) (fu st hp : Int) : (mnum r q fu st hp).length = 9 := by
  simp [mnum, leb_length]
theorem mnums_put (x y A L : List Int) (r : Int) (q : Bool) (fu sk hp : Int) (hr : r = 1 ∨ r = 2) (h1 : 0 ≤ fu ∧ fu ≤ 1048576) (h2 : 0 ≤ sk ∧ sk ≤ 256) (h3 : 0 ≤ hp ∧ hp ≤ 1024) :
    mnums (x ++ mnum r q fu sk hp ++ y) A L x.length = (A, L, r, q, fu, sk, hp, [], (x.length : Int) + 9, 0) := by
  have hq : (0 : Int) ≤ (if q = true then 1 else 0) ∧ (if q = true then (1 : Int) else 0) ≤ 1 := by split <;> omega
  have q1 : ((if q = true then (1 : Int) else 0) == 1) = q := by cases q <;> rfl
  generalize hb : (if q = true then (1 : Int) else 0) = b at *
  have e0 : x ++ mnum r q fu sk hp ++ y = x ++ r :: (b :: (leb 3 fu ++ (leb 2 sk ++ (leb 2 hp ++ y)))) := by simp [mnum, hb]
  have e1 : x ++ r :: (b :: (leb 3 fu ++ (leb 2 sk ++ (leb 2 hp ++ y)))) = (x ++ [r]) ++ b :: (leb 3 fu ++ (leb 2 sk ++ (leb 2 hp ++ y))) := by simp
  have e2 : x ++ r :: (b :: (leb 3 fu ++ (leb 2 sk ++ (leb 2 hp ++ y)))) = (x ++ [r, b]) ++ leb 3 fu ++ (leb 2 sk ++ (leb 2 hp ++ y)) := by simp
  have e3 : x ++ r :: (b :: (leb 3 fu ++ (leb 2 sk ++ (leb 2 hp ++ y)))) = (x ++ [r, b] ++ leb 3 fu) ++ leb 2 sk ++ (leb 2 hp ++ y) := by simp
  have e4 : x ++ r :: (b :: (leb 3 fu ++ (leb 2 sk ++ (leb 2 hp ++ y)))) = (x ++ [r, b] ++ leb 3 fu ++ leb 2 sk) ++ leb 2 hp ++ y := by simp
  have s1 : st (x ++ r :: (b :: (leb 3 fu ++ (leb 2 sk ++ (leb 2 hp ++ y))))) 1 1 2 x.length = (r, (x.length : Int) + 1, 0) := st_byte x _ r 1 2 (by omega) (by omega) (by omega)
  have s2 : st (x ++ r :: (b :: (leb 3 fu ++ (leb 2 sk ++ (leb 2 hp ++ y))))) 1 0 1 ((x.length : Int) + 1) = (b, (x.length : Int) + 1 + 1, 0) := by
    have := st_byte (x ++ [r]) (leb 3 fu ++ (leb 2 sk ++ (leb 2 hp ++ y))) b 0 1 (by omega) (by omega) (by omega)
    rw [e1]; simpa using this
  have s3 : st (x ++ r :: (b :: (leb 3 fu ++ (leb 2 sk ++ (leb 2 hp ++ y))))) 3 0 1048576 ((x.length : Int) + 1 + 1) = (fu, (x.length : Int) + 1 + 1 + 3, 0) := by
    have := st_put (x ++ [r, b]) (leb 2 sk ++ (leb 2 hp ++ y)) 3 fu 0 1048576 (by omega) h1.1 (by omega) h1.1 h1.2
    rw [show (((x ++ [r, b]).length : Nat) : Int) = (x.length : Int) + 1 + 1 by simp; omega] at this
    rw [e2]; exact this
  have s4 : st (x ++ r :: (b :: (leb 3 fu ++ (leb 2 sk ++ (leb 2 hp ++ y))))) 2 0 256 ((x.length : Int) + 1 + 1 + 3) = (sk, (x.length : Int) + 1 + 1 + 3 + 2, 0) := by
    have := st_put (x ++ [r, b] ++ leb 3 fu) (leb 2 hp ++ y) 2 sk 0 256 (by omega) h2.1 (by omega) h2.1 h2.2
    rw [show (((x ++ [r, b] ++ leb 3 fu).length : Nat) : Int) = (x.length : Int) + 1 + 1 + 3 by simp [leb_length]; omega] at this
    rw [e3]; exact this
  have s5 : st (x ++ r :: (b :: (leb 3 fu ++ (leb 2 sk ++ (leb 2 hp ++ y))))) 2 0 1024 ((x.length : Int) + 1 + 1 + 3 + 2) = (hp, (x.length : Int) + 1 + 1 + 3 + 2 + 2, 0) := by
    have := st_put (x ++ [r, b] ++ leb 3 fu ++ leb 2 sk) y 2 hp 0 1024 (by omega) h3.1 (by omega) h3.1 h3.2
    rw [show (((x ++ [r, b] ++ leb 3 fu ++ leb 2 sk).length : Nat) : Int) = (x.length : Int) + 1 + 1 + 3 + 2 by simp [leb_length]; omega] at this
    rw [e4]; exact this
  unfold mnums
  rw [e0, s1, if_pos rfl]
  dsimp only
  rw [s2, if_pos rfl]
  dsimp only
  rw [s3, if_pos rfl]
  dsimp only
  rw [s4, if_pos rfl]
  dsimp only
  rw [s5, if_pos rfl, q1, show r % 256 = r by omega, show (x.length : Int) + 1 + 1 + 3 + 2 + 2 = (x.length : Int) + 9 by omega]
theorem mhead_eq (a b : List Int) (r : Int) (q : Bool) (fu sk hp : Int) : mhead a b r q fu sk hp = ((a.length : Int) :: a) ++ (((b.length : Int) :: b) ++ mnum r q fu sk hp) := by
  simp [mhead, mnum]
theorem mhead_length (a b : List Int) (r : Int) (q : Bool) (fu sk hp : Int) : (mhead a b r q fu sk hp).length = a.length + b.length + 11 := by
  rw [mhead_eq]
  simp [mnum_length]
  omega
/-- What has bytes is read from them, wherever they stand. -/
theorem mread_put (x y : List Int) {a b : List Int} {r : Int} {q : Bool} {fu sk hp : Int} (h : mmay a b r fu sk hp = true) : mread (x ++ mhead a b r q fu sk hp ++ y) x.length = (a, b, r, q, fu, sk, hp, [], (x.length : Int) + (mhead a b r q fu sk hp).length, 0) := by
  obtain ⟨hl, ha, hb, hr, h1, h2, h3, h4, h5, h6⟩ := mmay_iff.1 h
  have e0 : x ++ mhead a b r q fu sk hp ++ y = x ++ ((a.length : Int) :: a) ++ (((b.length : Int) :: b) ++ (mnum r q fu sk hp ++ y)) := by rw [mhead_eq]; simp
  have e1 : x ++ ((a.length : Int) :: a) ++ (((b.length : Int) :: b) ++ (mnum r q fu sk hp ++ y)) = (x ++ ((a.length : Int) :: a)) ++ ((b.length : Int) :: b) ++ (mnum r q fu sk hp ++ y) := by simp
  have e2 : x ++ ((a.length : Int) :: a) ++ (((b.length : Int) :: b) ++ (mnum r q fu sk hp ++ y)) = (x ++ ((a.length : Int) :: a) ++ ((b.length : Int) :: b)) ++ mnum r q fu sk hp ++ y := by simp
  have k1 := krow_put x a (((b.length : Int) :: b) ++ (mnum r q fu sk hp ++ y)) 4 ha (by omega) (by omega)
  have k2 : krow (x ++ ((a.length : Int) :: a) ++ (((b.length : Int) :: b) ++ (mnum r q fu sk hp ++ y))) ((x.length : Int) + 1 + a.length) (16 - (a.length : Int)) = (b, (x.length : Int) + 1 + a.length + 1 + b.length, 0) := by
    have := krow_put (x ++ ((a.length : Int) :: a)) b (mnum r q fu sk hp ++ y) (16 - (a.length : Int)) hb (by omega) (by omega)
    rw [show (((x ++ ((a.length : Int) :: a)).length : Nat) : Int) = (x.length : Int) + 1 + a.length by simp; omega] at this
    rw [e1]; exact this
  have k3 : mnums (x ++ ((a.length : Int) :: a) ++ (((b.length : Int) :: b) ++ (mnum r q fu sk hp ++ y))) a b ((x.length : Int) + 1 + a.length + 1 + b.length) = (a, b, r, q, fu, sk, hp, [], (x.length : Int) + 1 + a.length + 1 + b.length + 9, 0) := by
    have := mnums_put (x ++ ((a.length : Int) :: a) ++ ((b.length : Int) :: b)) y a b r q fu sk hp hr ⟨h1, h2⟩ ⟨h3, h4⟩ ⟨h5, h6⟩
    rw [show (((x ++ ((a.length : Int) :: a) ++ ((b.length : Int) :: b)).length : Nat) : Int) = (x.length : Int) + 1 + a.length + 1 + b.length by simp; omega] at this
    rw [e2]; exact this
  unfold mread
  rw [e0, k1, if_pos rfl]
  dsimp only
  rw [k2, if_pos rfl]
  dsimp only
  rw [k3, mhead_length]
  congr 9
  push_cast
  omega
theorem st_shortM {l : List Int} {w lo hi a : Int} (hw : 1 ≤ w ∧ w ≤ 8) (ha : 0 ≤ a ∧ a ≤ (l.length : Int)) (h : (l.length : Int) - a < w) : st l w lo hi a = (0, 0, 10) := by
  unfold st
  rw [get_short hw ha h, if_neg (by decide)]
theorem mnums_cut (x A L : List Int) (r : Int) (q : Bool) (fu sk h : Int) (hr : r = 1 ∨ r = 2) (h1 : 0 ≤ fu ∧ fu ≤ 1048576) (h2 : 0 ≤ sk ∧ sk ≤ 256) :
    mnums (x ++ ([r, if q = true then 1 else 0] ++ (leb 3 fu ++ (leb 2 sk ++ [h])))) A L x.length = mbad 10 := by
  have hq : (0 : Int) ≤ (if q = true then 1 else 0) ∧ (if q = true then (1 : Int) else 0) ≤ 1 := by split <;> omega
  generalize (if q = true then (1 : Int) else 0) = b at *
  have e0 : x ++ ([r, b] ++ (leb 3 fu ++ (leb 2 sk ++ [h]))) = x ++ r :: (b :: (leb 3 fu ++ (leb 2 sk ++ [h]))) := by simp
  have e1 : x ++ r :: (b :: (leb 3 fu ++ (leb 2 sk ++ [h]))) = (x ++ [r]) ++ b :: (leb 3 fu ++ (leb 2 sk ++ [h])) := by simp
  have e2 : x ++ r :: (b :: (leb 3 fu ++ (leb 2 sk ++ [h]))) = (x ++ [r, b]) ++ leb 3 fu ++ (leb 2 sk ++ [h]) := by simp
  have e3 : x ++ r :: (b :: (leb 3 fu ++ (leb 2 sk ++ [h]))) = (x ++ [r, b] ++ leb 3 fu) ++ leb 2 sk ++ [h] := by simp
  have hlen : ((x ++ r :: (b :: (leb 3 fu ++ (leb 2 sk ++ [h])))).length : Int) = (x.length : Int) + 8 := by simp [leb_length]
  have s1 : st (x ++ r :: (b :: (leb 3 fu ++ (leb 2 sk ++ [h])))) 1 1 2 x.length = (r, (x.length : Int) + 1, 0) := st_byte x _ r 1 2 (by omega) (by omega) (by omega)
  have s2 : st (x ++ r :: (b :: (leb 3 fu ++ (leb 2 sk ++ [h])))) 1 0 1 ((x.length : Int) + 1) = (b, (x.length : Int) + 1 + 1, 0) := by
    have := st_byte (x ++ [r]) (leb 3 fu ++ (leb 2 sk ++ [h])) b 0 1 (by omega) (by omega) (by omega)
    rw [e1]; simpa using this
  have s3 : st (x ++ r :: (b :: (leb 3 fu ++ (leb 2 sk ++ [h])))) 3 0 1048576 ((x.length : Int) + 1 + 1) = (fu, (x.length : Int) + 1 + 1 + 3, 0) := by
    have := st_put (x ++ [r, b]) (leb 2 sk ++ [h]) 3 fu 0 1048576 (by omega) h1.1 (by omega) h1.1 h1.2
    rw [show (((x ++ [r, b]).length : Nat) : Int) = (x.length : Int) + 1 + 1 by simp; omega] at this
    rw [e2]; exact this
  have s4 : st (x ++ r :: (b :: (leb 3 fu ++ (leb 2 sk ++ [h])))) 2 0 256 ((x.length : Int) + 1 + 1 + 3) = (sk, (x.length : Int) + 1 + 1 + 3 + 2, 0) := by
    have := st_put (x ++ [r, b] ++ leb 3 fu) [h] 2 sk 0 256 (by omega) h2.1 (by omega) h2.1 h2.2
    rw [show (((x ++ [r, b] ++ leb 3 fu).length : Nat) : Int) = (x.length : Int) + 1 + 1 + 3 by simp [leb_length]; omega] at this
    rw [e3]; exact this
  have s5 : st (x ++ r :: (b :: (leb 3 fu ++ (leb 2 sk ++ [h])))) 2 0 1024 ((x.length : Int) + 1 + 1 + 3 + 2) = (0, 0, 10) := st_shortM (by omega) (by omega) (by omega)
  unfold mnums
  rw [e0, s1, if_pos rfl]
  dsimp only
  rw [s2, if_pos rfl]
  dsimp only
  rw [s3, if_pos rfl]
  dsimp only
  rw [s4, if_pos rfl]
  dsimp only
  rw [s5, if_neg (by decide)]
theorem mread_cut {a b : List Int} {r : Int} {q : Bool} {fu sk hp : Int} (h : mmay a b r fu sk hp = true) : mread ((mhead a b r q fu sk hp).take ((mhead a b r q fu sk hp).length - 1)) 0 = mbad 10 := by
  obtain ⟨hl, ha, hb, hr, h1, h2, h3, h4, h5, h6⟩ := mmay_iff.1 h
  have e : (mhead a b r q fu sk hp).take ((mhead a b r q fu sk hp).length - 1) = [] ++ ((a.length : Int) :: a) ++ (((b.length : Int) :: b) ++ ([r, if q = true then 1 else 0] ++ (leb 3 fu ++ (leb 2 sk ++ [hp % 256])))) := by
    have e1 : mhead a b r q fu sk hp = (((a.length : Int) :: a) ++ (((b.length : Int) :: b) ++ ([r, if q = true then 1 else 0] ++ (leb 3 fu ++ (leb 2 sk ++ [hp % 256]))))) ++ [hp / 256 % 256] := by
      rw [mhead_eq]; simp [mnum, leb]
    rw [e1, List.length_append, List.length_singleton, Nat.add_sub_cancel, List.take_left]
    rfl
  rw [e]
  have k1 : krow ([] ++ ((a.length : Int) :: a) ++ (((b.length : Int) :: b) ++ ([r, if q = true then 1 else 0] ++ (leb 3 fu ++ (leb 2 sk ++ [hp % 256]))))) 0 4 = (a, ((([] : List Int).length : Nat) : Int) + 1 + a.length, 0) := krow_put [] a (((b.length : Int) :: b) ++ ([r, if q = true then 1 else 0] ++ (leb 3 fu ++ (leb 2 sk ++ [hp % 256])))) 4 ha (by omega) (by omega)
  have e1 : [] ++ ((a.length : Int) :: a) ++ (((b.length : Int) :: b) ++ ([r, if q = true then 1 else 0] ++ (leb 3 fu ++ (leb 2 sk ++ [hp % 256])))) = ([] ++ ((a.length : Int) :: a)) ++ ((b.length : Int) :: b) ++ ([r, if q = true then 1 else 0] ++ (leb 3 fu ++ (leb 2 sk ++ [hp % 256]))) := by simp
  have k2 : krow ([] ++ ((a.length : Int) :: a) ++ (((b.length : Int) :: b) ++ ([r, if q = true then 1 else 0] ++ (leb 3 fu ++ (leb 2 sk ++ [hp % 256]))))) ((([] : List Int).length : Int) + 1 + a.length) (16 - (a.length : Int)) = (b, (([] : List Int).length : Int) + 1 + a.length + 1 + b.length, 0) := by
    have := krow_put ([] ++ ((a.length : Int) :: a)) b ([r, if q = true then 1 else 0] ++ (leb 3 fu ++ (leb 2 sk ++ [hp % 256]))) (16 - (a.length : Int)) hb (by omega) (by omega)
    rw [show ((([] ++ ((a.length : Int) :: a) : List Int).length : Nat) : Int) = (([] : List Int).length : Int) + 1 + a.length by simp; omega] at this
    rw [e1]; exact this
  have k3 : mnums ([] ++ ((a.length : Int) :: a) ++ (((b.length : Int) :: b) ++ ([r, if q = true then 1 else 0] ++ (leb 3 fu ++ (leb 2 sk ++ [hp % 256]))))) a b ((([] : List Int).length : Int) + 1 + a.length + 1 + b.length) = mbad 10 := by
    have := mnums_cut ([] ++ ((a.length : Int) :: a) ++ ((b.length : Int) :: b)) a b r q fu sk (hp % 256) hr ⟨h1, h2⟩ ⟨h3, h4⟩
    rw [show ((([] ++ ((a.length : Int) :: a) ++ ((b.length : Int) :: b) : List Int).length : Nat) : Int) = (([] : List Int).length : Int) + 1 + a.length + 1 + b.length by simp; omega] at this
    rw [e1]; exact this
  unfold mread
  rw [k1, if_pos rfl]
  dsimp only
  rw [k2, if_pos rfl]
  dsimp only
  rw [k3]
theorem piece_add {l : List Int} {a m n : Int} (ha : 0 ≤ a) (hm : 0 ≤ m) (hn : 0 ≤ n) : piece l a (m + n) = piece l a m ++ piece l (a + m) n := by
  obtain ⟨i, rfl⟩ : ∃ i : Nat, a = (i : Int) := ⟨a.toNat, by omega⟩
  obtain ⟨j, rfl⟩ : ∃ i : Nat, m = (i : Int) := ⟨m.toNat, by omega⟩
  obtain ⟨k, rfl⟩ : ∃ i : Nat, n = (i : Int) := ⟨n.toNat, by omega⟩
  unfold piece
  rw [show ((j : Int) + k).toNat = j + k by omega, show ((i : Int) + j).toNat = i + j by omega, Int.toNat_natCast, Int.toNat_natCast, Int.toNat_natCast, ← List.drop_drop, List.take_add]
theorem kf_inv {l : List Int} : ∀ (d : Nat) (a : Int) (acc : List Int), acc.all kd = true → 0 ≤ a → (kf l d a acc).2.2 = 0 → (kf l d a acc).1 = acc ++ piece l a d ∧ (kf l d a acc).1.all kd = true ∧ (a + d ≤ (l.length : Int) ∨ d = 0) := by
  intro d
  induction d with
  | zero => intro a acc h ha _; exact ⟨by simp [kf, piece], h, .inr rfl⟩
  | succ d ih =>
    intro a acc h ha hz
    by_cases h1 : (st l 1 1 3 a).2.2 = 0
    · rw [kf, if_pos h1] at hz ⊢
      obtain ⟨n1, n2, n3, n4, n5, n6, _⟩ := st_next h1
      rw [piece_one ha (by omega)] at n6
      have hr : (st l 1 1 3 a).1 = rd l a := by rw [n6]; simp [val]
      rw [n1, hr] at hz ⊢
      rw [hr] at n4 n5
      rw [show rd l a % 256 = rd l a by omega] at hz ⊢
      have hkd : kd (rd l a) = true := by unfold kd; exact decide_eq_true (by omega)
      obtain ⟨i1, i2, i3⟩ := ih (a + 1) (acc ++ [rd l a]) (by rw [List.all_append, h]; simp [hkd]) (by omega) hz
      refine ⟨?_, i2, .inl (by omega)⟩
      rw [i1, show ((d + 1 : Nat) : Int) = 1 + (d : Int) by omega, piece_add ha (by omega) (by omega), piece_one ha (by omega)]
      simp
    · rw [kf, if_neg h1] at hz; exact absurd hz h1
theorem krow_inv {l : List Int} {a most : Int} (h : (krow l a most).2.2 = 0) : 0 ≤ a ∧ a + 1 + (krow l a most).1.length ≤ (l.length : Int) ∧ (krow l a most).2.1 = a + 1 + (krow l a most).1.length ∧ ((krow l a most).1.length : Int) ≤ most ∧ (krow l a most).1.all kd = true ∧ piece l a (1 + (krow l a most).1.length) = ((krow l a most).1.length : Int) :: (krow l a most).1 := by
  unfold krow at h ⊢
  by_cases h1 : (st l 1 0 most a).2.2 = 0
  case neg => rw [if_neg h1] at h; exact absurd h h1
  rw [if_pos h1] at h ⊢
  obtain ⟨n1, n2, n3, n4, n5, n6, _⟩ := st_next h1
  obtain ⟨i1, i2, i3⟩ := kf_inv _ _ [] rfl (by omega) h
  have hlen := kf_length _ _ _ h
  rw [piece_one n2 (by omega)] at n6
  have hr : (st l 1 0 most a).1 = rd l a := by rw [n6]; simp [val]
  simp only [List.length_nil, Nat.zero_add] at hlen
  have hL : ((kf l (st l 1 0 most a).1.toNat (st l 1 0 most a).2.1 []).1.length : Int) = (st l 1 0 most a).1 := by omega
  rw [List.nil_append] at i1
  refine ⟨n2, by omega, by omega, by omega, i2, ?_⟩
  rw [piece_add n2 (by omega) (by omega), piece_one n2 (by omega), hL, ← n1]
  rw [show (st l 1 0 most a).1 = (((st l 1 0 most a).1.toNat : Nat) : Int) by omega] at i1
  rw [Int.toNat_natCast] at i1
  rw [i1, hr, show (rd l a : Int) = (((rd l a).toNat : Nat) : Int) by omega, Int.toNat_natCast]
  rfl
theorem st_piece {l : List Int} (hb : isB l) {a lo hi : Int} (w : Nat) (h : (st l w lo hi a).2.2 = 0) : leb w (st l w lo hi a).1 = piece l a w := by
  obtain ⟨n1, n2, n3, n4, n5, n6, n7⟩ := st_next h
  rw [n6]
  have h1 := leb_val (piece_isB a w hb)
  rw [piece_length n2 (by omega) n3] at h1
  simpa using h1
theorem st_piece1 {l : List Int} {a lo hi : Int} (h : (st l 1 lo hi a).2.2 = 0) : piece l a 1 = [(st l 1 lo hi a).1] := by
  obtain ⟨n1, n2, n3, n4, n5, n6, n7⟩ := st_next h
  rw [n6, piece_one n2 (by omega)]
  simp [val]
theorem mnums_inv {l : List Int} (hb : isB l) {A L : List Int} {a : Int} (h : (mnums l A L a).2.2.2.2.2.2.2.2.2 = 0) : ∃ r q fu sk hp, mnums l A L a = (A, L, r, q, fu, sk, hp, [], a + 9, 0) ∧ (r = 1 ∨ r = 2) ∧ 0 ≤ fu ∧ fu ≤ 1048576 ∧ 0 ≤ sk ∧ sk ≤ 256 ∧ 0 ≤ hp ∧ hp ≤ 1024 ∧ 0 ≤ a ∧ a + 9 ≤ (l.length : Int) ∧ piece l a 9 = mnum r q fu sk hp := by
  unfold mnums at h ⊢
  by_cases h1 : (st l 1 1 2 a).2.2 = 0
  case neg => rw [if_neg h1] at h; exact absurd h h1
  rw [if_pos h1] at h ⊢
  have p1 := st_piece1 h1
  have n1 := st_next h1
  generalize st l 1 1 2 a = v1 at *
  by_cases h2 : (st l 1 0 1 v1.2.1).2.2 = 0
  case neg => rw [if_neg h2] at h; exact absurd h h2
  rw [if_pos h2] at h ⊢
  have p2 := st_piece1 h2
  have n2 := st_next h2
  generalize st l 1 0 1 v1.2.1 = v2 at *
  by_cases h3 : (st l 3 0 1048576 v2.2.1).2.2 = 0
  case neg => rw [if_neg h3] at h; exact absurd h h3
  rw [if_pos h3] at h ⊢
  have p3 : leb 3 (st l 3 0 1048576 v2.2.1).1 = piece l v2.2.1 3 := st_piece hb 3 h3
  have n3 := st_next h3
  generalize st l 3 0 1048576 v2.2.1 = v3 at *
  by_cases h4 : (st l 2 0 256 v3.2.1).2.2 = 0
  case neg => rw [if_neg h4] at h; exact absurd h h4
  rw [if_pos h4] at h ⊢
  have p4 : leb 2 (st l 2 0 256 v3.2.1).1 = piece l v3.2.1 2 := st_piece hb 2 h4
  have n4 := st_next h4
  generalize st l 2 0 256 v3.2.1 = v4 at *
  by_cases h5 : (st l 2 0 1024 v4.2.1).2.2 = 0
  case neg => rw [if_neg h5] at h; exact absurd h h5
  rw [if_pos h5] at h ⊢
  have p5 : leb 2 (st l 2 0 1024 v4.2.1).1 = piece l v4.2.1 2 := st_piece hb 2 h5
  have n5 := st_next h5
  generalize st l 2 0 1024 v4.2.1 = v5 at *
  refine ⟨v1.1, v2.1 == 1, v3.1, v4.1, v5.1, ?_, by omega, by omega, by omega, by omega, by omega, by omega, by omega, by omega, by omega, ?_⟩
  · rw [show v1.1 % 256 = v1.1 by omega, show v5.2.1 = a + 9 by omega]
  · have hq : (if (v2.1 == 1) = true then (1 : Int) else 0) = v2.1 := by
      rcases (by omega : v2.1 = 0 ∨ v2.1 = 1) with e | e <;> rw [e] <;> rfl
    unfold mnum
    rw [hq, show (9 : Int) = 1 + (1 + (3 + (2 + 2))) from rfl, piece_add (by omega) (by omega) (by omega), piece_add (by omega) (by omega) (by omega), piece_add (by omega) (by omega) (by omega), piece_add (by omega) (by omega) (by omega), p1, ← n1.1, p2, ← n2.1]
    rw [← p3, ← n3.1, ← p4, ← n4.1, ← p5]
    rfl
theorem mread_inv {l : List Int} (hb : isB l) {a : Int} (h : (mread l a).2.2.2.2.2.2.2.2.2 = 0) : ∃ A L r q fu sk hp, mread l a = (A, L, r, q, fu, sk, hp, [], a + (mhead A L r q fu sk hp).length, 0) ∧ mmay A L r fu sk hp = true ∧ 0 ≤ a ∧ a + (mhead A L r q fu sk hp).length ≤ (l.length : Int) ∧ piece l a (mhead A L r q fu sk hp).length = mhead A L r q fu sk hp := by
  unfold mread at h ⊢
  by_cases h1 : (krow l a 4).2.2 = 0
  case neg => rw [if_neg h1] at h; exact absurd h h1
  rw [if_pos h1] at h ⊢
  obtain ⟨a1, a2, a3, a4, a5, a6⟩ := krow_inv h1
  generalize krow l a 4 = A at *
  by_cases h2 : (krow l A.2.1 (16 - (A.1.length : Int))).2.2 = 0
  case neg => rw [if_neg h2] at h; exact absurd h h2
  rw [if_pos h2] at h ⊢
  obtain ⟨b1, b2, b3, b4, b5, b6⟩ := krow_inv h2
  generalize krow l A.2.1 (16 - (A.1.length : Int)) = L at *
  obtain ⟨r, q, fu, sk, hp, e, g1, g2, g3, g4, g5, g6, g7, g8, g9, g10⟩ := mnums_inv hb h
  have hlen := mhead_length A.1 L.1 r q fu sk hp
  refine ⟨A.1, L.1, r, q, fu, sk, hp, ?_, mmay_iff.2 ⟨by omega, a5, b5, g1, g2, g3, g4, g5, g6, g7⟩, a1, by omega, ?_⟩
  · rw [e]; congr 9; omega
  · rw [hlen, show ((A.1.length + L.1.length + 11 : Nat) : Int) = (1 + (A.1.length : Int)) + ((1 + (L.1.length : Int)) + 9) by omega, piece_add (m := 1 + (A.1.length : Int)) a1 (by omega) (by omega), piece_add (m := 1 + (L.1.length : Int)) (by omega) (by omega) (by omega), a6, show a + (1 + (A.1.length : Int)) = A.2.1 by omega, b6, show A.2.1 + (1 + (L.1.length : Int)) = L.2.1 by omega, g10, mhead_eq]
end Go.Proofs.Ytdbdajifalioiaa.M
