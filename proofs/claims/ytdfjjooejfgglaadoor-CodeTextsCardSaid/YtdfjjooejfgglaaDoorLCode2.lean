/- Layer 5 in plain terms: what may be code, its bytes; what has bytes is read from them; what is read has just those bytes. -/
import Derived.Test.YtdfjjooejfgglaaDoorY0
import Derived.Test.YtdfjjooejfgglaaDoorLCode
import Derived.Test.YtdfjjooejfgglaaDoorLOctet
namespace Go.Proofs.YtdfjjooejfgglaaDoor.M
open Go.RowKit Go.Proofs.YtdfjjooejfgglaaDoor.Y Go.Proofs.YtdfjjooejfgglaaDoorW.PrintWords Go.Proofs.YtdfjjooejfgglaaDoorW.PrintLast Go.Proofs.YtdfjjooejfgglaaDoorW.PrintMore

abbrev IN : Type := S42
def imays (x : IN) : Bool := decide ((bnd x.f0).1 ≤ x.f1) && (decide (x.f1 ≤ (bnd x.f0).2) && x.f2 == 0)
def isI (l : List IN) : Prop := ∀ x ∈ l, 0 ≤ x.f0 ∧ x.f0 ≤ 255
def cmay (l : List IN) : Bool := decide (1 ≤ l.length ∧ l.length ≤ 200) && l.all imays
def ibytes (x : IN) : List Int := if (bnd x.f0).2 > 0 then x.f0 :: leb 2 x.f1 else [x.f0]
def flat (l : List IN) : List Int := l.flatMap ibytes
def cbytes (l : List IN) : List Int := (l.length : Int) :: flat l
theorem imays_inv {x : IN} (h : imays x = true) (hx : 0 ≤ x.f0 ∧ x.f0 ≤ 255) : x.f0 < 33 ∧ 0 ≤ x.f1 ∧ x.f1 ≤ 1024 ∧ x.f2 = 0 ∧ imay x.f0 x.f1 = true ∧ (¬ (bnd x.f0).2 > 0 → x.f1 = 0) := by
  unfold imays at h
  rw [Bool.and_eq_true, Bool.and_eq_true, decide_eq_true_eq, decide_eq_true_eq, beq_iff_eq] at h
  obtain ⟨h1, h2, h3⟩ := h
  obtain ⟨n, hn⟩ := byte_fin hx
  obtain ⟨_, _, b2, b3⟩ := bnd_all n
  rw [← hn] at b2 b3
  by_cases h4 : (n : Nat) < 33
  · have b4 := b2 h4
    refine ⟨by omega, by omega, by omega, h3, ?_, fun h => by omega⟩
    unfold imay
    rw [decide_eq_true h1, decide_eq_true h2]; rfl
  · rw [b3 h4] at h1 h2
    dsimp only at h1 h2
    omega
theorem ibytes_length (x : IN) : 1 ≤ (ibytes x).length ∧ (ibytes x).length ≤ 3 := by
  unfold ibytes
  split <;> simp [leb_length]
theorem flat_length (l : List IN) : (flat l).length ≤ 3 * l.length := by
  induction l with
  | nil => simp [flat]
  | cons x l ih =>
    have := ibytes_length x
    unfold flat at ih ⊢
    rw [List.flatMap_cons, List.length_append, List.length_cons]
    omega
theorem flat_isB {l : List IN} (h : isI l) : isB (flat l) := by
  induction l with
  | nil => exact isB_nil
  | cons x l ih =>
    unfold flat at ih ⊢
    rw [List.flatMap_cons]
    refine isB_append.2 ⟨?_, ih fun y hy => h y (List.mem_cons_of_mem _ hy)⟩
    have hx := h x List.mem_cons_self
    unfold ibytes
    split
    · exact isB_cons.2 ⟨hx, leb_isB _ _⟩
    · exact isB_cons.2 ⟨hx, isB_nil⟩
theorem get_mid (x y : List Int) (w : Nat) (n : Int) (hw : 1 ≤ w ∧ w ≤ 3) (h0 : 0 ≤ n) (h1 : n < 256 ^ w) : get (x ++ leb w n ++ y) x.length w = (n, (x.length : Int) + w, 0) := by
  have hp : piece (x ++ leb w n ++ y) (x.length : Int) (w : Int) = leb w n := by
    unfold piece
    rw [Int.toNat_natCast, Int.toNat_natCast, List.append_assoc, List.drop_left]
    exact List.take_left' (leb_length w n)
  have h3 : (256 : Int) ^ w ≤ 16777216 := by
    rcases (by omega : w = 1 ∨ w = 2 ∨ w = 3) with rfl | rfl | rfl <;> decide
  unfold get
  have hl := leb_length w n
  rw [if_neg (by simp; omega), if_neg (by simp; omega), hp, val_leb w n h0 h1, if_neg (by omega)]
theorem get_byte (x y : List Int) (b : Int) (h0 : 0 ≤ b ∧ b ≤ 255) : get (x ++ b :: y) x.length 1 = (b, (x.length : Int) + 1, 0) := by
  have := get_mid x y 1 b (by omega) h0.1 (by omega)
  have e : leb 1 b = [b] := by simp [leb]; omega
  rw [e] at this
  simpa using this
theorem cread_go (y : List Int) (d : Nat) : ∀ (t : List IN) (x : List Int) (acc : List IN), isI t → t.all imays = true → cread (x ++ flat t ++ y) (t.length + d) x.length acc = cread (x ++ flat t ++ y) d ((x.length : Int) + (flat t).length) (acc ++ t) := by
  intro t
  induction t with
  | nil => intro x acc _ _; simp [flat]
  | cons u t ih =>
    intro x acc hI h
    rw [List.all_cons, Bool.and_eq_true] at h
    have hu := hI u List.mem_cons_self
    obtain ⟨i1, i2, i3, i4, i5, i6⟩ := imays_inv h.1 hu
    have hI' : isI t := fun z hz => hI z (List.mem_cons_of_mem _ hz)
    have eu : u = ⟨u.f0, u.f1, 0⟩ := by rw [← i4]
    have ef : flat (u :: t) = ibytes u ++ flat t := by unfold flat; rw [List.flatMap_cons]
    rw [show (u :: t).length + d = (t.length + d) + 1 by simp; omega, cread]
    by_cases hw : (bnd u.f0).2 > 0
    · have eb : ibytes u = u.f0 :: leb 2 u.f1 := by unfold ibytes; rw [if_pos hw]
      have e1 : x ++ flat (u :: t) ++ y = x ++ u.f0 :: (leb 2 u.f1 ++ (flat t ++ y)) := by rw [ef, eb]; simp
      have e2 : x ++ flat (u :: t) ++ y = (x ++ [u.f0]) ++ leb 2 u.f1 ++ (flat t ++ y) := by rw [ef, eb]; simp
      have e3 : x ++ flat (u :: t) ++ y = (x ++ [u.f0] ++ leb 2 u.f1) ++ flat t ++ y := by rw [ef, eb]; simp
      have g1 : get (x ++ flat (u :: t) ++ y) x.length 1 = (u.f0, (x.length : Int) + 1, 0) := by rw [e1]; exact get_byte x _ _ hu
      have g2 : get (x ++ flat (u :: t) ++ y) ((x.length : Int) + 1) 2 = (u.f1, (x.length : Int) + 1 + 2, 0) := by
        have := get_mid (x ++ [u.f0]) (flat t ++ y) 2 u.f1 (by omega) i2 (by omega)
        rw [show (((x ++ [u.f0]).length : Nat) : Int) = (x.length : Int) + 1 by simp] at this
        rw [e2]; exact this
      rw [g1, if_pos rfl]
      dsimp only
      rw [if_pos i1, if_pos hw, g2, if_pos rfl]
      dsimp only
      rw [if_pos i5, ← eu]
      have := ih (x ++ [u.f0] ++ leb 2 u.f1) (acc ++ [u]) hI' h.2
      rw [show (((x ++ [u.f0] ++ leb 2 u.f1).length : Nat) : Int) = (x.length : Int) + 3 by simp [leb_length]] at this
      have hl : (flat (u :: t)).length = 3 + (flat t).length := by rw [ef, eb]; simp [leb_length]; omega
      rw [e3, this, hl, show (x.length : Int) + 3 + ((flat t).length : Int) = (x.length : Int) + ((3 + (flat t).length : Nat) : Int) by omega, List.append_assoc acc [u] t]
      rfl
    · have eb : ibytes u = [u.f0] := by unfold ibytes; rw [if_neg hw]
      have e1 : x ++ flat (u :: t) ++ y = x ++ u.f0 :: (flat t ++ y) := by rw [ef, eb]; simp
      have e3 : x ++ flat (u :: t) ++ y = (x ++ [u.f0]) ++ flat t ++ y := by rw [ef, eb]; simp
      have g1 : get (x ++ flat (u :: t) ++ y) x.length 1 = (u.f0, (x.length : Int) + 1, 0) := by rw [e1]; exact get_byte x _ _ hu
      have h0 := i6 hw
      rw [g1, if_pos rfl]
      dsimp only
      rw [h0] at i5 eu
      rw [if_pos i1, if_neg hw, if_pos i5, ← eu]
      have := ih (x ++ [u.f0]) (acc ++ [u]) hI' h.2
      rw [show (((x ++ [u.f0]).length : Nat) : Int) = (x.length : Int) + 1 by simp] at this
      have hl : (flat (u :: t)).length = 1 + (flat t).length := by rw [ef, eb]; simp; omega
      rw [e3, this, hl, show (x.length : Int) + 1 + ((flat t).length : Int) = (x.length : Int) + ((1 + (flat t).length : Nat) : Int) by omega, List.append_assoc acc [u] t]
      rfl
theorem cmay_inv {l : List IN} (h : cmay l = true) : (1 ≤ l.length ∧ l.length ≤ 200) ∧ l.all imays = true := by
  unfold cmay at h
  rw [Bool.and_eq_true, decide_eq_true_eq] at h
  exact h
theorem cparse_put (x y : List Int) {l : List IN} (hI : isI l) (h : cmay l = true) : cparse (x ++ cbytes l ++ y) x.length = (l, (x.length : Int) + (cbytes l).length, 0) := by
  obtain ⟨hl, ha⟩ := cmay_inv h
  have e1 : x ++ cbytes l ++ y = x ++ (l.length : Int) :: (flat l ++ y) := by unfold cbytes; simp
  have e2 : x ++ cbytes l ++ y = (x ++ [(l.length : Int)]) ++ flat l ++ y := by unfold cbytes; simp
  have g1 : get (x ++ cbytes l ++ y) x.length 1 = ((l.length : Int), (x.length : Int) + 1, 0) := by rw [e1]; exact get_byte x _ _ (by omega)
  unfold cparse
  rw [g1, if_pos rfl]
  dsimp only
  rw [if_pos (by omega), Int.toNat_natCast]
  have := cread_go y 0 l (x ++ [(l.length : Int)]) [] hI ha
  rw [show (((x ++ [(l.length : Int)]).length : Nat) : Int) = (x.length : Int) + 1 by simp, Nat.add_zero] at this
  rw [e2, this, cread, List.nil_append]
  unfold cbytes
  simp
  omega
theorem cparse_cut {l : List IN} (hI : isI l) (h : cmay l = true) : cparse ((cbytes l).take ((cbytes l).length - 1)) 0 = ([], 0, 10) := by
  obtain ⟨hl, ha⟩ := cmay_inv h
  obtain ⟨t, u, rfl⟩ : ∃ t u, l = t ++ [u] := ⟨l.dropLast, l.getLast (by intro e; rw [e] at hl; simp at hl), (List.dropLast_concat_getLast _).symm⟩
  rw [List.all_append, Bool.and_eq_true] at ha
  have hIt : isI t := fun z hz => hI z (List.mem_append_left _ hz)
  have hu := hI u (by simp)
  have hum : imays u = true := by simpa using ha.2
  obtain ⟨i1, i2, i3, i4, i5, i6⟩ := imays_inv hum hu
  have ef : flat (t ++ [u]) = flat t ++ ibytes u := by unfold flat; simp
  have hlen : ((t ++ [u]).length : Int) = (t.length : Int) + 1 := by simp
  have key : ∀ (z : List Int) (q : Int), ibytes u = z ++ [q] → (cbytes (t ++ [u])).take ((cbytes (t ++ [u])).length - 1) = [((t ++ [u]).length : Int)] ++ flat t ++ z := by
    intro z q hz
    have e1 : cbytes (t ++ [u]) = ([((t ++ [u]).length : Int)] ++ flat t ++ z) ++ [q] := by unfold cbytes; rw [ef, hz]; simp
    rw [e1, List.length_append, List.length_singleton, Nat.add_sub_cancel, List.take_left]
  have fin : ∀ (z : List Int), (∀ a acc, a = ((flat t).length : Int) + 1 → cread ([((t ++ [u]).length : Int)] ++ flat t ++ z) 1 a acc = ([], 0, 10)) → cparse ([((t ++ [u]).length : Int)] ++ flat t ++ z) 0 = ([], 0, 10) := by
    intro z hz
    have g1 : get ([((t ++ [u]).length : Int)] ++ flat t ++ z) 0 1 = (((t ++ [u]).length : Int), 0 + 1, 0) := by
      have := get_byte [] (flat t ++ z) ((t ++ [u]).length : Int) (by omega)
      simpa using this
    unfold cparse
    rw [g1, if_pos rfl]
    dsimp only
    rw [if_pos (by omega), Int.toNat_natCast]
    have := cread_go z 1 t [((t ++ [u]).length : Int)] [] hIt ha.1
    rw [show (t ++ [u]).length = t.length + 1 by simp] at this ⊢
    rw [show ((0 : Int) + 1) = (([((t.length + 1 : Nat) : Int)].length : Nat) : Int) by simp, this]
    have hz' := hz (((([((t.length + 1 : Nat) : Int)] : List Int).length : Nat) : Int) + ((flat t).length : Int)) ([] ++ t) (by simp; omega)
    rw [show (t ++ [u]).length = t.length + 1 by simp] at hz'
    exact hz'
  by_cases hw : (bnd u.f0).2 > 0
  · have eb : ibytes u = [u.f0, u.f1 % 256] ++ [u.f1 / 256 % 256] := by unfold ibytes; rw [if_pos hw]; rfl
    rw [key _ _ eb]
    refine fin _ fun a acc hae => ?_
    have e1 : [((t ++ [u]).length : Int)] ++ flat t ++ [u.f0, u.f1 % 256] = ([((t ++ [u]).length : Int)] ++ flat t) ++ u.f0 :: [u.f1 % 256] := by simp
    have hL : (([((t ++ [u]).length : Int)] ++ flat t).length : Int) = a := by rw [hae]; simp
    have g1 : get ([((t ++ [u]).length : Int)] ++ flat t ++ [u.f0, u.f1 % 256]) a 1 = (u.f0, a + 1, 0) := by
      have := get_byte ([((t ++ [u]).length : Int)] ++ flat t) [u.f1 % 256] u.f0 hu
      rw [hL] at this
      rw [e1]; exact this
    have g2 : get ([((t ++ [u]).length : Int)] ++ flat t ++ [u.f0, u.f1 % 256]) (a + 1) 2 = (0, 0, 10) := get_short (by omega) (by rw [List.length_append]; push_cast; rw [hL]; simp; omega) (by rw [List.length_append]; push_cast; rw [hL]; simp; omega)
    rw [cread, g1, if_pos rfl]
    dsimp only
    rw [if_pos i1, if_pos hw, g2, if_neg (by decide)]
  · have eb : ibytes u = [] ++ [u.f0] := by unfold ibytes; rw [if_neg hw]; rfl
    rw [key _ _ eb]
    refine fin _ fun a acc hae => ?_
    have hL : (([((t ++ [u]).length : Int)] ++ flat t ++ []).length : Int) = a := by rw [hae]; simp
    have g1 : get ([((t ++ [u]).length : Int)] ++ flat t ++ []) a 1 = (0, 0, 10) := get_short (by omega) (by rw [hL]; omega) (by rw [hL]; omega)
    rw [cread, g1, if_neg (by decide)]
theorem cpiece_add {l : List Int} {a m n : Int} (ha : 0 ≤ a) (hm : 0 ≤ m) (hn : 0 ≤ n) : piece l a (m + n) = piece l a m ++ piece l (a + m) n := by
  obtain ⟨i, rfl⟩ : ∃ i : Nat, a = (i : Int) := ⟨a.toNat, by omega⟩
  obtain ⟨j, rfl⟩ : ∃ i : Nat, m = (i : Int) := ⟨m.toNat, by omega⟩
  obtain ⟨k, rfl⟩ : ∃ i : Nat, n = (i : Int) := ⟨n.toNat, by omega⟩
  unfold piece
  rw [show ((j : Int) + k).toNat = j + k by omega, show ((i : Int) + j).toNat = i + j by omega, Int.toNat_natCast, Int.toNat_natCast, Int.toNat_natCast, ← List.drop_drop, List.take_add]
theorem get_leb {l : List Int} (hb : isB l) {a : Int} (w : Nat) (h : (get l a w).2.2 = 0) : leb w (get l a w).1 = piece l a w := by
  obtain ⟨h1, h2, h3⟩ := got_ok h
  rw [h3]
  have h4 := leb_val (piece_isB a w hb)
  rw [piece_length h1.2.2.1 (by omega) h1.2.2.2] at h4
  simpa using h4
theorem cread_inv {l : List Int} (hb : isB l) : ∀ (d : Nat) (a : Int) (acc : List IN), 0 ≤ a → (cread l d a acc).2.2 = 0 → ∃ t, cread l d a acc = (acc ++ t, a + (flat t).length, 0) ∧ t.length = d ∧ t.all imays = true ∧ isI t ∧ piece l a (flat t).length = flat t ∧ (d = 0 ∨ a + (flat t).length ≤ (l.length : Int)) := by
  intro d
  induction d with
  | zero =>
    intro a acc h0 _
    refine ⟨[], ?_, ?_, ?_, ?_, ?_, ?_⟩
    · simp [cread, flat]
    · rfl
    · rfl
    · intro x h; cases h
    · simp [flat, piece]
    · exact .inl rfl
  | succ d ih =>
    intro a acc h0 h
    rw [cread] at h ⊢
    by_cases h1 : (get l a 1).2.2 = 0
    case neg => rw [if_neg h1] at h; exact absurd h h1
    rw [if_pos h1] at h ⊢
    obtain ⟨g1, g2, g3⟩ := got_ok h1
    have hbd := st1_bound hb a
    have hone : piece l a 1 = [(get l a 1).1] := by
      rw [get_one hb h0 (by omega), piece_one h0 (by omega)]
    by_cases h2 : (get l a 1).1 < 33
    case neg => rw [if_neg h2] at h; exact absurd h (by decide)
    rw [if_pos h2] at h ⊢
    generalize (get l a 1).1 = x at *
    by_cases h3 : (bnd x).2 > 0
    · rw [if_pos h3] at h ⊢
      by_cases h4 : (get l (a + 1) 2).2.2 = 0
      case neg => rw [if_neg h4] at h; exact absurd h h4
      rw [if_pos h4] at h ⊢
      have hleb : leb 2 (get l (a + 1) 2).1 = piece l (a + 1) 2 := get_leb hb 2 h4
      obtain ⟨q1, q2, q3⟩ := got_ok h4
      generalize (get l (a + 1) 2).1 = y at *
      cases h5 : imay x y
      · rw [h5, if_neg (by decide)] at h; exact absurd h (by decide)
      rw [h5, if_pos rfl] at h
      rw [if_pos rfl]
      obtain ⟨t, t1, t2, t3, t4, t5, t6⟩ := ih (a + 3) (acc ++ [⟨x, y, 0⟩]) (by omega) h
      have eb : ibytes (⟨x, y, 0⟩ : IN) = x :: leb 2 y := by unfold ibytes; rw [if_pos h3]
      have ef : flat ((⟨x, y, 0⟩ : IN) :: t) = x :: (leb 2 y ++ flat t) := by unfold flat; rw [List.flatMap_cons, eb]; rfl
      have el : (flat ((⟨x, y, 0⟩ : IN) :: t)).length = 3 + (flat t).length := by rw [ef]; simp [leb_length]; omega
      have hm : imays (⟨x, y, 0⟩ : IN) = true := by
        unfold imay at h5
        rw [Bool.and_eq_true] at h5
        unfold imays
        rw [h5.1, h5.2]; rfl
      refine ⟨⟨x, y, 0⟩ :: t, ?_, by simp [t2], by rw [List.all_cons, hm, t3]; rfl, ?_, ?_, .inr ?_⟩
      · rw [t1, el]; simp; omega
      · intro z hz
        rcases List.mem_cons.1 hz with rfl | hz
        · exact hbd
        · exact t4 z hz
      · rw [el, show ((3 + (flat t).length : Nat) : Int) = 1 + (2 + ((flat t).length : Int)) by omega, cpiece_add h0 (by omega) (by omega), cpiece_add (m := 2) (by omega) (by omega) (by omega), hone, ← hleb, show a + 1 + 2 = a + 3 by omega, t5, ef]
        rfl
      · rcases t6 with rfl | t6
        · have : t = [] := List.eq_nil_of_length_eq_zero t2
          subst this
          rw [el]; simp [flat]; omega
        · rw [el]; push_cast; omega
    · rw [if_neg h3] at h ⊢
      cases h5 : imay x 0
      · rw [h5, if_neg (by decide)] at h; exact absurd h (by decide)
      rw [h5, if_pos rfl] at h
      rw [if_pos rfl]
      obtain ⟨t, t1, t2, t3, t4, t5, t6⟩ := ih (a + 1) (acc ++ [⟨x, 0, 0⟩]) (by omega) h
      have eb : ibytes (⟨x, 0, 0⟩ : IN) = [x] := by unfold ibytes; rw [if_neg h3]
      have ef : flat ((⟨x, 0, 0⟩ : IN) :: t) = x :: flat t := by unfold flat; rw [List.flatMap_cons, eb]; rfl
      have el : (flat ((⟨x, 0, 0⟩ : IN) :: t)).length = 1 + (flat t).length := by rw [ef]; simp; omega
      have hm : imays (⟨x, 0, 0⟩ : IN) = true := by
        unfold imay at h5
        rw [Bool.and_eq_true] at h5
        unfold imays
        rw [h5.1, h5.2]; rfl
      refine ⟨⟨x, 0, 0⟩ :: t, ?_, by simp [t2], by rw [List.all_cons, hm, t3]; rfl, ?_, ?_, .inr ?_⟩
      · rw [t1, el]; simp; omega
      · intro z hz
        rcases List.mem_cons.1 hz with rfl | hz
        · exact hbd
        · exact t4 z hz
      · rw [el, show ((1 + (flat t).length : Nat) : Int) = 1 + ((flat t).length : Int) by omega, cpiece_add h0 (by omega) (by omega), hone, t5, ef]
        rfl
      · rcases t6 with rfl | t6
        · have : t = [] := List.eq_nil_of_length_eq_zero t2
          subst this
          rw [el]; simp [flat]; omega
        · rw [el]; push_cast; omega
theorem cparse_inv {l : List Int} (hb : isB l) {a : Int} (h : (cparse l a).2.2 = 0) : ∃ t, cparse l a = (t, a + (cbytes t).length, 0) ∧ cmay t = true ∧ isI t ∧ 0 ≤ a ∧ a + (cbytes t).length ≤ (l.length : Int) ∧ piece l a (cbytes t).length = cbytes t := by
  unfold cparse at h ⊢
  by_cases h1 : (get l a 1).2.2 = 0
  case neg => rw [if_neg h1] at h; exact absurd h h1
  rw [if_pos h1] at h ⊢
  obtain ⟨g1, g2, g3⟩ := got_ok h1
  have hone : piece l a 1 = [(get l a 1).1] := by
    rw [get_one hb g1.2.2.1 (by omega), piece_one g1.2.2.1 (by omega)]
  by_cases h2 : 0 < (get l a 1).1 ∧ (get l a 1).1 ≤ 200
  case neg => rw [if_neg h2] at h; exact absurd h (by decide)
  rw [if_pos h2] at h ⊢
  obtain ⟨t, t1, t2, t3, t4, t5, t6⟩ := cread_inv hb _ _ _ (by omega) h
  have el : (cbytes t).length = 1 + (flat t).length := by unfold cbytes; simp; omega
  refine ⟨t, by rw [t1, el]; simp; omega, ?_, t4, g1.2.2.1, by rw [el]; push_cast; omega, ?_⟩
  · unfold cmay
    rw [decide_eq_true (by omega), t3]; rfl
  · rw [el, show ((1 + (flat t).length : Nat) : Int) = 1 + ((flat t).length : Int) by omega, cpiece_add g1.2.2.1 (by omega) (by omega), hone, t5]
    unfold cbytes
    rw [t2, show (((get l a 1).1.toNat : Nat) : Int) = (get l a 1).1 by omega]
    rfl
theorem cparse_bad {l : List Int} {a : Int} (h : (cparse l a).2.2 ≠ 0) : cparse l a = ([], 0, (cparse l a).2.2) := by
  have hc : ∀ (d : Nat) (a : Int) (acc : List IN), (cread l d a acc).2.2 ≠ 0 → cread l d a acc = ([], 0, (cread l d a acc).2.2) := by
    intro d
    induction d with
    | zero => intro a acc h; exact absurd rfl h
    | succ d ih =>
      intro a acc h
      rw [cread] at h ⊢
      by_cases h1 : (get l a 1).2.2 = 0
      case neg => rw [if_neg h1]
      rw [if_pos h1] at h ⊢
      by_cases h2 : (get l a 1).1 < 33
      case neg => rw [if_neg h2]
      rw [if_pos h2] at h ⊢
      by_cases h3 : (bnd (get l a 1).1).2 > 0
      · rw [if_pos h3] at h ⊢
        by_cases h4 : (get l (a + 1) 2).2.2 = 0
        case neg => rw [if_neg h4]
        rw [if_pos h4] at h ⊢
        by_cases h5 : imay (get l a 1).1 (get l (a + 1) 2).1 = true
        · rw [if_pos h5] at h ⊢; exact ih _ _ h
        · rw [if_neg h5]
      · rw [if_neg h3] at h ⊢
        by_cases h5 : imay (get l a 1).1 0 = true
        · rw [if_pos h5] at h ⊢; exact ih _ _ h
        · rw [if_neg h5]
  unfold cparse at h ⊢
  by_cases h1 : (get l a 1).2.2 = 0
  · rw [if_pos h1] at h ⊢
    by_cases h2 : 0 < (get l a 1).1 ∧ (get l a 1).1 ≤ 200
    · rw [if_pos h2] at h ⊢
      exact hc _ _ _ h
    · rw [if_neg h2]
  · rw [if_neg h1]
end Go.Proofs.YtdfjjooejfgglaaDoor.M
