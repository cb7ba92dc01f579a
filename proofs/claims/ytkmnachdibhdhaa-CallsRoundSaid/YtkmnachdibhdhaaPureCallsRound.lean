/- CallsRound: calls that go one way alone are in order; a call back from one to which another one leads makes a ring. -/
import Derived.Test.YtkmnachdibhdhaaP2
import Derived.Test.YtkmnachdibhdhaaP3
import Derived.Test.YtkmnachdibhdhaaP6
import Derived.Test.YtkmnachdibhdhaaLCalls6
namespace Go.Proofs.Ytkmnachdibhdhaa.Pure
open Go.RowKit Go.Proofs.Ytkmnachdibhdhaa.P Go.Proofs.Ytkmnachdibhdhaa.M Go.Proofs.YtkmnachdibhdhaaW.PrintWords Go.Proofs.YtkmnachdibhdhaaW.PrintLast Go.Proofs.YtkmnachdibhdhaaW.PrintMore

/-- A row of bits of the method k: calls of one way alone. -/
def crRow (m : Nat) (turned : Bool) (k r : Nat) : Prop := r < 65536 ∧ ∀ n, r.testBit n = true → n < m ∧ ((decide (n > k)) != turned) = true ∧ n ≠ k
def crRows (m : Nat) (turned : Bool) (xs : List Int) : Prop := ∀ j, j < xs.length → ∃ r : Nat, xs.getD j 0 = (r : Int) ∧ crRow m turned j r
theorem cr_l1 (m : Nat) (hm : m ≤ 16) (rows : List Int) (hrw : Row16 rows) (a b : Int) (turned : Bool) (xs : List Int) (hxl : xs.length ≤ 1000) (k : Nat) (hk : k < m) : ∀ s n r : Nat, n + s = m → crRow m turned k r →
    ∃ r' : Nat, crRow m turned k r' ∧ ((∃ q, capstanlaw11_CallsRound.l0 q (m : Int) rows a b turned (xs ++ [(r' : Int)]) ((k + 1 : Nat) : Int) = some true) → ∃ q, capstanlaw11_CallsRound.l1 q (m : Int) rows a b turned xs (k : Int) (r : Int) (n : Int) = some true) := by
  have hw : wrap64 ((k : Int) + 1) = ((k + 1 : Nat) : Int) := by unfold wrap64; omega
  have fin : ∀ (r n : Nat), (∃ q, capstanlaw11_CallsRound.l0 q (m : Int) rows a b turned (xs ++ [(r : Int)]) ((k + 1 : Nat) : Int) = some true) → ∃ q, capstanlaw11_CallsRound.j2 q (m : Int) rows a b turned xs (k : Int) (r : Int) (n : Int) false = some true := by
    rintro r n ⟨q, hq⟩
    exact ⟨q + 1, by rw [capstanlaw11_CallsRound.j2, if_neg (by decide), if_pos (by omega), hw]; exact hq⟩
  intro s
  induction s with
  | zero =>
    intro n r hn hr
    refine ⟨r, hr, fun h => ?_⟩
    obtain ⟨q, hq⟩ := fin r n h
    exact ⟨q + 1, by rw [capstanlaw11_CallsRound.l1, if_neg (by omega)]; exact hq⟩
  | succ s ih =>
    intro n r hn hr
    have hw2 : wrap64 ((n : Int) + 1) = ((n + 1 : Nat) : Int) := by unfold wrap64; omega
    by_cases hkr : k < rows.length
    · obtain ⟨h0, h1⟩ := hrw _ (List.getElem_mem hkr)
      have hrd : rd rows (k : Int) = ((rows[k].toNat : Nat) : Int) := by rw [Int.toNat_of_nonneg h0]; simp [rd, hkr]
      have step : ∀ r2 : Nat, (∃ q, capstanlaw11_CallsRound.l1 q (m : Int) rows a b turned xs (k : Int) (r2 : Int) ((n + 1 : Nat) : Int) = some true) →
          (∀ q, capstanlaw11_CallsRound.j2 (q + 1) (m : Int) rows a b turned xs (k : Int) (r : Int) (n : Int) true = capstanlaw11_CallsRound.l1 q (m : Int) rows a b turned xs (k : Int) (r2 : Int) ((n + 1 : Nat) : Int)) → ∃ q, capstanlaw11_CallsRound.l1 q (m : Int) rows a b turned xs (k : Int) (r : Int) (n : Int) = some true := by
        rintro r2 ⟨q, hq⟩ he
        exact ⟨q + 2, by rw [capstanlaw11_CallsRound.l1, if_pos (by omega), decide_eq_true (by omega), he q]; exact hq⟩
      have keep : (∀ q, capstanlaw11_CallsRound.j2 (q + 1) (m : Int) rows a b turned xs (k : Int) (r : Int) (n : Int) true = capstanlaw11_CallsRound.l1 q (m : Int) rows a b turned xs (k : Int) (r : Int) ((n + 1 : Nat) : Int)) → ∃ r' : Nat, crRow m turned k r' ∧ ((∃ q, capstanlaw11_CallsRound.l0 q (m : Int) rows a b turned (xs ++ [(r' : Int)]) ((k + 1 : Nat) : Int) = some true) → ∃ q, capstanlaw11_CallsRound.l1 q (m : Int) rows a b turned xs (k : Int) (r : Int) (n : Int) = some true) := fun he => by
        obtain ⟨r', h2, h3⟩ := ih (n + 1) r (by omega) hr
        exact ⟨r', h2, fun h => step r (h3 h) he⟩
      have hdec : decide ((n : Int) > (k : Int)) = decide (n > k) := by rw [decide_eq_decide]; omega
      by_cases hc : ((decide (n > k)) != turned) = true
      · by_cases hnk : n = k
        · exact keep fun q => by rw [capstanlaw11_CallsRound.j2, if_pos rfl, hdec, if_pos hc, if_pos (by omega), hw2]
        · have hb := bit_and rows[k].toNat n (by omega) (by omega)
          by_cases hbit : rows[k].toNat.testBit n = true
          · have hr2 : crRow m turned k (r ||| 2 ^ n) := by
              refine ⟨Nat.or_lt_two_pow (n := 16) hr.1 (Nat.pow_lt_pow_right (by decide) (by omega)), fun i hi => ?_⟩
              rw [Nat.testBit_or, Nat.testBit_two_pow] at hi
              by_cases e : n = i
              · subst e; exact ⟨by omega, hc, hnk⟩
              · simp only [e, decide_false, Bool.or_false] at hi
                exact hr.2 i hi
            obtain ⟨r', h2, h3⟩ := ih (n + 1) (r ||| 2 ^ n) (by omega) hr2
            refine ⟨r', h2, fun h => step (r ||| 2 ^ n) (h3 h) fun q => ?_⟩
            rw [capstanlaw11_CallsRound.j2, if_pos rfl, hdec, if_pos hc, if_neg (by omega), if_pos (by omega), if_pos (by omega), if_pos (by omega), hrd, if_pos (hb.2 hbit), bit_or r n hr.1 (by omega), hw2]
          · exact keep fun q => by rw [capstanlaw11_CallsRound.j2, if_pos rfl, hdec, if_pos hc, if_neg (by omega), if_pos (by omega), if_pos (by omega), if_pos (by omega), hrd, if_neg (fun h => hbit (hb.1 h)), hw2]
      · exact keep fun q => by rw [capstanlaw11_CallsRound.j2, if_pos rfl, hdec, if_neg hc, hw2]
    · refine ⟨r, hr, fun h => ?_⟩
      obtain ⟨q, hq⟩ := fin r n h
      exact ⟨q + 1, by rw [capstanlaw11_CallsRound.l1, if_pos (by omega), decide_eq_false (by omega)]; exact hq⟩
theorem crRows_snoc {m : Nat} {turned : Bool} {xs : List Int} (h : crRows m turned xs) {r : Nat} (hr : crRow m turned xs.length r) : crRows m turned (xs ++ [(r : Int)]) := by
  intro j hj
  rw [List.length_append, List.length_singleton] at hj
  by_cases e : j < xs.length
  · obtain ⟨q, h1, h2⟩ := h j e
    refine ⟨q, ?_, h2⟩
    rw [← h1]
    simp [List.getD_eq_getElem?_getD, List.getElem?_append_left e]
  · obtain rfl : j = xs.length := by omega
    exact ⟨r, by simp, hr⟩
theorem cr_l0 (m : Nat) (hm : m ≤ 16) (rows : List Int) (hrw : Row16 rows) (a b : Int) (turned : Bool) (last : ∀ xs, xs.length = m → crRows m turned xs → ∃ q, capstanlaw11_CallsRound.l0 q (m : Int) rows a b turned xs (m : Int) = some true) :
    ∀ s xs, xs.length + s = m → crRows m turned xs → ∃ q, capstanlaw11_CallsRound.l0 q (m : Int) rows a b turned xs (xs.length : Int) = some true := by
  intro s
  induction s with
  | zero => intro xs h hx; rw [show xs.length = m by omega]; exact last xs (by omega) hx
  | succ s ih =>
    intro xs h hx
    obtain ⟨r', hr, h2⟩ := cr_l1 m hm rows hrw a b turned xs (by omega) xs.length (by omega) m 0 0 (by omega) ⟨by decide, fun n hn => by simp at hn⟩
    obtain ⟨q, hq⟩ := h2 (by
      have := ih (xs ++ [(r' : Int)]) (by rw [List.length_append, List.length_singleton]; omega) (crRows_snoc hx hr)
      rwa [List.length_append, List.length_singleton] at this)
    exact ⟨q + 1, by rw [capstanlaw11_CallsRound.l0, if_pos (by omega)]; exact hq⟩
theorem cr_l2 (m : Nat) (a b : Int) (xs leads : List Int) (hl : leads.length ≤ 1000) : ∀ s (i : Nat) (flag : Bool), i + s = leads.length →
    (∃ q, capstanlaw11_CallsRound.l2 q (m : Int) a b xs leads (flag || (leads.drop i).contains b) (leads.length : Int) = some true) → ∃ q, capstanlaw11_CallsRound.l2 q (m : Int) a b xs leads flag (i : Int) = some true := by
  intro s
  induction s with
  | zero =>
    intro i flag h hq
    obtain rfl : i = leads.length := by omega
    rwa [List.drop_length, List.contains_nil, Bool.or_false] at hq
  | succ s ih =>
    intro i flag h hq
    have hil : i < leads.length := by omega
    have hw : wrap64 ((i : Int) + 1) = ((i + 1 : Nat) : Int) := by unfold wrap64; omega
    rw [List.drop_eq_getElem_cons hil, List.contains_cons] at hq
    have hrd : rd leads (i : Int) = leads[i] := by simp [rd, hil]
    cases flag
    · have hq2 : ∃ q, capstanlaw11_CallsRound.l2 q (m : Int) a b xs leads ((leads[i] == b) || (leads.drop (i + 1)).contains b) (leads.length : Int) = some true := by
        rw [Bool.false_or, show (b == leads[i]) = (leads[i] == b) from Bool.beq_comm] at hq
        exact hq
      obtain ⟨q, h2⟩ := ih (i + 1) _ (by omega) hq2
      exact ⟨q + 1, by rw [capstanlaw11_CallsRound.l2, if_pos (by omega), if_neg (by decide), if_pos (by omega), hrd, hw]; exact h2⟩
    · obtain ⟨q, h2⟩ := ih (i + 1) true (by omega) (by simpa using hq)
      exact ⟨q + 1, by rw [capstanlaw11_CallsRound.l2, if_pos (by omega), if_pos rfl, hw]; exact h2⟩
theorem mem_mds {m : Nat} {xs : List Int} {z : Int} (h0 : 0 ≤ z) (h1 : z < (m : Int)) (x : Int) : x ∈ (ws (mds m xs)).getD z.toNat [] ↔ x ∈ rb xs z.toNat := by
  rw [ws_get _ z.toNat (by rw [mds_len]; omega), mem_sset, nm_mds m xs z.toNat (by omega)]
theorem CallsRound : capstanlaw11_CallsRound.Pure := by
  intro a0 rows a2 b2 turned _ _ _ hrows _ _
  have hrw : Row16 rows := fun x hx => by
    have := hrows x hx
    have e1 : IntKind.u16.min = 0 := by decide
    have e2 : IntKind.u16.max = 65535 := by decide
    simp [Lit.wf] at this
    omega
  obtain ⟨m, hm1, hm2, hme⟩ : ∃ m : Nat, 1 ≤ m ∧ m ≤ 16 ∧ wrap64 (1 + wrap64 (Int.tmod (IntKind.u64.wrap a0) 16)) = (m : Int) := by
    have h1 : IntKind.u64.wrap a0 = a0 % 18446744073709551616 := by rw [IntKind.wrap_u64]
    have h2 : 0 ≤ a0 % 18446744073709551616 := Int.emod_nonneg _ (by decide)
    rw [h1, Int.tmod_eq_emod_of_nonneg h2]
    refine ⟨(1 + a0 % 18446744073709551616 % 16).toNat, ?_, ?_, ?_⟩
    · omega
    · omega
    · unfold wrap64; omega
  have hmu : IntKind.u64.wrap (m : Int) = (m : Int) := by rw [IntKind.wrap_u64]; omega
  have pick : ∀ y : Int, ∃ n : Nat, n < m ∧ wrap64 (Int.tmod (IntKind.u64.wrap y) (m : Int)) = (n : Int) := by
    intro y
    have h1 : IntKind.u64.wrap y = y % 18446744073709551616 := by rw [IntKind.wrap_u64]
    have h2 : 0 ≤ y % 18446744073709551616 := Int.emod_nonneg _ (by decide)
    rw [h1, Int.tmod_eq_emod_of_nonneg h2]
    have h3 := Int.emod_nonneg (y % 18446744073709551616) (show (m : Int) ≠ 0 by omega)
    have h4 := Int.emod_lt_of_pos (y % 18446744073709551616) (show (0 : Int) < m by omega)
    refine ⟨(y % 18446744073709551616 % (m : Int)).toNat, by omega, ?_⟩
    unfold wrap64
    omega
  obtain ⟨a, ha, hae⟩ := pick a2
  obtain ⟨b, hb, hbe⟩ := pick b2
  have last : ∀ xs, xs.length = m → crRows m turned xs → ∃ q, capstanlaw11_CallsRound.l0 q (m : Int) rows (a : Int) (b : Int) turned xs (m : Int) = some true := by
    intro xs hxl hx
    have h16 : Row16 xs := by
      intro x hxm
      obtain ⟨j, hj, rfl⟩ := List.mem_iff_getElem.1 hxm
      obtain ⟨r, h1, h2, _⟩ := hx j hj
      have : xs.getD j 0 = xs[j] := by simp [hj]
      rw [this] at h1
      omega
    have hs := mds_small m hm2 xs
    have hedge : ∀ z : Int, 0 ≤ z → z < (m : Int) → ∀ x ∈ rb xs z.toNat, 0 ≤ x ∧ x < (m : Int) ∧ ((decide (x.toNat > z.toNat)) != turned) = true ∧ x.toNat ≠ z.toNat := by
      intro z h0 h1 x hxx
      obtain ⟨h2, h3, h4, h5⟩ := mem_rb.1 hxx
      obtain ⟨r, h6, h7⟩ := hx z.toNat h2
      rw [h6, Int.toNat_natCast] at h5
      obtain ⟨h8, h9, h10⟩ := h7.2 x.toNat h5
      exact ⟨h3, by omega, h9, h10⟩
    have hok : okAll (mds m xs) := by
      intro j hj
      rw [mds_len] at hj
      rw [nm_mds m xs j hj, mds_len, cl_ok_mem]
      intro x hxx
      have := hedge (j : Int) (by omega) (by omega) x (by simpa using hxx)
      exact ⟨this.1, this.2.1⟩
    have hnr : ¬ Ring (mds m xs) := by
      refine no_ring (fun x => if turned then x.toNat else m - x.toNat) (ws_ok hok) fun z h0 h1 x hxx => ?_
      rw [ws_len, mds_len] at h1
      rw [mem_mds h0 h1] at hxx
      obtain ⟨h2, h3, h4, h5⟩ := hedge z h0 h1 x hxx
      cases turned
      · simp at h4 ⊢; omega
      · simp at h4 ⊢; omega
    rcases Order_f (l0 := []) (l1 := []) (a3 := -1) hs with ⟨_, o, hO, hOrd⟩ | ⟨_, h, _⟩ | ⟨h, _⟩
    case inr.inl => exact absurd h hnr
    case inr.inr => exact absurd hok h
    obtain ⟨q1, leads, hL, hLs, hLm⟩ := Leads_f hs hok hO hOrd (a : Int) ⟨by omega, by rw [mds_len]; omega⟩
    have hrr : ∀ x, LeadsTo (ws (mds m xs)) (a : Int) x → 0 ≤ x ∧ x < (m : Int) := by
      intro x h
      have hwo := ws_ok hok
      have hr := fun (z : Int) (h0 : 0 ≤ z) (h1 : z < (m : Int)) => (hwo z.toNat (by rw [ws_len, mds_len]; omega)).2
      rw [ws_len, mds_len] at hr
      induction h with
      | one h => exact hr (a : Int) (by omega) (by omega) _ h
      | step _ h ih => exact hr _ ih.1 ih.2 _ h
    have hLl : leads.length ≤ 1000 := by
      have := nodup_sub (a := leads) (b := o) (hLs.imp fun h => by omega) fun x h => by
        have := hrr x ((hLm x).1 h)
        exact hOrd.all x this.1 (by rw [ws_len, mds_len]; exact this.2)
      have h2 := hOrd.length
      rw [ws_len, mds_len] at h2
      omega
    -- the call back
    obtain ⟨r, hrb, hrrow⟩ := hx b (by omega)
    have hrdb : rd xs (b : Int) = (r : Int) := by show xs.getD (b : Int).toNat 0 = _; rw [Int.toNat_natCast]; exact hrb
    obtain ⟨y, hy⟩ : ∃ y : List Int, y = xs.set b ((r ||| 2 ^ a : Nat) : Int) := ⟨_, rfl⟩
    have hyl : y.length = m := by rw [hy]; simpa using hxl
    have hr16 : (r ||| 2 ^ a) < 65536 := Nat.or_lt_two_pow (n := 16) hrrow.1 (Nat.pow_lt_pow_right (by decide) (by omega))
    have hyb : y.getD b 0 = ((r ||| 2 ^ a : Nat) : Int) := by rw [hy]; simp [show b < xs.length by omega]
    have hyo : ∀ j, j ≠ b → y.getD j 0 = xs.getD j 0 := fun j hj => by rw [hy]; simp [List.getD_eq_getElem?_getD, List.getElem?_set_ne (Ne.symm hj)]
    have hy16 : Row16 y := by
      intro x hxm
      rw [hy] at hxm
      rcases List.mem_or_eq_of_mem_set hxm with h | h
      · exact h16 x h
      · rw [h]; omega
    have hrby : ∀ z : Int, 0 ≤ z → z < (m : Int) → ∀ x, x ∈ rb y z.toNat ↔ x ∈ rb xs z.toNat ∨ (z = (b : Int) ∧ x = (a : Int)) := by
      intro z h0 h1 x
      rw [mem_rb, mem_rb, hyl, hxl]
      by_cases e : z.toNat = b
      · rw [e, hyb, hrb, Int.toNat_natCast, Int.toNat_natCast, Nat.testBit_or, Nat.testBit_two_pow, Bool.or_eq_true, decide_eq_true_eq]
        constructor
        · rintro ⟨h2, h3, h4, h5 | h5⟩
          · exact .inl ⟨h2, h3, h4, h5⟩
          · exact .inr ⟨by omega, by omega⟩
        · rintro (⟨h2, h3, h4, h5⟩ | ⟨h2, h3⟩)
          · exact ⟨h2, h3, h4, .inl h5⟩
          · exact ⟨by omega, by omega, by omega, .inr (by omega)⟩
      · rw [hyo z.toNat e]
        constructor
        · exact .inl
        · rintro (h | ⟨h2, _⟩)
          · exact h
          · omega
    have hsy := mds_small m hm2 y
    have hoky : okAll (mds m y) := by
      intro j hj
      rw [mds_len] at hj
      rw [nm_mds m y j hj, mds_len, cl_ok_mem]
      intro x hxx
      rcases (hrby (j : Int) (by omega) (by omega) x).1 (by simpa using hxx) with h | ⟨_, h⟩
      · have := hedge (j : Int) (by omega) (by omega) x h
        exact ⟨this.1, this.2.1⟩
      · omega
    obtain ⟨flag, hflag⟩ : ∃ flag : Bool, flag = (((a : Int) == (b : Int)) || leads.contains (b : Int)) := ⟨_, rfl⟩
    have hcheck : ∀ k, 100 ≤ k → calls_Check.f k [] [] (mds m y) (-1) = some (if flag = true then 110 else 0) := by
      intro k hk
      have upO : ∀ v, calls_Order.f 41 [] [] (mds m y) (-1) = some v → calls_Check.f k [] [] (mds m y) (-1) = some v.2 := fun v hv => by
        unfold calls_Check.f
        rw [up (f := fun k => calls_Order.f k [] [] (mds m y) (-1)) (fun k => calls_Order.mono _ _ _ _ k) hv k (by omega)]
        rfl
      have hnew : ∀ z : Int, 0 ≤ z → z < (m : Int) → ∀ x, x ∈ (ws (mds m y)).getD z.toNat [] ↔ x ∈ (ws (mds m xs)).getD z.toNat [] ∨ (z = (b : Int) ∧ x = (a : Int)) := fun z h0 h1 x => by rw [mem_mds h0 h1, mem_mds h0 h1]; exact hrby z h0 h1 x
      rcases Order_f (l0 := []) (l1 := []) (a3 := -1) hsy with ⟨_, o', hO', hOrd'⟩ | ⟨_, hring, hO'⟩ | ⟨h, _⟩
      · rw [upO _ hO']
        cases hfl : flag
        · rfl
        · exfalso
          rw [hfl] at hflag
          have hba : pos o' (a : Int) < pos o' (b : Int) := pos_call hOrd' (by omega) (by rw [ws_len, mds_len]; omega) ((hnew (b : Int) (by omega) (by omega) _).2 (.inr ⟨rfl, rfl⟩))
          have hdown : ∀ x, LeadsTo (ws (mds m xs)) (a : Int) x → pos o' x < pos o' (a : Int) := by
            intro x h
            have hR := hrr
            induction h with
            | one h => exact pos_call hOrd' (by omega) (by rw [ws_len, mds_len]; omega) ((hnew (a : Int) (by omega) (by omega) _).2 (.inl h))
            | step h1 h ih =>
              have h2 := hR _ h1
              have := pos_call hOrd' h2.1 (by rw [ws_len, mds_len]; exact h2.2) ((hnew _ h2.1 h2.2 _).2 (.inl h))
              omega
          rcases Bool.or_eq_true_iff.1 hflag.symm with h | h
          · have : (a : Int) = (b : Int) := by simpa using h
            rw [this] at hba
            omega
          · have := hdown (b : Int) ((hLm _).1 (by simpa using h))
            omega
      · rw [upO _ hO']
        cases hfl : flag
        · exfalso
          rw [hfl] at hflag
          have hfl2 := Bool.or_eq_false_iff.1 hflag.symm
          have hab : (a : Int) ≠ (b : Int) := by simpa using hfl2.1
          have hnb : ¬ LeadsTo (ws (mds m xs)) (a : Int) (b : Int) := fun h => by
            have h2 := hfl2.2
            have h3 : leads.contains (b : Int) = true := by simpa using (hLm _).2 h
            rw [h3] at h2
            cases h2
          have hol := hOrd.length
          rw [ws_len, mds_len] at hol
          have hpl : ∀ x : Int, 0 ≤ x → x < (m : Int) → pos o x < m := fun x h0 h1 => by
            have := (List.getElem?_eq_some_iff.1 (pos_get (hOrd.all x h0 (by rw [ws_len, mds_len]; exact h1)))).1
            omega
          have hg : ∃ g : Int → Nat, (∀ x, (x = (a : Int) ∨ LeadsTo (ws (mds m xs)) (a : Int) x) → g x = pos o x) ∧ ∀ x, ¬ (x = (a : Int) ∨ LeadsTo (ws (mds m xs)) (a : Int) x) → g x = m + 1 + pos o x := by
            classical
            exact ⟨fun x => if x = (a : Int) ∨ LeadsTo (ws (mds m xs)) (a : Int) x then pos o x else m + 1 + pos o x, fun x h => if_pos h, fun x h => if_neg h⟩
          obtain ⟨g, hg1, hg2⟩ := hg
          refine no_ring g (ws_ok hoky) (fun z h0 h1 x hxx => ?_) hring
          rw [ws_len, mds_len] at h1
          rcases (hnew z h0 h1 x).1 hxx with hold | ⟨hz, hxa⟩
          · have hlt := pos_call hOrd h0 (by rw [ws_len, mds_len]; exact h1) hold
            have hxr : 0 ≤ x ∧ x < (m : Int) := by
              have := (ws_ok hok z.toNat (by rw [ws_len, mds_len]; omega)).2 x hold
              rwa [ws_len, mds_len] at this
            by_cases hzR : z = (a : Int) ∨ LeadsTo (ws (mds m xs)) (a : Int) z
            · have hxR : x = (a : Int) ∨ LeadsTo (ws (mds m xs)) (a : Int) x := by
                rcases hzR with e | e
                · subst e; exact .inr (.one hold)
                · exact .inr (.step e hold)
              rw [hg1 x hxR, hg1 z hzR]; exact hlt
            · by_cases hxR : x = (a : Int) ∨ LeadsTo (ws (mds m xs)) (a : Int) x
              · rw [hg1 x hxR, hg2 z hzR]; omega
              · rw [hg2 x hxR, hg2 z hzR]; omega
          · subst hz hxa
            rw [hg1 _ (.inl rfl), hg2 _ (fun h => by rcases h with h | h; exact hab h.symm; exact hnb h)]
            have := hpl (a : Int) (by omega) (by omega)
            omega
        · rfl
      · exact absurd hoky h
    -- the walk
    have hend : ∃ q, capstanlaw11_CallsRound.l2 q (m : Int) (a : Int) (b : Int) xs leads flag (leads.length : Int) = some true := by
      refine ⟨2000 + 1, ?_⟩
      rw [capstanlaw11_CallsRound.l2, if_neg (by omega), if_pos (by omega), if_pos (by omega), if_pos (by omega), Option.bind_some, hrdb, bit_or r a hrrow.1 (by omega), Int.toNat_natCast, ← hy]
      have hmk := made_f y hy16 m hm2 2000 (by omega)
      have hck := hcheck 2000 (by omega)
      cases hfl : flag
      · rw [if_neg (by decide), hmk, Option.bind_some]
        dsimp only
        rw [hck, hfl]; rfl
      · rw [if_pos rfl, hmk, Option.bind_some]
        dsimp only
        rw [hck, hfl]; rfl
    rw [hflag, show leads = leads.drop 0 from rfl] at hend
    obtain ⟨q2, hq2⟩ := cr_l2 m (a : Int) (b : Int) xs leads hLl leads.length 0 ((a : Int) == (b : Int)) (by omega) hend
    have hchk : ∀ k, 41 ≤ k → calls_Check.f k [] [] (mds m xs) (-1) = some 0 := fun k hk => by
      unfold calls_Check.f
      rw [up (f := fun k => calls_Order.f k [] [] (mds m xs) (-1)) (fun k => calls_Order.mono _ _ _ _ k) hO k hk]
      rfl
    refine ⟨q1 + q2 + 2000 + 1, ?_⟩
    rw [capstanlaw11_CallsRound.l0, if_neg (by omega), made_f xs h16 m hm2 _ (by omega), Option.bind_some]
    dsimp only
    rw [hchk _ (by omega), Option.bind_some, if_pos rfl, up (f := fun k => calls_Leads.f k [] [] (mds m xs) (-1) (a : Int)) (fun k => calls_Leads.mono _ _ _ _ _ k) hL _ (by omega), Option.bind_some]
    dsimp only
    rw [if_pos rfl, show q1 + q2 + 2000 = (q1 + q2 + 1999) + 1 from rfl, capstanlaw11_CallsRound.j3]
    exact up (f := fun k => capstanlaw11_CallsRound.l2 k (m : Int) (a : Int) (b : Int) xs leads ((a : Int) == (b : Int)) 0) (fun k => (capstanlaw11_CallsRound.mono_l k).2.2.2.2 _ _ _ _ _ _ _) hq2 _ (by omega)
  obtain ⟨q, hq⟩ := cr_l0 m hm2 rows hrw (a : Int) (b : Int) turned last m [] (by simp) (fun j hj => absurd hj (Nat.not_lt_zero _))
  refine ⟨q + 300, ?_⟩
  unfold capstanlaw11_CallsRound.f
  rw [awake_f _ (by omega), Option.bind_some, if_pos rfl, hme, hmu, if_neg (by omega), hae, hbe]
  exact up (f := fun k => capstanlaw11_CallsRound.l0 k (m : Int) rows (a : Int) (b : Int) turned [] 0) (fun k => (capstanlaw11_CallsRound.mono_l k).1 _ _ _ _ _ _ _) hq _ (by omega)
end Go.Proofs.Ytkmnachdibhdhaa.Pure
