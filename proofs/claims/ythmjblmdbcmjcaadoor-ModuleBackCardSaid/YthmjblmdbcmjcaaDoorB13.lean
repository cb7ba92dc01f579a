/- Contracts of functions of this seat. -/
import Derived.Test.YthmjblmdbcmjcaaDoorB0
import Derived.Test.YthmjblmdbcmjcaaDoorB1
import Derived.Test.YthmjblmdbcmjcaaDoorB4
namespace Go.Proofs.YthmjblmdbcmjcaaDoor.B
open Go.RowKit Go.Proofs.YthmjblmdbcmjcaaDoorW.PrintWords Go.Proofs.YthmjblmdbcmjcaaDoorW.PrintLast Go.Proofs.YthmjblmdbcmjcaaDoorW.PrintMore
attribute [local go_sem] max2_int min2_int max_two min_two max_three min_three max_four min_four
set_option linter.unusedVariables false
set_option linter.unusedSimpArgs false

attribute [local go_sem high] eqA73
/-! ### value_May: function 57 -/
def value_May.f (a0_0 : Int) (a0_1 : Int) (a0_2 : Int) : Option (Bool) := (value_Pair.f a0_1 a0_2).bind fun bt176 => ((value_Int.f a0_1).bind fun bt181 => (if (a0_0 == bt181.1 && (a0_1 == bt181.2.1 && (a0_2 == bt181.2.2))) = true then (some true) else (if bt176.2.2.2 = true then (some (a0_0 == bt176.1 && (a0_1 == bt176.2.1 && (a0_2 == bt176.2.2.1)))) else (some false))))
def value_May.T2 : Bool × List (List Nat × List Nat) := (true, [([], []), ([], []), ([1], [1]), ([2], [2]), ([0, 3], [0, 3]), ([4, 3], [4]), ([5], [5]), ([6, 5, 5], [5, 6]), ([7], [7]), ([7], [7]), ([8, 9, 7], [7, 8, 9]), ([7, 10, 5], [5, 7, 10]), ([5, 11], [5, 11]), ([12, 7, 0, 1, 2, 3, 4, 5, 6, 7, 8, 9, 10, 11, 12], [12])])
def value_May.B2 : List Nat := [0, 0, 2, 6, 15, 31, 63, 127, 255, 255, 1023, 2047, 4095, 8191]
theorem value_May.tab2 : rtab .any (opsOf Tryd.f57 2) = value_May.T2 := by kernel_rfl
theorem value_May.bits2 : waitsOk value_May.T2.2 value_May.B2 = true := by kernel_rfl
set_option maxHeartbeats 8000000 in
set_option maxRecDepth 100000 in
theorem value_May.calls (a0_0 : Int) (a0_1 : Int) (a0_2 : Int) (r : Bool) (w : World) (h : value_May.f a0_0 a0_1 a0_2 = some r) :
  Calls Tryd.prog 57 #[.agg #[.int .u8 a0_0, .int .i64 a0_1, .int .i64 a0_2]] w fun e w' => e = .returned (.bool r) ∧ Below w.heap.size w w' := by
 have hu73 := Tryd.underlying73; have HB := Aside0.mk (Below.refl w.heap.size w); have H := h; unfold value_May.f at H; clear h; obtain ⟨⟨t176, t177, t178, t179⟩, A2, H⟩ := sq_bind H; dsimp only at H; obtain ⟨⟨t181, t182, t183⟩, A3, H⟩ := sq_bind H; dsimp only at H
 by_cases c4 : (a0_0 == t181 && (a0_1 == t182 && (a0_2 == t183))) = true
 ·
  rw [if_pos c4] at H; have c4b0 : (a0_0 == t181 && (a0_1 == t182 && (a0_2 == t183))) = true := c4; (try (have c4b1 : decide (a0_0 = t181 && (a0_1 == t182 && (a0_2 == t183))) = true := by first | (simp; done) | simpa using c4)); (try (have c4b2 : (a0_0 == t181 && (a0_1 == t182 && (a0_2 == t183))) = true := by first | (simp; done) | simpa using c4)); clear c4; obtain rfl := Option.some.inj H
  go_enter Tryd.func57, Tryd.ntmps57
  try go_wp2_with (first | ((with_reducible refine gate_dst (N := 1) rfl ?_); refine sq_box (N := 1) (cs := #[.int .u8 a0_0, .int .i64 a0_1, .int .i64 a0_2]) (t := 73) ?_; intro gb175 hg w5 hbox hb; have n_ := sq_n4 (below_step (au1) hb) hbox ((au25 : w.heap.size ≤ gb175)) ((au25 : w.heap.size ≤ gb175)); clear HB; obtain ⟨HB, BK175, GW175, GE175⟩ := n_; clear hb hbox hg; have hz6 := blk_all3 BK175.out) | ((with_reducible refine gate_callee (f := 88) rfl ?_); refine goesL_ (some 10) rfl rfl Tryd.func88 (by kernel_rfl) rfl #[.int .i64 a0_1, .int .i64 a0_2] rfl (au2) ?_; (with_reducible refine (value_Pair.calls a0_1 a0_2 t176 t177 t178 t179 _ A2.out).mono ?_); rintro e w7 ⟨rfl, hb⟩; refine ⟨_, rfl, ?_⟩; have n_ := sq_n2 (blk_below (au47) hb) (below_step (au35) hb); clear BK175 HB; obtain ⟨BK175, HB⟩ := n_; (try clear hb)) | ((with_reducible refine gate_dst (N := 3) rfl ?_); refine sq_box (N := 3) (cs := #[.int .u8 0, .int .i64 0, .int .i64 0]) (t := 73) ?_; intro gb180 hg w8 hbox hb; have n_ := sq_n7 (blk_below (au47) hb) (below_step (au35) hb) hbox ((by rw [hg]; exact (below_size (au35)) : w.heap.size ≤ gb180)) ((by rw [hg]; exact (below_size (au35)) : w.heap.size ≤ gb180)) ((by rw [hg]; exact Nat.ne_of_lt (blk_lt (au47)) : gb175 ≠ gb180)) ((by rw [hg]; exact Nat.ne_of_gt (blk_lt (au47)) : gb180 ≠ gb175)); clear BK175 HB; obtain ⟨BK175, HB, BK180, GW180, GE180, NB175_180, NB180_175⟩ := n_; clear hb hbox hg; have hnb9 := NB180_175.out; have hnc9 := NB175_180.out; have hz10 := blk_all3 BK180.out))
  have n0_ : Aside0 ((((w8.setCell ⟨gb180, 0, none⟩ (.int .u8 t176)).setCell ⟨gb180, 1, none⟩ (.int .i64 t177)).setCell ⟨gb180, 2, none⟩ (.int .i64 t178)).heap[gb175]? = some (.cells #[.int .u8 a0_0, .int .i64 a0_1, .int .i64 a0_2] 73 (0, 0))) := ⟨au87⟩; have n1_ : Aside0 ((((w8.setCell ⟨gb180, 0, none⟩ (.int .u8 t176)).setCell ⟨gb180, 1, none⟩ (.int .i64 t177)).setCell ⟨gb180, 2, none⟩ (.int .i64 t178)).heap[gb180]? = some (.cells #[.int .u8 t176, .int .i64 t177, .int .i64 t178] 73 (0, 0))) := ⟨au75⟩; have n2_ : Aside0 (Below w.heap.size w (((w8.setCell ⟨gb180, 0, none⟩ (.int .u8 t176)).setCell ⟨gb180, 1, none⟩ (.int .i64 t177)).setCell ⟨gb180, 2, none⟩ (.int .i64 t178))) := ⟨au31⟩; (try clear BK175); (try clear BK180); (try clear HB)
  generalize (((w8.setCell ⟨gb180, 0, none⟩ (.int .u8 t176)).setCell ⟨gb180, 1, none⟩ (.int .i64 t177)).setCell ⟨gb180, 2, none⟩ (.int .i64 t178)) = w11 at n0_ n1_ n2_ ⊢
  have BK175 := n0_; have BK180 := n1_; have HB := n2_; clear n0_ n1_ n2_; (try (rw [drewN_self w11]; generalize hq_ : World.drewN w11 _ = w11; have n0_ : Aside0 (w11.heap[gb175]? = some (.cells #[.int .u8 a0_0, .int .i64 a0_1, .int .i64 a0_2] 73 (0, 0))) := ⟨by rw [← hq_]; exact (au47)⟩; have n1_ : Aside0 (w11.heap[gb180]? = some (.cells #[.int .u8 t176, .int .i64 t177, .int .i64 t178] 73 (0, 0))) := ⟨by rw [← hq_]; exact (au130)⟩; have n2_ : Aside0 (Below w.heap.size w w11) := ⟨by rw [← hq_]; exact (au31)⟩; clear BK175 BK180 HB hq_; have BK175 := n0_; have BK180 := n1_; have HB := n2_; clear n0_ n1_ n2_)); (try obtain ⟨hcu12_0, hcu12_1, hcu12_2, hfu12_0, hfu12_1, hfu12_2⟩ := blk_all3 BK175.out); (try obtain ⟨hcu13_0, hcu13_1, hcu13_2, hfu13_0, hfu13_1, hfu13_2⟩ := blk_all3 BK180.out); have n_ := sq_n3 (blk_drew BK175.out) (blk_drew BK180.out) (below_drew1 HB.out); clear BK175 BK180 HB; obtain ⟨BK175, BK180, HB⟩ := n_; refine start_ (n := 14) (S := fun w' => w'.cell? ⟨gb175, 0, none⟩ = some (.int .u8 a0_0) ∧ w'.cell? ⟨gb175, 1, none⟩ = some (.int .i64 a0_1) ∧ w'.cell? ⟨gb175, 2, none⟩ = some (.int .i64 a0_2)) (ds := []) #[false, false, false, false, false, false, false, false, false, false, false, false, false, false] (by kernel_rfl) rfl rfl ⟨(blk_cell BK175.out 0).trans rfl, (blk_cell BK175.out 1).trans rfl, (blk_cell BK175.out 2).trans rfl⟩ (fun hHeld => ?_); refine with_tabW value_May.tab2 value_May.bits2 (fun HT_ HW_ => ?_)
  generalize w11.drew = w14 at BK175 BK180 HB hHeld ⊢
  refine sq_p 1 14 HT_ ?_
  refine sq_t 0 13 HT_ HW_ hHeld ?_
  refine sq_t 2 15 HT_ HW_ hHeld ?_
  refine one_ (i := 3) (N := some 16) #[true, true, true, true, false, false, false, false, false, false, false, false, false, false] rfl rfl (one_of HT_.out (by kernel_rfl)) (by decide) (fun K hK => ?_); refine goes_ Tryd.func89 (by kernel_rfl) rfl #[.int .i64 a0_1] (by rfl) rfl rfl (au2) ?_; with_reducible refine (value_Int.calls a0_1 t181 t182 t183 _ A3.out).mono ?_; rintro e w15 ⟨rfl, hb⟩; refine ⟨_, rfl, ?_⟩; have n_ := sq_n3 (blk_below (au47) hb) (blk_below (au130) hb) (below_step (au31) hb); clear BK175 BK180 HB; obtain ⟨BK175, BK180, HB⟩ := n_; (try clear hb); refine hK.out _ _ ⟨(blk_cell BK175.out 0).trans rfl, (blk_cell BK175.out 1).trans rfl, (blk_cell BK175.out 2).trans rfl⟩ (fun hHeld => ?_); clear hK K; refine norm_ (a' := ?_) ?_ ?_; rotate_left
  · show Act.put _ (some 16) _ = _; simp only [Act.put, List.setIfInBounds_toArray, List.set_cons_zero, List.set_cons_succ, i64_w, i32_w]; rfl
  refine sq_p 4 17 HT_ ?_
  refine sq_p 5 18 HT_ ?_
  refine sq_u 6 19 HT_ ?_
  refine sq_u 7 20 HT_ ?_
  refine sq_u 8 21 HT_ ?_
  refine sq_u 9 22 HT_ ?_
  refine sq_u 10 23 HT_ ?_
  refine sq_u 11 24 HT_ ?_
  refine sq_p 12 25 HT_ ?_
  refine sq_p 13 2 HT_ ?_
  refine done_ (done_of HT_.out (by kernel_rfl)) ?_
  try go_wp2
  go_ret; exact ⟨au7, au31⟩
 ·
  rw [if_neg c4] at H
  have c4b0 : (a0_0 == t181 && (a0_1 == t182 && (a0_2 == t183))) = false := by simpa using c4
  (try (have c4b1 : decide (a0_0 = t181 && (a0_1 == t182 && (a0_2 == t183))) = false := by first | (simp; done) | simpa using c4)); (try (have c4b2 : (a0_0 == t181 && (a0_1 == t182 && (a0_2 == t183))) = false := by first | (simp; done) | simpa using c4)); (try (have c4b3 : ¬ (a0_0 = t181 && (a0_1 == t182 && (a0_2 == t183))) := by first | (simp; done) | simpa using c4)); clear c4
  by_cases c16 : t179 = true
  rotate_left
  ·
   replace c16 := Bool.eq_false_iff.mpr c16; subst c16
   rw [sq_f] at H; obtain rfl := Option.some.inj H
   go_enter Tryd.func57, Tryd.ntmps57
   try go_wp2_with (first | ((with_reducible refine gate_dst (N := 1) rfl ?_); refine sq_box (N := 1) (cs := #[.int .u8 a0_0, .int .i64 a0_1, .int .i64 a0_2]) (t := 73) ?_; intro gb175 hg w28 hbox hb; have n_ := sq_n4 (below_step (au1) hb) hbox ((au25 : w.heap.size ≤ gb175)) ((au25 : w.heap.size ≤ gb175)); clear HB; obtain ⟨HB, BK175, GW175, GE175⟩ := n_; clear hb hbox hg; have hz29 := blk_all3 BK175.out) | ((with_reducible refine gate_callee (f := 88) rfl ?_); refine goesL_ (some 10) rfl rfl Tryd.func88 (by kernel_rfl) rfl #[.int .i64 a0_1, .int .i64 a0_2] rfl (au2) ?_; (with_reducible refine (value_Pair.calls a0_1 a0_2 t176 t177 t178 false _ A2.out).mono ?_); rintro e w30 ⟨rfl, hb⟩; refine ⟨_, rfl, ?_⟩; have n_ := sq_n2 (blk_below (au47) hb) (below_step (au35) hb); clear BK175 HB; obtain ⟨BK175, HB⟩ := n_; (try clear hb)) | ((with_reducible refine gate_dst (N := 3) rfl ?_); refine sq_box (N := 3) (cs := #[.int .u8 0, .int .i64 0, .int .i64 0]) (t := 73) ?_; intro gb180 hg w31 hbox hb; have n_ := sq_n7 (blk_below (au47) hb) (below_step (au35) hb) hbox ((by rw [hg]; exact (below_size (au35)) : w.heap.size ≤ gb180)) ((by rw [hg]; exact (below_size (au35)) : w.heap.size ≤ gb180)) ((by rw [hg]; exact Nat.ne_of_lt (blk_lt (au47)) : gb175 ≠ gb180)) ((by rw [hg]; exact Nat.ne_of_gt (blk_lt (au47)) : gb180 ≠ gb175)); clear BK175 HB; obtain ⟨BK175, HB, BK180, GW180, GE180, NB175_180, NB180_175⟩ := n_; clear hb hbox hg; have hnb32 := NB180_175.out; have hnc32 := NB175_180.out; have hz33 := blk_all3 BK180.out))
   have n0_ : Aside0 ((((w31.setCell ⟨gb180, 0, none⟩ (.int .u8 t176)).setCell ⟨gb180, 1, none⟩ (.int .i64 t177)).setCell ⟨gb180, 2, none⟩ (.int .i64 t178)).heap[gb175]? = some (.cells #[.int .u8 a0_0, .int .i64 a0_1, .int .i64 a0_2] 73 (0, 0))) := ⟨au87⟩; have n1_ : Aside0 ((((w31.setCell ⟨gb180, 0, none⟩ (.int .u8 t176)).setCell ⟨gb180, 1, none⟩ (.int .i64 t177)).setCell ⟨gb180, 2, none⟩ (.int .i64 t178)).heap[gb180]? = some (.cells #[.int .u8 t176, .int .i64 t177, .int .i64 t178] 73 (0, 0))) := ⟨au75⟩; have n2_ : Aside0 (Below w.heap.size w (((w31.setCell ⟨gb180, 0, none⟩ (.int .u8 t176)).setCell ⟨gb180, 1, none⟩ (.int .i64 t177)).setCell ⟨gb180, 2, none⟩ (.int .i64 t178))) := ⟨au31⟩; (try clear BK175); (try clear BK180); (try clear HB)
   generalize (((w31.setCell ⟨gb180, 0, none⟩ (.int .u8 t176)).setCell ⟨gb180, 1, none⟩ (.int .i64 t177)).setCell ⟨gb180, 2, none⟩ (.int .i64 t178)) = w34 at n0_ n1_ n2_ ⊢
   have BK175 := n0_; have BK180 := n1_; have HB := n2_; clear n0_ n1_ n2_; (try (rw [drewN_self w34]; generalize hq_ : World.drewN w34 _ = w34; have n0_ : Aside0 (w34.heap[gb175]? = some (.cells #[.int .u8 a0_0, .int .i64 a0_1, .int .i64 a0_2] 73 (0, 0))) := ⟨by rw [← hq_]; exact (au47)⟩; have n1_ : Aside0 (w34.heap[gb180]? = some (.cells #[.int .u8 t176, .int .i64 t177, .int .i64 t178] 73 (0, 0))) := ⟨by rw [← hq_]; exact (au130)⟩; have n2_ : Aside0 (Below w.heap.size w w34) := ⟨by rw [← hq_]; exact (au31)⟩; clear BK175 BK180 HB hq_; have BK175 := n0_; have BK180 := n1_; have HB := n2_; clear n0_ n1_ n2_)); (try obtain ⟨hcu35_0, hcu35_1, hcu35_2, hfu35_0, hfu35_1, hfu35_2⟩ := blk_all3 BK175.out); (try obtain ⟨hcu36_0, hcu36_1, hcu36_2, hfu36_0, hfu36_1, hfu36_2⟩ := blk_all3 BK180.out); have n_ := sq_n3 (blk_drew BK175.out) (blk_drew BK180.out) (below_drew1 HB.out); clear BK175 BK180 HB; obtain ⟨BK175, BK180, HB⟩ := n_; refine start_ (n := 14) (S := fun w' => w'.cell? ⟨gb175, 0, none⟩ = some (.int .u8 a0_0) ∧ w'.cell? ⟨gb175, 1, none⟩ = some (.int .i64 a0_1) ∧ w'.cell? ⟨gb175, 2, none⟩ = some (.int .i64 a0_2)) (ds := []) #[false, false, false, false, false, false, false, false, false, false, false, false, false, false] (by kernel_rfl) rfl rfl ⟨(blk_cell BK175.out 0).trans rfl, (blk_cell BK175.out 1).trans rfl, (blk_cell BK175.out 2).trans rfl⟩ (fun hHeld => ?_); refine with_tabW value_May.tab2 value_May.bits2 (fun HT_ HW_ => ?_)
   generalize w34.drew = w37 at BK175 BK180 HB hHeld ⊢
   refine sq_p 1 14 HT_ ?_
   refine sq_t 0 13 HT_ HW_ hHeld ?_
   refine sq_t 2 15 HT_ HW_ hHeld ?_
   refine one_ (i := 3) (N := some 16) #[true, true, true, true, false, false, false, false, false, false, false, false, false, false] rfl rfl (one_of HT_.out (by kernel_rfl)) (by decide) (fun K hK => ?_); refine goes_ Tryd.func89 (by kernel_rfl) rfl #[.int .i64 a0_1] (by rfl) rfl rfl (au2) ?_; with_reducible refine (value_Int.calls a0_1 t181 t182 t183 _ A3.out).mono ?_; rintro e w38 ⟨rfl, hb⟩; refine ⟨_, rfl, ?_⟩; have n_ := sq_n3 (blk_below (au47) hb) (blk_below (au130) hb) (below_step (au31) hb); clear BK175 BK180 HB; obtain ⟨BK175, BK180, HB⟩ := n_; (try clear hb); refine hK.out _ _ ⟨(blk_cell BK175.out 0).trans rfl, (blk_cell BK175.out 1).trans rfl, (blk_cell BK175.out 2).trans rfl⟩ (fun hHeld => ?_); clear hK K; refine norm_ (a' := ?_) ?_ ?_; rotate_left
   · show Act.put _ (some 16) _ = _; simp only [Act.put, List.setIfInBounds_toArray, List.set_cons_zero, List.set_cons_succ, i64_w, i32_w]; rfl
   refine sq_p 4 17 HT_ ?_
   refine sq_p 5 18 HT_ ?_
   refine sq_p 6 19 HT_ ?_
   refine sq_p 7 20 HT_ ?_
   refine sq_u 8 21 HT_ ?_
   refine sq_u 9 22 HT_ ?_
   refine sq_u 10 23 HT_ ?_
   refine sq_p 11 24 HT_ ?_
   refine sq_p 12 25 HT_ ?_
   refine sq_p 13 2 HT_ ?_
   refine done_ (done_of HT_.out (by kernel_rfl)) ?_
   try go_wp2
   go_ret; exact ⟨au7, au31⟩

  subst c16
  rw [if_pos rfl] at H; obtain rfl := Option.some.inj H
  go_enter Tryd.func57, Tryd.ntmps57
  try go_wp2_with (first | ((with_reducible refine gate_dst (N := 1) rfl ?_); refine sq_box (N := 1) (cs := #[.int .u8 a0_0, .int .i64 a0_1, .int .i64 a0_2]) (t := 73) ?_; intro gb175 hg w17 hbox hb; have n_ := sq_n4 (below_step (au1) hb) hbox ((au25 : w.heap.size ≤ gb175)) ((au25 : w.heap.size ≤ gb175)); clear HB; obtain ⟨HB, BK175, GW175, GE175⟩ := n_; clear hb hbox hg; have hz18 := blk_all3 BK175.out) | ((with_reducible refine gate_callee (f := 88) rfl ?_); refine goesL_ (some 10) rfl rfl Tryd.func88 (by kernel_rfl) rfl #[.int .i64 a0_1, .int .i64 a0_2] rfl (au2) ?_; (with_reducible refine (value_Pair.calls a0_1 a0_2 t176 t177 t178 true _ A2.out).mono ?_); rintro e w19 ⟨rfl, hb⟩; refine ⟨_, rfl, ?_⟩; have n_ := sq_n2 (blk_below (au47) hb) (below_step (au35) hb); clear BK175 HB; obtain ⟨BK175, HB⟩ := n_; (try clear hb)) | ((with_reducible refine gate_dst (N := 3) rfl ?_); refine sq_box (N := 3) (cs := #[.int .u8 0, .int .i64 0, .int .i64 0]) (t := 73) ?_; intro gb180 hg w20 hbox hb; have n_ := sq_n7 (blk_below (au47) hb) (below_step (au35) hb) hbox ((by rw [hg]; exact (below_size (au35)) : w.heap.size ≤ gb180)) ((by rw [hg]; exact (below_size (au35)) : w.heap.size ≤ gb180)) ((by rw [hg]; exact Nat.ne_of_lt (blk_lt (au47)) : gb175 ≠ gb180)) ((by rw [hg]; exact Nat.ne_of_gt (blk_lt (au47)) : gb180 ≠ gb175)); clear BK175 HB; obtain ⟨BK175, HB, BK180, GW180, GE180, NB175_180, NB180_175⟩ := n_; clear hb hbox hg; have hnb21 := NB180_175.out; have hnc21 := NB175_180.out; have hz22 := blk_all3 BK180.out))
  have n0_ : Aside0 ((((w20.setCell ⟨gb180, 0, none⟩ (.int .u8 t176)).setCell ⟨gb180, 1, none⟩ (.int .i64 t177)).setCell ⟨gb180, 2, none⟩ (.int .i64 t178)).heap[gb175]? = some (.cells #[.int .u8 a0_0, .int .i64 a0_1, .int .i64 a0_2] 73 (0, 0))) := ⟨au87⟩; have n1_ : Aside0 ((((w20.setCell ⟨gb180, 0, none⟩ (.int .u8 t176)).setCell ⟨gb180, 1, none⟩ (.int .i64 t177)).setCell ⟨gb180, 2, none⟩ (.int .i64 t178)).heap[gb180]? = some (.cells #[.int .u8 t176, .int .i64 t177, .int .i64 t178] 73 (0, 0))) := ⟨au75⟩; have n2_ : Aside0 (Below w.heap.size w (((w20.setCell ⟨gb180, 0, none⟩ (.int .u8 t176)).setCell ⟨gb180, 1, none⟩ (.int .i64 t177)).setCell ⟨gb180, 2, none⟩ (.int .i64 t178))) := ⟨au31⟩; (try clear BK175); (try clear BK180); (try clear HB)
  generalize (((w20.setCell ⟨gb180, 0, none⟩ (.int .u8 t176)).setCell ⟨gb180, 1, none⟩ (.int .i64 t177)).setCell ⟨gb180, 2, none⟩ (.int .i64 t178)) = w23 at n0_ n1_ n2_ ⊢
  have BK175 := n0_; have BK180 := n1_; have HB := n2_; clear n0_ n1_ n2_; (try (rw [drewN_self w23]; generalize hq_ : World.drewN w23 _ = w23; have n0_ : Aside0 (w23.heap[gb175]? = some (.cells #[.int .u8 a0_0, .int .i64 a0_1, .int .i64 a0_2] 73 (0, 0))) := ⟨by rw [← hq_]; exact (au47)⟩; have n1_ : Aside0 (w23.heap[gb180]? = some (.cells #[.int .u8 t176, .int .i64 t177, .int .i64 t178] 73 (0, 0))) := ⟨by rw [← hq_]; exact (au130)⟩; have n2_ : Aside0 (Below w.heap.size w w23) := ⟨by rw [← hq_]; exact (au31)⟩; clear BK175 BK180 HB hq_; have BK175 := n0_; have BK180 := n1_; have HB := n2_; clear n0_ n1_ n2_)); (try obtain ⟨hcu24_0, hcu24_1, hcu24_2, hfu24_0, hfu24_1, hfu24_2⟩ := blk_all3 BK175.out); (try obtain ⟨hcu25_0, hcu25_1, hcu25_2, hfu25_0, hfu25_1, hfu25_2⟩ := blk_all3 BK180.out); have n_ := sq_n3 (blk_drew BK175.out) (blk_drew BK180.out) (below_drew1 HB.out); clear BK175 BK180 HB; obtain ⟨BK175, BK180, HB⟩ := n_; refine start_ (n := 14) (S := fun w' => w'.cell? ⟨gb175, 0, none⟩ = some (.int .u8 a0_0) ∧ w'.cell? ⟨gb175, 1, none⟩ = some (.int .i64 a0_1) ∧ w'.cell? ⟨gb175, 2, none⟩ = some (.int .i64 a0_2) ∧ w'.cell? ⟨gb180, 0, none⟩ = some (.int .u8 t176) ∧ w'.cell? ⟨gb180, 1, none⟩ = some (.int .i64 t177) ∧ w'.cell? ⟨gb180, 2, none⟩ = some (.int .i64 t178)) (ds := []) #[false, false, false, false, false, false, false, false, false, false, false, false, false, false] (by kernel_rfl) rfl rfl ⟨(blk_cell BK175.out 0).trans rfl, (blk_cell BK175.out 1).trans rfl, (blk_cell BK175.out 2).trans rfl, (blk_cell BK180.out 0).trans rfl, (blk_cell BK180.out 1).trans rfl, (blk_cell BK180.out 2).trans rfl⟩ (fun hHeld => ?_); refine with_tabW value_May.tab2 value_May.bits2 (fun HT_ HW_ => ?_)
  generalize w23.drew = w26 at BK175 BK180 HB hHeld ⊢
  refine sq_p 1 14 HT_ ?_
  refine sq_t 0 13 HT_ HW_ hHeld ?_
  refine sq_t 2 15 HT_ HW_ hHeld ?_
  refine one_ (i := 3) (N := some 16) #[true, true, true, true, false, false, false, false, false, false, false, false, false, false] rfl rfl (one_of HT_.out (by kernel_rfl)) (by decide) (fun K hK => ?_); refine goes_ Tryd.func89 (by kernel_rfl) rfl #[.int .i64 a0_1] (by rfl) rfl rfl (au2) ?_; with_reducible refine (value_Int.calls a0_1 t181 t182 t183 _ A3.out).mono ?_; rintro e w27 ⟨rfl, hb⟩; refine ⟨_, rfl, ?_⟩; have n_ := sq_n3 (blk_below (au47) hb) (blk_below (au130) hb) (below_step (au31) hb); clear BK175 BK180 HB; obtain ⟨BK175, BK180, HB⟩ := n_; (try clear hb); refine hK.out _ _ ⟨(blk_cell BK175.out 0).trans rfl, (blk_cell BK175.out 1).trans rfl, (blk_cell BK175.out 2).trans rfl, (blk_cell BK180.out 0).trans rfl, (blk_cell BK180.out 1).trans rfl, (blk_cell BK180.out 2).trans rfl⟩ (fun hHeld => ?_); clear hK K; refine norm_ (a' := ?_) ?_ ?_; rotate_left
  · show Act.put _ (some 16) _ = _; simp only [Act.put, List.setIfInBounds_toArray, List.set_cons_zero, List.set_cons_succ, i64_w, i32_w]; rfl
  refine sq_p 4 17 HT_ ?_
  refine sq_p 5 18 HT_ ?_
  refine sq_p 6 19 HT_ ?_
  refine sq_p 7 20 HT_ ?_
  refine sq_t 8 21 HT_ HW_ hHeld ?_
  refine sq_t 9 22 HT_ HW_ hHeld ?_
  refine sq_p 10 23 HT_ ?_
  refine sq_p 11 24 HT_ ?_
  refine sq_p 12 25 HT_ ?_
  refine sq_p 13 2 HT_ ?_
  refine done_ (done_of HT_.out (by kernel_rfl)) ?_
  try go_wp2
  go_ret; exact ⟨au7, au31⟩
/-! ### pool_May_1: function 56 -/
def pool_May_1.f (a0_0 : Int) (a0_1 : Int) (a0_2 : Int) : Option (Bool) := (value_May.f a0_0 a0_1 a0_2).bind fun t185 => (some (!t185))
set_option maxHeartbeats 8000000 in
set_option maxRecDepth 100000 in
theorem pool_May_1.calls (a0_0 : Int) (a0_1 : Int) (a0_2 : Int) (r : Bool) (w : World) (h : pool_May_1.f a0_0 a0_1 a0_2 = some r) :
  Calls Tryd.prog 56 #[.agg #[.int .u8 a0_0, .int .i64 a0_1, .int .i64 a0_2]] w fun e w' => e = .returned (.bool r) ∧ Below w.heap.size w w' := by
 have hu73 := Tryd.underlying73; have HB := Aside0.mk (Below.refl w.heap.size w); have H := h; unfold pool_May_1.f at H; clear h; obtain ⟨t185, A2, H⟩ := sq_bind H; obtain rfl := Option.some.inj H
 go_enter Tryd.func56, Tryd.ntmps56
 go_wp2_with (first | ((with_reducible refine gate_dst (N := 1) rfl ?_); refine sq_box (N := 1) (cs := #[.int .u8 a0_0, .int .i64 a0_1, .int .i64 a0_2]) (t := 73) ?_; intro gb184 hg w3 hbox hb; have n_ := sq_n4 (below_step (au1) hb) hbox ((au25 : w.heap.size ≤ gb184)) ((au25 : w.heap.size ≤ gb184)); clear HB; obtain ⟨HB, BK184, GW184, GE184⟩ := n_; clear hb hbox hg; have hz4 := blk_all3 BK184.out) | ((with_reducible refine gate_callee (f := 57) rfl ?_); refine goesL_ (some 4) rfl rfl Tryd.func57 (by kernel_rfl) rfl #[.agg #[.int .u8 a0_0, .int .i64 a0_1, .int .i64 a0_2]] rfl (au2) ?_; (with_reducible refine (value_May.calls a0_0 a0_1 a0_2 t185 _ A2.out).mono ?_); rintro e w5 ⟨rfl, hb⟩; refine ⟨_, rfl, ?_⟩; have n_ := sq_n2 (blk_below (by (with_reducible repeat (first | refine blk_drewN ?_ _ | refine blk_drew ?_ | refine blk_alloc ?_ _)); exact BK184.out) hb) (below_step (by repeat (first | (with_reducible first | exact HB.out | apply below_alloc | apply pw_below_drewN | apply below_drew1 | refine below_set ?_ GE184.out) | exact HB.out | exact ⟨HB.out.os, HB.out.tape, HB.out.output, HB.out.size, HB.out.block⟩)) hb); clear BK184 HB; obtain ⟨BK184, HB⟩ := n_; (try clear hb)))
 go_ret; exact ⟨au7, by repeat (first | (with_reducible first | exact HB.out | apply below_alloc | apply pw_below_drewN | apply below_drew1 | refine below_set ?_ GE184.out) | exact HB.out | exact ⟨HB.out.os, HB.out.tape, HB.out.output, HB.out.size, HB.out.block⟩)⟩

/-! ### slices_IndexFunc_api_Value_api_Value: function 87 -/
def slices_IndexFunc_api_Value_api_Value.l0 : Nat → List (S73) → Int → Int → Option (Int)
 | 0, _, _, _ => none
 | k + 1, x0, x7, x8 => if x8 < x7 then (if 0 ≤ x8 then (if x8 < (x0.length : Int) then ((pool_May_1.f ((rd_T73 x0 x8).f0) ((rd_T73 x0 x8).f1) ((rd_T73 x0 x8).f2)).bind fun t187 => (if t187 = true then (some x8) else (slices_IndexFunc_api_Value_api_Value.l0 k x0 x7 (wrap64 (x8 + 1))))) else (none)) else (none)) else (some (-1))
def slices_IndexFunc_api_Value_api_Value.f (k : Nat) (l0 : List (S73))  : Option (Int) := slices_IndexFunc_api_Value_api_Value.l0 k l0 (l0.length : Int) 0
theorem slices_IndexFunc_api_Value_api_Value.mono_l : ∀ k, (∀ y0 y1 y2, LeO (slices_IndexFunc_api_Value_api_Value.l0 k y0 y1 y2) (slices_IndexFunc_api_Value_api_Value.l0 (k + 1) y0 y1 y2))
 | 0 => fun _ _ _ r h => by simp [slices_IndexFunc_api_Value_api_Value.l0] at h
 | k + 1 => by
  have ih0 := slices_IndexFunc_api_Value_api_Value.mono_l k
  ·
   intro y0 y1 y2
   unfold slices_IndexFunc_api_Value_api_Value.l0
   repeat' first | (with_reducible first | apply ih0 | apply LeO.refl | apply LeO.none | refine LeO.ite ?_ ?_ | refine LeO.bind ?_ (fun _ => ?_)) | apply ih0 | apply LeO.none | refine LeO.ite ?_ ?_ | refine LeO.bind ?_ (fun _ => ?_)
theorem slices_IndexFunc_api_Value_api_Value.mono : ∀ a0 k, LeO (slices_IndexFunc_api_Value_api_Value.f k a0) (slices_IndexFunc_api_Value_api_Value.f (k + 1) a0) := by
 intro a0 k; have ih0 := slices_IndexFunc_api_Value_api_Value.mono_l k
 unfold slices_IndexFunc_api_Value_api_Value.f
 repeat' first | (with_reducible first | apply ih0 | apply LeO.refl | apply LeO.none | refine LeO.ite ?_ ?_ | refine LeO.bind ?_ (fun _ => ?_)) | apply ih0 | apply LeO.none | refine LeO.ite ?_ ?_ | refine LeO.bind ?_ (fun _ => ?_)
set_option maxHeartbeats 8000000 in
set_option maxRecDepth 100000 in
theorem slices_IndexFunc_api_Value_api_Value.calls (k : Nat) (A0 : Option Addr) (c0 : Nat) (l0 : List (S73))  (r : Int) (w : World) (hr0 : Kd.C k73 w A0 l0.length l0) (hc0 : l0.length ≤ c0) (h : slices_IndexFunc_api_Value_api_Value.f k l0 = some r) :
  Calls Tryd.prog 87 #[.slice A0 l0.length c0, .func (.func 56) #[] #[]] w fun e w' => e = .returned (.int .i64 r) ∧ Below w.heap.size w w' := by
 have hu73 := Tryd.underlying73; have HR0 := Aside0.mk hr0; have HC0 := Aside0.mk hc0; clear hr0 hc0; have HB := Aside0.mk (Below.refl w.heap.size w); have H := h; unfold slices_IndexFunc_api_Value_api_Value.f at H; clear h; have H' := Aside0.mk H; clear H
 go_enter Tryd.func87, Tryd.ntmps87
 go_wp2
 go_loopg [8] k (fun kq v8 w' => ∃ (x8_1 : Int), v8 = .int .i64 x8_1 ∧ Aside0 (slices_IndexFunc_api_Value_api_Value.l0 kq l0 (l0.length : Int) x8_1 = some r) ∧ Aside0 (kq ≤ k) ∧ Aside0 (Below w.heap.size w w'))
 case atStart => exact ⟨(0), (au16), H', ⟨Nat.le_refl _⟩, ⟨au1⟩⟩
 case round =>
  clear H'; (try clear p2); obtain ⟨x8_1, rfl, HA, HK1, HB⟩ := hrel
  cases gk with
  | zero => exact absurd HA.out (by simp [slices_IndexFunc_api_Value_api_Value.l0])
  | succ k1 =>
   have H := HA.out; clear HA; simp only [slices_IndexFunc_api_Value_api_Value.l0] at H
   by_cases c3 : x8_1 < (l0.length : Int)
   rotate_left
   · rw [if_neg c3] at H; have c3b0 : decide (x8_1 < (l0.length : Int)) = false := decide_eq_false c3; clear c3; obtain rfl := Option.some.inj H; go_wp2; go_ret; exact ⟨au7, au1⟩

   rw [if_pos c3] at H; have c3b0 : decide (x8_1 < (l0.length : Int)) = true := decide_eq_true c3; clear c3
   by_cases c4 : 0 ≤ x8_1
   rotate_left
   · rw [if_neg c4] at H; exact absurd H (by simp)
   rw [if_pos c4] at H; have c4b0 : decide (0 ≤ x8_1) = true := decide_eq_true c4; clear c4
   by_cases c5 : x8_1 < (l0.length : Int)
   rotate_left
   · rw [if_neg c5] at H; exact absurd H (by simp)
   rw [if_pos c5] at H; have c5b0 : decide (x8_1 < (l0.length : Int)) = true := decide_eq_true c5; clear c5; obtain ⟨t187, A6, H⟩ := sq_bind H
   by_cases c7 : t187 = true
   ·
    subst c7
    rw [if_pos rfl] at H; obtain rfl := Option.some.inj H; have p186 : 0 ≤ (x8_1 : Int) := of_decide_eq_true (au9); have q186 : x8_1 < (l0.length : Int) := of_decide_eq_true (au9); obtain ⟨ad186, e186, hx186_0, hx186_1, hx186_2⟩ := at_T73 HR0.out x8_1 p186 q186; cases e186; replace hx186_0 := sq_c HB hx186_0; replace hx186_1 := sq_c HB hx186_1; replace hx186_2 := sq_c HB hx186_2; replace p186 := eq_true p186; replace q186 := eq_true q186
    go_wp2_with (first | ((fail_if_success (have h_ := w8)); go_at_call 56; (with_reducible refine (pool_May_1.calls ((rd_T73 l0 x8_1).f0) ((rd_T73 l0 x8_1).f1) ((rd_T73 l0 x8_1).f2) true _ A6.out).mono ?_); rintro e w8 ⟨rfl, hb⟩; replace HB := Aside0.mk (below_step (au1) hb); (try clear hb)))
    go_ret; exact ⟨au7, au1⟩
   ·
    replace c7 := Bool.eq_false_iff.mpr c7; subst c7
    rw [sq_f] at H; have H' := Aside0.mk H; clear H; have p186 : 0 ≤ (x8_1 : Int) := of_decide_eq_true (au9); have q186 : x8_1 < (l0.length : Int) := of_decide_eq_true (au9); obtain ⟨ad186, e186, hx186_0, hx186_1, hx186_2⟩ := at_T73 HR0.out x8_1 p186 q186; cases e186; replace hx186_0 := sq_c HB hx186_0; replace hx186_1 := sq_c HB hx186_1; replace hx186_2 := sq_c HB hx186_2; replace p186 := eq_true p186; replace q186 := eq_true q186
    go_wp2_with (first | ((fail_if_success (have h_ := w9)); go_at_call 56; (with_reducible refine (pool_May_1.calls ((rd_T73 l0 x8_1).f0) ((rd_T73 l0 x8_1).f1) ((rd_T73 l0 x8_1).f2) false _ A6.out).mono ?_); rintro e w9 ⟨rfl, hb⟩; replace HB := Aside0.mk (below_step (au1) hb); (try clear hb)))
    go_roundg k1
    case measure => have := HK1.out; omega
    case rel => exact ⟨(wrap64 (x8_1 + 1)), (au16), H', ⟨by have := HK1.out; omega⟩, ⟨au1⟩⟩
/-! ### slices_ContainsFunc_api_Value_api_Value: function 55 -/
def slices_ContainsFunc_api_Value_api_Value.f (k : Nat) (l0 : List (S73))  : Option (Bool) := (slices_IndexFunc_api_Value_api_Value.f k l0).bind fun t188 => (some (decide (t188 ≥ 0)))
theorem slices_ContainsFunc_api_Value_api_Value.mono : ∀ a0 k, LeO (slices_ContainsFunc_api_Value_api_Value.f k a0) (slices_ContainsFunc_api_Value_api_Value.f (k + 1) a0) := by
 intro a0 k
 unfold slices_ContainsFunc_api_Value_api_Value.f
 repeat' first | (with_reducible first | apply slices_IndexFunc_api_Value_api_Value.mono | apply LeO.refl | apply LeO.none | refine LeO.ite ?_ ?_ | refine LeO.bind ?_ (fun _ => ?_)) | apply slices_IndexFunc_api_Value_api_Value.mono | apply LeO.none | refine LeO.ite ?_ ?_ | refine LeO.bind ?_ (fun _ => ?_)
set_option maxHeartbeats 8000000 in
set_option maxRecDepth 100000 in
theorem slices_ContainsFunc_api_Value_api_Value.calls (k : Nat) (A0 : Option Addr) (c0 : Nat) (l0 : List (S73))  (r : Bool) (w : World) (hr0 : Kd.C k73 w A0 l0.length l0) (hc0 : l0.length ≤ c0) (h : slices_ContainsFunc_api_Value_api_Value.f k l0 = some r) :
  Calls Tryd.prog 55 #[.slice A0 l0.length c0, .func (.func 56) #[] #[]] w fun e w' => e = .returned (.bool r) ∧ Below w.heap.size w w' := by
 have HR0 := Aside0.mk hr0; have HC0 := Aside0.mk hc0; clear hr0 hc0; have HB := Aside0.mk (Below.refl w.heap.size w); have H := h; unfold slices_ContainsFunc_api_Value_api_Value.f at H; clear h; obtain ⟨t188, A3, H⟩ := sq_bind H; obtain rfl := Option.some.inj H
 go_enter Tryd.func55, Tryd.ntmps55
 go_wp2_with (first | ((with_reducible refine gate_callee (f := 87) rfl ?_); refine goesL_ (some 7) rfl rfl Tryd.func87 (by kernel_rfl) rfl #[.slice A0 l0.length c0, .func (.func 56) #[] #[]] rfl (au2) ?_; (with_reducible refine (slices_IndexFunc_api_Value_api_Value.calls k _ _ l0  t188 _ ?side1 ?side2 A3.out).mono ?_); (case side1 => exact au62); (case side2 => exact HC0.out); rintro e w4 ⟨rfl, hb⟩; refine ⟨_, rfl, ?_⟩; replace HB := Aside0.mk (below_step (au1) hb); (try clear hb)))
 go_ret; exact ⟨au7, au1⟩

/-! ### pool_May: function 19 -/
def pool_May.f (k : Nat) (l0 : List (S73)) : Option (Bool) := if (l0.length : Int) ≤ 32 then ((slices_ContainsFunc_api_Value_api_Value.f k l0).bind fun t189 => (some (!t189))) else (some false)
theorem pool_May.mono : ∀ a0 k, LeO (pool_May.f k a0) (pool_May.f (k + 1) a0) := by
 intro a0 k
 unfold pool_May.f
 repeat' first | (with_reducible first | apply slices_ContainsFunc_api_Value_api_Value.mono | apply LeO.refl | apply LeO.none | refine LeO.ite ?_ ?_ | refine LeO.bind ?_ (fun _ => ?_)) | apply slices_ContainsFunc_api_Value_api_Value.mono | apply LeO.none | refine LeO.ite ?_ ?_ | refine LeO.bind ?_ (fun _ => ?_)
set_option maxHeartbeats 8000000 in
set_option maxRecDepth 100000 in
theorem pool_May.calls (k : Nat) (A0 : Option Addr) (c0 : Nat) (l0 : List (S73)) (r : Bool) (w : World) (hr0 : Kd.C k73 w A0 l0.length l0) (hc0 : l0.length ≤ c0) (h : pool_May.f k l0 = some r) :
  Calls Tryd.prog 19 #[.slice A0 l0.length c0] w fun e w' => e = .returned (.bool r) ∧ Below w.heap.size w w' := by
 have HR0 := Aside0.mk hr0; have HC0 := Aside0.mk hc0; clear hr0 hc0; have HB := Aside0.mk (Below.refl w.heap.size w); have H := h; unfold pool_May.f at H; clear h
 by_cases c2 : (l0.length : Int) ≤ 32
 rotate_left
 ·
  rw [if_neg c2] at H; have c2b0 : decide ((l0.length : Int) ≤ 32) = false := decide_eq_false c2; have c2b1 : decide (l0.length ≤ 32) = false := decide_eq_false (by omega); clear c2; obtain rfl := Option.some.inj H
  go_enter Tryd.func19, Tryd.ntmps19
  go_wp2; go_ret; exact ⟨au7, au1⟩

 rw [if_pos c2] at H; have c2b0 : decide ((l0.length : Int) ≤ 32) = true := decide_eq_true c2; have c2b1 : decide (l0.length ≤ 32) = true := decide_eq_true (by omega); clear c2; obtain ⟨t189, A3, H⟩ := sq_bind H; obtain rfl := Option.some.inj H
 go_enter Tryd.func19, Tryd.ntmps19
 go_wp2_with (first | ((fail_if_success (have h_ := w4)); go_at_call 55; (with_reducible refine (slices_ContainsFunc_api_Value_api_Value.calls k _ _ l0  t189 _ ?side1 ?side2 A3.out).mono ?_); (case side1 => exact au62); (case side2 => exact HC0.out); rintro e w4 ⟨rfl, hb⟩; replace HB := Aside0.mk (below_step (au1) hb); (try clear hb)))
 go_ret; exact ⟨au7, au1⟩
end Go.Proofs.YthmjblmdbcmjcaaDoor.B
