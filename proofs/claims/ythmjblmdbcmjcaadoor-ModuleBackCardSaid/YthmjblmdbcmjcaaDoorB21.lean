/- Contracts of functions of this seat. -/
import Derived.Test.YthmjblmdbcmjcaaDoorB0
import Derived.Test.YthmjblmdbcmjcaaDoorB3
import Derived.Test.YthmjblmdbcmjcaaDoorB20
namespace Go.Proofs.YthmjblmdbcmjcaaDoor.B
open Go.RowKit Go.Proofs.YthmjblmdbcmjcaaDoorW.PrintWords Go.Proofs.YthmjblmdbcmjcaaDoorW.PrintLast Go.Proofs.YthmjblmdbcmjcaaDoorW.PrintMore
attribute [local go_sem] max2_int min2_int max_two min_two max_three min_three max_four min_four
set_option linter.unusedVariables false
set_option linter.unusedSimpArgs false

attribute [local go_sem high] eqA112
/-! ### method_Same: function 50 -/
def method_Same.f (k : Nat) (l0_0 : List Int) (l0_1 : List Int) (a0_2 : Int) (a0_3 : Bool) (a0_4 : Int) (a0_5 : Int) (a0_6 : Int) (l0_7 : List (S75)) (l1_0 : List Int) (l1_1 : List Int) (a1_2 : Int) (a1_3 : Bool) (a1_4 : Int) (a1_5 : Int) (a1_6 : Int) (l1_7 : List (S75)) : Option (Bool) := (slices_Equal_uint8_uint8.f k l0_0 l1_0).bind fun t362 => (if t362 = true then ((slices_Equal_uint8_uint8.f k l0_1 l1_1).bind fun t363 => (if t363 = true then ((method_of.f l0_0 l0_1 a0_2 a0_3 a0_4 a0_5 a0_6 l0_7).bind fun bt364 => ((method_of.f l1_0 l1_1 a1_2 a1_3 a1_4 a1_5 a1_6 l1_7).bind fun bt369 => (some (bt364.1 == bt369.1 && (bt364.2.1 == bt369.2.1 && (bt364.2.2.1 == bt369.2.2.1 && (bt364.2.2.2.1 == bt369.2.2.2.1 && (bt364.2.2.2.2 == bt369.2.2.2.2)))))))) else (some false))) else (some false))
def method_Same.T1 : Bool × List (List Nat × List Nat) := (true, [([], []), ([0], [0]), ([], []), ([2], [2]), ([1, 3], [1, 3]), ([4, 4], [4]), ([5], [5]), ([6, 5], [5, 6]), ([5], [5]), ([8, 5], [5, 8]), ([7, 9, 5, 5], [5, 7, 9]), ([5, 10], [5, 10]), ([11, 10], [11]), ([12], [12]), ([13, 12, 12], [12, 13]), ([12], [12]), ([15, 14, 12], [12, 15]), ([14, 16, 12], [12, 14, 16]), ([12, 17], [12, 17]), ([18, 16, 0, 1, 2, 3, 4, 5, 6, 7, 8, 9, 10, 11, 12, 13, 14, 15, 16, 17, 18], [18])])
def method_Same.B1 : List Nat := [0, 1, 0, 4, 15, 31, 63, 127, 63, 319, 1023, 2047, 4095, 8191, 16383, 8191, 65535, 131071, 262143, 524287]
theorem method_Same.tab1 : rtab .any (opsOf Tryd.f50 1) = method_Same.T1 := by kernel_rfl
theorem method_Same.bits1 : waitsOk method_Same.T1.2 method_Same.B1 = true := by kernel_rfl
set_option maxHeartbeats 8000000 in
set_option maxRecDepth 100000 in
theorem method_Same.calls (k : Nat) (A0_0 : Option Addr) (c0_0 : Nat) (l0_0 : List Int) (A0_1 : Option Addr) (c0_1 : Nat) (l0_1 : List Int) (a0_2 : Int) (a0_3 : Bool) (a0_4 : Int) (a0_5 : Int) (a0_6 : Int) (A0_7 : Option Addr) (c0_7 : Nat) (l0_7 : List (S75)) (A1_0 : Option Addr) (c1_0 : Nat) (l1_0 : List Int) (A1_1 : Option Addr) (c1_1 : Nat) (l1_1 : List Int) (a1_2 : Int) (a1_3 : Bool) (a1_4 : Int) (a1_5 : Int) (a1_6 : Int) (A1_7 : Option Addr) (c1_7 : Nat) (l1_7 : List (S75)) (r : Bool) (w : World) (hr0_0 : Kd.C (Kd.int .u8) w A0_0 l0_0.length l0_0) (hc0_0 : l0_0.length ≤ c0_0) (hr0_1 : Kd.C (Kd.int .u8) w A0_1 l0_1.length l0_1) (hc0_1 : l0_1.length ≤ c0_1) (hr0_7 : Kd.C k75 w A0_7 l0_7.length l0_7) (hc0_7 : l0_7.length ≤ c0_7) (hr1_0 : Kd.C (Kd.int .u8) w A1_0 l1_0.length l1_0) (hc1_0 : l1_0.length ≤ c1_0) (hr1_1 : Kd.C (Kd.int .u8) w A1_1 l1_1.length l1_1) (hc1_1 : l1_1.length ≤ c1_1) (hr1_7 : Kd.C k75 w A1_7 l1_7.length l1_7) (hc1_7 : l1_7.length ≤ c1_7) (h : method_Same.f k l0_0 l0_1 a0_2 a0_3 a0_4 a0_5 a0_6 l0_7 l1_0 l1_1 a1_2 a1_3 a1_4 a1_5 a1_6 l1_7 = some r) :
  Calls Tryd.prog 50 #[.agg #[.slice A0_0 l0_0.length c0_0, .slice A0_1 l0_1.length c0_1, .int .u8 a0_2, .bool a0_3, .int .i64 a0_4, .int .i64 a0_5, .int .i64 a0_6, .slice A0_7 l0_7.length c0_7], .agg #[.slice A1_0 l1_0.length c1_0, .slice A1_1 l1_1.length c1_1, .int .u8 a1_2, .bool a1_3, .int .i64 a1_4, .int .i64 a1_5, .int .i64 a1_6, .slice A1_7 l1_7.length c1_7]] w fun e w' => e = .returned (.bool r) ∧ Below w.heap.size w w' := by
 have hu47 := Tryd.underlying47; have HR0_0 := Aside0.mk hr0_0; have HC0_0 := Aside0.mk hc0_0; clear hr0_0 hc0_0; have HR0_1 := Aside0.mk hr0_1; have HC0_1 := Aside0.mk hc0_1; clear hr0_1 hc0_1; have HR0_7 := Aside0.mk hr0_7; have HC0_7 := Aside0.mk hc0_7; clear hr0_7 hc0_7; have HR1_0 := Aside0.mk hr1_0; have HC1_0 := Aside0.mk hc1_0; clear hr1_0 hc1_0; have HR1_1 := Aside0.mk hr1_1; have HC1_1 := Aside0.mk hc1_1; clear hr1_1 hc1_1; have HR1_7 := Aside0.mk hr1_7; have HC1_7 := Aside0.mk hc1_7; clear hr1_7 hc1_7; have HB := Aside0.mk (Below.refl w.heap.size w); have H := h; unfold method_Same.f at H; clear h; obtain ⟨t362, A3, H⟩ := sq_bind H
 by_cases c4 : t362 = true
 rotate_left
 ·
  replace c4 := Bool.eq_false_iff.mpr c4; subst c4
  rw [sq_f] at H; obtain rfl := Option.some.inj H
  go_enter Tryd.func50, Tryd.ntmps50
  try go_wp2_with (first | ((with_reducible refine gate_dst (N := 2) rfl ?_); refine sq_box (N := 2) (cs := #[.slice A0_0 l0_0.length c0_0, .slice A0_1 l0_1.length c0_1, .int .u8 a0_2, .bool a0_3, .int .i64 a0_4, .int .i64 a0_5, .int .i64 a0_6, .slice A0_7 l0_7.length c0_7]) (t := 47) ?_; intro gb360 hg w21 hbox hb; have n_ := sq_n4 (below_step (au1) hb) hbox ((au25 : w.heap.size ≤ gb360)) ((au25 : w.heap.size ≤ gb360)); clear HB; obtain ⟨HB, BK360, GW360, GE360⟩ := n_; clear hb hbox hg) | ((with_reducible refine gate_dst (N := 3) rfl ?_); refine sq_box (N := 3) (cs := #[.slice A1_0 l1_0.length c1_0, .slice A1_1 l1_1.length c1_1, .int .u8 a1_2, .bool a1_3, .int .i64 a1_4, .int .i64 a1_5, .int .i64 a1_6, .slice A1_7 l1_7.length c1_7]) (t := 47) ?_; intro gb361 hg w22 hbox hb; have n_ := sq_n7 (blk_below (au65) hb) (below_step (au49) hb) hbox ((by rw [hg]; exact (below_size (au49)) : w.heap.size ≤ gb361)) ((by rw [hg]; exact (below_size (au49)) : w.heap.size ≤ gb361)) ((au139 : gb360 ≠ gb361)) ((au140 : gb361 ≠ gb360)); clear BK360 HB; obtain ⟨BK360, HB, BK361, GW361, GE361, NB360_361, NB361_360⟩ := n_; clear hb hbox hg))
  (try (rw [drewN_self w22]; generalize hq_ : World.drewN w22 _ = w22; have n0_ : Aside0 (w22.heap[gb360]? = some (.cells #[.slice A0_0 l0_0.length c0_0, .slice A0_1 l0_1.length c0_1, .int .u8 a0_2, .bool a0_3, .int .i64 a0_4, .int .i64 a0_5, .int .i64 a0_6, .slice A0_7 l0_7.length c0_7] 47 (0, 0))) := ⟨by rw [← hq_]; exact (au65)⟩; have n1_ : Aside0 (w22.heap[gb361]? = some (.cells #[.slice A1_0 l1_0.length c1_0, .slice A1_1 l1_1.length c1_1, .int .u8 a1_2, .bool a1_3, .int .i64 a1_4, .int .i64 a1_5, .int .i64 a1_6, .slice A1_7 l1_7.length c1_7] 47 (0, 0))) := ⟨by rw [← hq_]; exact (au152)⟩; have n2_ : Aside0 (Below w.heap.size w w22) := ⟨by rw [← hq_]; exact (au23)⟩; clear BK360 BK361 HB hq_; have BK360 := n0_; have BK361 := n1_; have HB := n2_; clear n0_ n1_ n2_)); (try obtain ⟨hcu23_0, hcu23_1, hcu23_2, hcu23_3, hcu23_4, hcu23_5, hcu23_6, hcu23_7, hfu23_0, hfu23_1, hfu23_2, hfu23_3, hfu23_4, hfu23_5, hfu23_6, hfu23_7⟩ := blk_all8 BK360.out); (try obtain ⟨hcu24_0, hcu24_1, hcu24_2, hcu24_3, hcu24_4, hcu24_5, hcu24_6, hcu24_7, hfu24_0, hfu24_1, hfu24_2, hfu24_3, hfu24_4, hfu24_5, hfu24_6, hfu24_7⟩ := blk_all8 BK361.out); have n_ := sq_n3 (blk_drew BK360.out) (blk_drew BK361.out) (below_drew1 HB.out); clear BK360 BK361 HB; obtain ⟨BK360, BK361, HB⟩ := n_; refine start_ (n := 20) (S := fun w' => w'.cell? ⟨gb360, 0, none⟩ = some (.slice A0_0 l0_0.length c0_0) ∧ w'.cell? ⟨gb360, 1, none⟩ = some (.slice A0_1 l0_1.length c0_1) ∧ w'.cell? ⟨gb360, 2, none⟩ = some (.int .u8 a0_2) ∧ w'.cell? ⟨gb360, 3, none⟩ = some (.bool a0_3) ∧ w'.cell? ⟨gb360, 4, none⟩ = some (.int .i64 a0_4) ∧ w'.cell? ⟨gb360, 5, none⟩ = some (.int .i64 a0_5) ∧ w'.cell? ⟨gb360, 6, none⟩ = some (.int .i64 a0_6) ∧ w'.cell? ⟨gb360, 7, none⟩ = some (.slice A0_7 l0_7.length c0_7) ∧ w'.cell? ⟨gb361, 0, none⟩ = some (.slice A1_0 l1_0.length c1_0) ∧ w'.cell? ⟨gb361, 1, none⟩ = some (.slice A1_1 l1_1.length c1_1) ∧ w'.cell? ⟨gb361, 2, none⟩ = some (.int .u8 a1_2) ∧ w'.cell? ⟨gb361, 3, none⟩ = some (.bool a1_3) ∧ w'.cell? ⟨gb361, 4, none⟩ = some (.int .i64 a1_4) ∧ w'.cell? ⟨gb361, 5, none⟩ = some (.int .i64 a1_5) ∧ w'.cell? ⟨gb361, 6, none⟩ = some (.int .i64 a1_6) ∧ w'.cell? ⟨gb361, 7, none⟩ = some (.slice A1_7 l1_7.length c1_7)) (ds := []) #[false, false, false, false, false, false, false, false, false, false, false, false, false, false, false, false, false, false, false, false] (by kernel_rfl) rfl rfl ⟨(blk_cell BK360.out 0).trans rfl, (blk_cell BK360.out 1).trans rfl, (blk_cell BK360.out 2).trans rfl, (blk_cell BK360.out 3).trans rfl, (blk_cell BK360.out 4).trans rfl, (blk_cell BK360.out 5).trans rfl, (blk_cell BK360.out 6).trans rfl, (blk_cell BK360.out 7).trans rfl, (blk_cell BK361.out 0).trans rfl, (blk_cell BK361.out 1).trans rfl, (blk_cell BK361.out 2).trans rfl, (blk_cell BK361.out 3).trans rfl, (blk_cell BK361.out 4).trans rfl, (blk_cell BK361.out 5).trans rfl, (blk_cell BK361.out 6).trans rfl, (blk_cell BK361.out 7).trans rfl⟩ (fun hHeld => ?_); refine with_tabW method_Same.tab1 method_Same.bits1 (fun HT_ HW_ => ?_)
  generalize w22.drew = w25 at BK360 BK361 HB hHeld ⊢
  refine sq_p 0 5 HT_ ?_
  refine sq_p 2 7 HT_ ?_
  refine sq_t 1 6 HT_ HW_ hHeld ?_
  refine sq_t 3 8 HT_ HW_ hHeld ?_
  refine one_ (i := 4) (N := some 9) #[true, true, true, true, true, false, false, false, false, false, false, false, false, false, false, false, false, false, false, false] rfl rfl (one_of HT_.out (by kernel_rfl)) (by decide) (fun K hK => ?_); refine goes_ Tryd.func84 (by kernel_rfl) rfl #[.slice A0_0 l0_0.length c0_0, .slice A1_0 l1_0.length c1_0] (by rfl) rfl rfl (au2) ?_; with_reducible refine (slices_Equal_uint8_uint8.calls k _ _ l0_0 _ _ l1_0 false _ ?side1 ?side2 ?side3 ?side4 A3.out).mono ?_
  (case side1 => exact au12)
  (case side2 => exact HC0_0.out)
  (case side3 => exact au28)
  (case side4 => exact HC1_0.out)
  rintro e w' ⟨rfl, ⟨nd, rfl⟩⟩; refine ⟨_, rfl, ?_⟩; refine hK.out _ _ ⟨(blk_cell BK360.out 0).trans rfl, (blk_cell BK360.out 1).trans rfl, (blk_cell BK360.out 2).trans rfl, (blk_cell BK360.out 3).trans rfl, (blk_cell BK360.out 4).trans rfl, (blk_cell BK360.out 5).trans rfl, (blk_cell BK360.out 6).trans rfl, (blk_cell BK360.out 7).trans rfl, (blk_cell BK361.out 0).trans rfl, (blk_cell BK361.out 1).trans rfl, (blk_cell BK361.out 2).trans rfl, (blk_cell BK361.out 3).trans rfl, (blk_cell BK361.out 4).trans rfl, (blk_cell BK361.out 5).trans rfl, (blk_cell BK361.out 6).trans rfl, (blk_cell BK361.out 7).trans rfl⟩ (fun hHeld => ?_); clear hK K; refine norm_ (a' := ?_) ?_ ?_; rotate_left
  · show Act.put _ (some 9) _ = _; simp only [Act.put, List.setIfInBounds_toArray, List.set_cons_zero, List.set_cons_succ, i64_w, i32_w]; rfl
  refine sq_p 5 10 HT_ ?_
  refine sq_u 6 11 HT_ ?_
  refine sq_u 7 12 HT_ ?_
  refine sq_u 8 13 HT_ ?_
  refine sq_u 9 14 HT_ ?_
  refine sq_u 10 15 HT_ ?_
  refine sq_p 11 16 HT_ ?_
  refine sq_p 12 17 HT_ ?_
  refine sq_u 13 18 HT_ ?_
  refine sq_u 14 19 HT_ ?_
  refine sq_u 15 20 HT_ ?_
  refine sq_u 16 21 HT_ ?_
  refine sq_u 17 22 HT_ ?_
  refine sq_p 18 23 HT_ ?_
  refine sq_p 19 4 HT_ ?_
  refine done_ (done_of HT_.out (by kernel_rfl)) ?_
  try go_wp2
  go_ret; exact ⟨au7, au23⟩

 subst c4
 rw [if_pos rfl] at H; obtain ⟨t363, A5, H⟩ := sq_bind H
 by_cases c6 : t363 = true
 rotate_left
 ·
  replace c6 := Bool.eq_false_iff.mpr c6; subst c6
  rw [sq_f] at H; obtain rfl := Option.some.inj H
  go_enter Tryd.func50, Tryd.ntmps50
  try go_wp2_with (first | ((with_reducible refine gate_dst (N := 2) rfl ?_); refine sq_box (N := 2) (cs := #[.slice A0_0 l0_0.length c0_0, .slice A0_1 l0_1.length c0_1, .int .u8 a0_2, .bool a0_3, .int .i64 a0_4, .int .i64 a0_5, .int .i64 a0_6, .slice A0_7 l0_7.length c0_7]) (t := 47) ?_; intro gb360 hg w16 hbox hb; have n_ := sq_n4 (below_step (au1) hb) hbox ((au25 : w.heap.size ≤ gb360)) ((au25 : w.heap.size ≤ gb360)); clear HB; obtain ⟨HB, BK360, GW360, GE360⟩ := n_; clear hb hbox hg) | ((with_reducible refine gate_dst (N := 3) rfl ?_); refine sq_box (N := 3) (cs := #[.slice A1_0 l1_0.length c1_0, .slice A1_1 l1_1.length c1_1, .int .u8 a1_2, .bool a1_3, .int .i64 a1_4, .int .i64 a1_5, .int .i64 a1_6, .slice A1_7 l1_7.length c1_7]) (t := 47) ?_; intro gb361 hg w17 hbox hb; have n_ := sq_n7 (blk_below (au65) hb) (below_step (au49) hb) hbox ((by rw [hg]; exact (below_size (au49)) : w.heap.size ≤ gb361)) ((by rw [hg]; exact (below_size (au49)) : w.heap.size ≤ gb361)) ((au139 : gb360 ≠ gb361)) ((au140 : gb361 ≠ gb360)); clear BK360 HB; obtain ⟨BK360, HB, BK361, GW361, GE361, NB360_361, NB361_360⟩ := n_; clear hb hbox hg))
  (try (rw [drewN_self w17]; generalize hq_ : World.drewN w17 _ = w17; have n0_ : Aside0 (w17.heap[gb360]? = some (.cells #[.slice A0_0 l0_0.length c0_0, .slice A0_1 l0_1.length c0_1, .int .u8 a0_2, .bool a0_3, .int .i64 a0_4, .int .i64 a0_5, .int .i64 a0_6, .slice A0_7 l0_7.length c0_7] 47 (0, 0))) := ⟨by rw [← hq_]; exact (au65)⟩; have n1_ : Aside0 (w17.heap[gb361]? = some (.cells #[.slice A1_0 l1_0.length c1_0, .slice A1_1 l1_1.length c1_1, .int .u8 a1_2, .bool a1_3, .int .i64 a1_4, .int .i64 a1_5, .int .i64 a1_6, .slice A1_7 l1_7.length c1_7] 47 (0, 0))) := ⟨by rw [← hq_]; exact (au152)⟩; have n2_ : Aside0 (Below w.heap.size w w17) := ⟨by rw [← hq_]; exact (au23)⟩; clear BK360 BK361 HB hq_; have BK360 := n0_; have BK361 := n1_; have HB := n2_; clear n0_ n1_ n2_)); (try obtain ⟨hcu18_0, hcu18_1, hcu18_2, hcu18_3, hcu18_4, hcu18_5, hcu18_6, hcu18_7, hfu18_0, hfu18_1, hfu18_2, hfu18_3, hfu18_4, hfu18_5, hfu18_6, hfu18_7⟩ := blk_all8 BK360.out); (try obtain ⟨hcu19_0, hcu19_1, hcu19_2, hcu19_3, hcu19_4, hcu19_5, hcu19_6, hcu19_7, hfu19_0, hfu19_1, hfu19_2, hfu19_3, hfu19_4, hfu19_5, hfu19_6, hfu19_7⟩ := blk_all8 BK361.out); have n_ := sq_n3 (blk_drew BK360.out) (blk_drew BK361.out) (below_drew1 HB.out); clear BK360 BK361 HB; obtain ⟨BK360, BK361, HB⟩ := n_; refine start_ (n := 20) (S := fun w' => w'.cell? ⟨gb360, 0, none⟩ = some (.slice A0_0 l0_0.length c0_0) ∧ w'.cell? ⟨gb360, 1, none⟩ = some (.slice A0_1 l0_1.length c0_1) ∧ w'.cell? ⟨gb360, 2, none⟩ = some (.int .u8 a0_2) ∧ w'.cell? ⟨gb360, 3, none⟩ = some (.bool a0_3) ∧ w'.cell? ⟨gb360, 4, none⟩ = some (.int .i64 a0_4) ∧ w'.cell? ⟨gb360, 5, none⟩ = some (.int .i64 a0_5) ∧ w'.cell? ⟨gb360, 6, none⟩ = some (.int .i64 a0_6) ∧ w'.cell? ⟨gb360, 7, none⟩ = some (.slice A0_7 l0_7.length c0_7) ∧ w'.cell? ⟨gb361, 0, none⟩ = some (.slice A1_0 l1_0.length c1_0) ∧ w'.cell? ⟨gb361, 1, none⟩ = some (.slice A1_1 l1_1.length c1_1) ∧ w'.cell? ⟨gb361, 2, none⟩ = some (.int .u8 a1_2) ∧ w'.cell? ⟨gb361, 3, none⟩ = some (.bool a1_3) ∧ w'.cell? ⟨gb361, 4, none⟩ = some (.int .i64 a1_4) ∧ w'.cell? ⟨gb361, 5, none⟩ = some (.int .i64 a1_5) ∧ w'.cell? ⟨gb361, 6, none⟩ = some (.int .i64 a1_6) ∧ w'.cell? ⟨gb361, 7, none⟩ = some (.slice A1_7 l1_7.length c1_7)) (ds := []) #[false, false, false, false, false, false, false, false, false, false, false, false, false, false, false, false, false, false, false, false] (by kernel_rfl) rfl rfl ⟨(blk_cell BK360.out 0).trans rfl, (blk_cell BK360.out 1).trans rfl, (blk_cell BK360.out 2).trans rfl, (blk_cell BK360.out 3).trans rfl, (blk_cell BK360.out 4).trans rfl, (blk_cell BK360.out 5).trans rfl, (blk_cell BK360.out 6).trans rfl, (blk_cell BK360.out 7).trans rfl, (blk_cell BK361.out 0).trans rfl, (blk_cell BK361.out 1).trans rfl, (blk_cell BK361.out 2).trans rfl, (blk_cell BK361.out 3).trans rfl, (blk_cell BK361.out 4).trans rfl, (blk_cell BK361.out 5).trans rfl, (blk_cell BK361.out 6).trans rfl, (blk_cell BK361.out 7).trans rfl⟩ (fun hHeld => ?_); refine with_tabW method_Same.tab1 method_Same.bits1 (fun HT_ HW_ => ?_)
  generalize w17.drew = w20 at BK360 BK361 HB hHeld ⊢
  refine sq_p 0 5 HT_ ?_
  refine sq_p 2 7 HT_ ?_
  refine sq_t 1 6 HT_ HW_ hHeld ?_
  refine sq_t 3 8 HT_ HW_ hHeld ?_
  refine one_ (i := 4) (N := some 9) #[true, true, true, true, true, false, false, false, false, false, false, false, false, false, false, false, false, false, false, false] rfl rfl (one_of HT_.out (by kernel_rfl)) (by decide) (fun K hK => ?_); refine goes_ Tryd.func84 (by kernel_rfl) rfl #[.slice A0_0 l0_0.length c0_0, .slice A1_0 l1_0.length c1_0] (by rfl) rfl rfl (au2) ?_; with_reducible refine (slices_Equal_uint8_uint8.calls k _ _ l0_0 _ _ l1_0 true _ ?side1 ?side2 ?side3 ?side4 A3.out).mono ?_
  (case side1 => exact au12)
  (case side2 => exact HC0_0.out)
  (case side3 => exact au28)
  (case side4 => exact HC1_0.out)
  rintro e w' ⟨rfl, ⟨nd, rfl⟩⟩; refine ⟨_, rfl, ?_⟩; refine hK.out _ _ ⟨(blk_cell BK360.out 0).trans rfl, (blk_cell BK360.out 1).trans rfl, (blk_cell BK360.out 2).trans rfl, (blk_cell BK360.out 3).trans rfl, (blk_cell BK360.out 4).trans rfl, (blk_cell BK360.out 5).trans rfl, (blk_cell BK360.out 6).trans rfl, (blk_cell BK360.out 7).trans rfl, (blk_cell BK361.out 0).trans rfl, (blk_cell BK361.out 1).trans rfl, (blk_cell BK361.out 2).trans rfl, (blk_cell BK361.out 3).trans rfl, (blk_cell BK361.out 4).trans rfl, (blk_cell BK361.out 5).trans rfl, (blk_cell BK361.out 6).trans rfl, (blk_cell BK361.out 7).trans rfl⟩ (fun hHeld => ?_); clear hK K; refine norm_ (a' := ?_) ?_ ?_; rotate_left
  · show Act.put _ (some 9) _ = _; simp only [Act.put, List.setIfInBounds_toArray, List.set_cons_zero, List.set_cons_succ, i64_w, i32_w]; rfl
  refine sq_p 5 10 HT_ ?_
  refine sq_p 6 11 HT_ ?_
  refine sq_p 8 13 HT_ ?_
  refine sq_t 7 12 HT_ HW_ hHeld ?_
  refine sq_t 9 14 HT_ HW_ hHeld ?_
  refine one_ (i := 10) (N := some 15) #[true, true, true, true, true, true, true, true, true, true, true, false, false, false, false, false, false, false, false, false] rfl rfl (one_of HT_.out (by kernel_rfl)) (by decide) (fun K hK => ?_); refine goes_ Tryd.func84 (by kernel_rfl) rfl #[.slice A0_1 l0_1.length c0_1, .slice A1_1 l1_1.length c1_1] (by rfl) rfl rfl (au2) ?_; with_reducible refine (slices_Equal_uint8_uint8.calls k _ _ l0_1 _ _ l1_1 false _ ?side1 ?side2 ?side3 ?side4 A5.out).mono ?_
  (case side1 => exact au168)
  (case side2 => exact HC0_1.out)
  (case side3 => repeat (first | exact (Kd.C_below HR1_1.out (au23)) | (with_reducible refine Kd.C_alloc ?_ _) | (with_reducible refine Kd.C_drewN ?_ _) | (with_reducible refine Kd.C_drew ?_)))
  (case side4 => exact HC1_1.out)
  rintro e w' ⟨rfl, ⟨nd, rfl⟩⟩; refine ⟨_, rfl, ?_⟩; refine hK.out _ _ ⟨(blk_cell BK360.out 0).trans rfl, (blk_cell BK360.out 1).trans rfl, (blk_cell BK360.out 2).trans rfl, (blk_cell BK360.out 3).trans rfl, (blk_cell BK360.out 4).trans rfl, (blk_cell BK360.out 5).trans rfl, (blk_cell BK360.out 6).trans rfl, (blk_cell BK360.out 7).trans rfl, (blk_cell BK361.out 0).trans rfl, (blk_cell BK361.out 1).trans rfl, (blk_cell BK361.out 2).trans rfl, (blk_cell BK361.out 3).trans rfl, (blk_cell BK361.out 4).trans rfl, (blk_cell BK361.out 5).trans rfl, (blk_cell BK361.out 6).trans rfl, (blk_cell BK361.out 7).trans rfl⟩ (fun hHeld => ?_); clear hK K; refine norm_ (a' := ?_) ?_ ?_; rotate_left
  · show Act.put _ (some 15) _ = _; simp only [Act.put, List.setIfInBounds_toArray, List.set_cons_zero, List.set_cons_succ, i64_w, i32_w]; rfl
  refine sq_p 11 16 HT_ ?_
  refine sq_p 12 17 HT_ ?_
  refine sq_u 13 18 HT_ ?_
  refine sq_u 14 19 HT_ ?_
  refine sq_u 15 20 HT_ ?_
  refine sq_u 16 21 HT_ ?_
  refine sq_u 17 22 HT_ ?_
  refine sq_p 18 23 HT_ ?_
  refine sq_p 19 4 HT_ ?_
  refine done_ (done_of HT_.out (by kernel_rfl)) ?_
  try go_wp2
  go_ret; exact ⟨au7, au23⟩
 subst c6
 rw [if_pos rfl] at H; obtain ⟨⟨t364, t365, t366, t367, t368⟩, A7, H⟩ := sq_bind H; dsimp only at H; obtain ⟨⟨t369, t370, t371, t372, t373⟩, A8, H⟩ := sq_bind H; dsimp only at H; obtain rfl := Option.some.inj H
 go_enter Tryd.func50, Tryd.ntmps50
 try go_wp2_with (first | ((with_reducible refine gate_dst (N := 2) rfl ?_); refine sq_box (N := 2) (cs := #[.slice A0_0 l0_0.length c0_0, .slice A0_1 l0_1.length c0_1, .int .u8 a0_2, .bool a0_3, .int .i64 a0_4, .int .i64 a0_5, .int .i64 a0_6, .slice A0_7 l0_7.length c0_7]) (t := 47) ?_; intro gb360 hg w9 hbox hb; have n_ := sq_n4 (below_step (au1) hb) hbox ((au25 : w.heap.size ≤ gb360)) ((au25 : w.heap.size ≤ gb360)); clear HB; obtain ⟨HB, BK360, GW360, GE360⟩ := n_; clear hb hbox hg) | ((with_reducible refine gate_dst (N := 3) rfl ?_); refine sq_box (N := 3) (cs := #[.slice A1_0 l1_0.length c1_0, .slice A1_1 l1_1.length c1_1, .int .u8 a1_2, .bool a1_3, .int .i64 a1_4, .int .i64 a1_5, .int .i64 a1_6, .slice A1_7 l1_7.length c1_7]) (t := 47) ?_; intro gb361 hg w10 hbox hb; have n_ := sq_n7 (blk_below (au65) hb) (below_step (au49) hb) hbox ((by rw [hg]; exact (below_size (au49)) : w.heap.size ≤ gb361)) ((by rw [hg]; exact (below_size (au49)) : w.heap.size ≤ gb361)) ((au139 : gb360 ≠ gb361)) ((au140 : gb361 ≠ gb360)); clear BK360 HB; obtain ⟨BK360, HB, BK361, GW361, GE361, NB360_361, NB361_360⟩ := n_; clear hb hbox hg))
 (try (rw [drewN_self w10]; generalize hq_ : World.drewN w10 _ = w10; have n0_ : Aside0 (w10.heap[gb360]? = some (.cells #[.slice A0_0 l0_0.length c0_0, .slice A0_1 l0_1.length c0_1, .int .u8 a0_2, .bool a0_3, .int .i64 a0_4, .int .i64 a0_5, .int .i64 a0_6, .slice A0_7 l0_7.length c0_7] 47 (0, 0))) := ⟨by rw [← hq_]; exact (au65)⟩; have n1_ : Aside0 (w10.heap[gb361]? = some (.cells #[.slice A1_0 l1_0.length c1_0, .slice A1_1 l1_1.length c1_1, .int .u8 a1_2, .bool a1_3, .int .i64 a1_4, .int .i64 a1_5, .int .i64 a1_6, .slice A1_7 l1_7.length c1_7] 47 (0, 0))) := ⟨by rw [← hq_]; exact (au152)⟩; have n2_ : Aside0 (Below w.heap.size w w10) := ⟨by rw [← hq_]; exact (au23)⟩; clear BK360 BK361 HB hq_; have BK360 := n0_; have BK361 := n1_; have HB := n2_; clear n0_ n1_ n2_)); (try obtain ⟨hcu11_0, hcu11_1, hcu11_2, hcu11_3, hcu11_4, hcu11_5, hcu11_6, hcu11_7, hfu11_0, hfu11_1, hfu11_2, hfu11_3, hfu11_4, hfu11_5, hfu11_6, hfu11_7⟩ := blk_all8 BK360.out); (try obtain ⟨hcu12_0, hcu12_1, hcu12_2, hcu12_3, hcu12_4, hcu12_5, hcu12_6, hcu12_7, hfu12_0, hfu12_1, hfu12_2, hfu12_3, hfu12_4, hfu12_5, hfu12_6, hfu12_7⟩ := blk_all8 BK361.out); have n_ := sq_n3 (blk_drew BK360.out) (blk_drew BK361.out) (below_drew1 HB.out); clear BK360 BK361 HB; obtain ⟨BK360, BK361, HB⟩ := n_; refine start_ (n := 20) (S := fun w' => w'.cell? ⟨gb360, 0, none⟩ = some (.slice A0_0 l0_0.length c0_0) ∧ w'.cell? ⟨gb360, 1, none⟩ = some (.slice A0_1 l0_1.length c0_1) ∧ w'.cell? ⟨gb360, 2, none⟩ = some (.int .u8 a0_2) ∧ w'.cell? ⟨gb360, 3, none⟩ = some (.bool a0_3) ∧ w'.cell? ⟨gb360, 4, none⟩ = some (.int .i64 a0_4) ∧ w'.cell? ⟨gb360, 5, none⟩ = some (.int .i64 a0_5) ∧ w'.cell? ⟨gb360, 6, none⟩ = some (.int .i64 a0_6) ∧ w'.cell? ⟨gb360, 7, none⟩ = some (.slice A0_7 l0_7.length c0_7) ∧ w'.cell? ⟨gb361, 0, none⟩ = some (.slice A1_0 l1_0.length c1_0) ∧ w'.cell? ⟨gb361, 1, none⟩ = some (.slice A1_1 l1_1.length c1_1) ∧ w'.cell? ⟨gb361, 2, none⟩ = some (.int .u8 a1_2) ∧ w'.cell? ⟨gb361, 3, none⟩ = some (.bool a1_3) ∧ w'.cell? ⟨gb361, 4, none⟩ = some (.int .i64 a1_4) ∧ w'.cell? ⟨gb361, 5, none⟩ = some (.int .i64 a1_5) ∧ w'.cell? ⟨gb361, 6, none⟩ = some (.int .i64 a1_6) ∧ w'.cell? ⟨gb361, 7, none⟩ = some (.slice A1_7 l1_7.length c1_7)) (ds := []) #[false, false, false, false, false, false, false, false, false, false, false, false, false, false, false, false, false, false, false, false] (by kernel_rfl) rfl rfl ⟨(blk_cell BK360.out 0).trans rfl, (blk_cell BK360.out 1).trans rfl, (blk_cell BK360.out 2).trans rfl, (blk_cell BK360.out 3).trans rfl, (blk_cell BK360.out 4).trans rfl, (blk_cell BK360.out 5).trans rfl, (blk_cell BK360.out 6).trans rfl, (blk_cell BK360.out 7).trans rfl, (blk_cell BK361.out 0).trans rfl, (blk_cell BK361.out 1).trans rfl, (blk_cell BK361.out 2).trans rfl, (blk_cell BK361.out 3).trans rfl, (blk_cell BK361.out 4).trans rfl, (blk_cell BK361.out 5).trans rfl, (blk_cell BK361.out 6).trans rfl, (blk_cell BK361.out 7).trans rfl⟩ (fun hHeld => ?_); refine with_tabW method_Same.tab1 method_Same.bits1 (fun HT_ HW_ => ?_)
 generalize w10.drew = w13 at BK360 BK361 HB hHeld ⊢
 refine sq_p 0 5 HT_ ?_
 refine sq_p 2 7 HT_ ?_
 refine sq_t 1 6 HT_ HW_ hHeld ?_
 refine sq_t 3 8 HT_ HW_ hHeld ?_
 refine one_ (i := 4) (N := some 9) #[true, true, true, true, true, false, false, false, false, false, false, false, false, false, false, false, false, false, false, false] rfl rfl (one_of HT_.out (by kernel_rfl)) (by decide) (fun K hK => ?_); refine goes_ Tryd.func84 (by kernel_rfl) rfl #[.slice A0_0 l0_0.length c0_0, .slice A1_0 l1_0.length c1_0] (by rfl) rfl rfl (au2) ?_; with_reducible refine (slices_Equal_uint8_uint8.calls k _ _ l0_0 _ _ l1_0 true _ ?side1 ?side2 ?side3 ?side4 A3.out).mono ?_
 (case side1 => exact au12)
 (case side2 => exact HC0_0.out)
 (case side3 => exact au28)
 (case side4 => exact HC1_0.out)
 rintro e w' ⟨rfl, ⟨nd, rfl⟩⟩; refine ⟨_, rfl, ?_⟩; refine hK.out _ _ ⟨(blk_cell BK360.out 0).trans rfl, (blk_cell BK360.out 1).trans rfl, (blk_cell BK360.out 2).trans rfl, (blk_cell BK360.out 3).trans rfl, (blk_cell BK360.out 4).trans rfl, (blk_cell BK360.out 5).trans rfl, (blk_cell BK360.out 6).trans rfl, (blk_cell BK360.out 7).trans rfl, (blk_cell BK361.out 0).trans rfl, (blk_cell BK361.out 1).trans rfl, (blk_cell BK361.out 2).trans rfl, (blk_cell BK361.out 3).trans rfl, (blk_cell BK361.out 4).trans rfl, (blk_cell BK361.out 5).trans rfl, (blk_cell BK361.out 6).trans rfl, (blk_cell BK361.out 7).trans rfl⟩ (fun hHeld => ?_); clear hK K; refine norm_ (a' := ?_) ?_ ?_; rotate_left
 · show Act.put _ (some 9) _ = _; simp only [Act.put, List.setIfInBounds_toArray, List.set_cons_zero, List.set_cons_succ, i64_w, i32_w]; rfl
 refine sq_p 5 10 HT_ ?_
 refine sq_p 6 11 HT_ ?_
 refine sq_p 8 13 HT_ ?_
 refine sq_t 7 12 HT_ HW_ hHeld ?_
 refine sq_t 9 14 HT_ HW_ hHeld ?_
 refine one_ (i := 10) (N := some 15) #[true, true, true, true, true, true, true, true, true, true, true, false, false, false, false, false, false, false, false, false] rfl rfl (one_of HT_.out (by kernel_rfl)) (by decide) (fun K hK => ?_); refine goes_ Tryd.func84 (by kernel_rfl) rfl #[.slice A0_1 l0_1.length c0_1, .slice A1_1 l1_1.length c1_1] (by rfl) rfl rfl (au2) ?_; with_reducible refine (slices_Equal_uint8_uint8.calls k _ _ l0_1 _ _ l1_1 true _ ?side1 ?side2 ?side3 ?side4 A5.out).mono ?_
 (case side1 => exact au168)
 (case side2 => exact HC0_1.out)
 (case side3 => repeat (first | exact (Kd.C_below HR1_1.out (au23)) | (with_reducible refine Kd.C_alloc ?_ _) | (with_reducible refine Kd.C_drewN ?_ _) | (with_reducible refine Kd.C_drew ?_)))
 (case side4 => exact HC1_1.out)
 rintro e w' ⟨rfl, ⟨nd, rfl⟩⟩; refine ⟨_, rfl, ?_⟩; refine hK.out _ _ ⟨(blk_cell BK360.out 0).trans rfl, (blk_cell BK360.out 1).trans rfl, (blk_cell BK360.out 2).trans rfl, (blk_cell BK360.out 3).trans rfl, (blk_cell BK360.out 4).trans rfl, (blk_cell BK360.out 5).trans rfl, (blk_cell BK360.out 6).trans rfl, (blk_cell BK360.out 7).trans rfl, (blk_cell BK361.out 0).trans rfl, (blk_cell BK361.out 1).trans rfl, (blk_cell BK361.out 2).trans rfl, (blk_cell BK361.out 3).trans rfl, (blk_cell BK361.out 4).trans rfl, (blk_cell BK361.out 5).trans rfl, (blk_cell BK361.out 6).trans rfl, (blk_cell BK361.out 7).trans rfl⟩ (fun hHeld => ?_); clear hK K; refine norm_ (a' := ?_) ?_ ?_; rotate_left
 · show Act.put _ (some 15) _ = _; simp only [Act.put, List.setIfInBounds_toArray, List.set_cons_zero, List.set_cons_succ, i64_w, i32_w]; rfl
 refine sq_p 11 16 HT_ ?_
 refine sq_p 12 17 HT_ ?_
 refine sq_t 13 18 HT_ HW_ hHeld ?_
 refine sq_t 15 20 HT_ HW_ hHeld ?_
 refine one_ (i := 14) (N := some 19) #[true, true, true, true, true, true, true, true, true, true, true, true, true, true, true, true, false, false, false, false] rfl rfl (one_of HT_.out (by kernel_rfl)) (by decide) (fun K hK => ?_); refine goes_ Tryd.func85 (by kernel_rfl) rfl #[.agg #[.slice A0_0 l0_0.length c0_0, .slice A0_1 l0_1.length c0_1, .int .u8 a0_2, .bool a0_3, .int .i64 a0_4, .int .i64 a0_5, .int .i64 a0_6, .slice A0_7 l0_7.length c0_7]] (by rfl) rfl rfl (au2) ?_; with_reducible refine (method_of.calls _ _ l0_0 _ _ l0_1 a0_2 a0_3 a0_4 a0_5 a0_6 _ _ l0_7 t364 t365 t366 t367 t368 _ ?side1 ?side2 ?side3 ?side4 ?side5 ?side6 A7.out).mono ?_
 (case side1 => repeat (first | exact (Kd.C_below HR0_0.out (au23)) | (with_reducible refine Kd.C_alloc ?_ _) | (with_reducible refine Kd.C_drewN ?_ _) | (with_reducible refine Kd.C_drew ?_)))
 (case side2 => exact HC0_0.out)
 (case side3 => exact au168)
 (case side4 => exact HC0_1.out)
 (case side5 => repeat (first | exact (Kd.C_below HR0_7.out (au23)) | (with_reducible refine Kd.C_alloc ?_ _) | (with_reducible refine Kd.C_drewN ?_ _) | (with_reducible refine Kd.C_drew ?_)))
 (case side6 => exact HC0_7.out)
 rintro e w14 ⟨rfl, hb⟩; refine ⟨_, rfl, ?_⟩; have n_ := sq_n3 (blk_below (au65) hb) (blk_below (au152) hb) (below_step (au23) hb); clear BK360 BK361 HB; obtain ⟨BK360, BK361, HB⟩ := n_; (try clear hb); refine hK.out _ _ ⟨(blk_cell BK360.out 0).trans rfl, (blk_cell BK360.out 1).trans rfl, (blk_cell BK360.out 2).trans rfl, (blk_cell BK360.out 3).trans rfl, (blk_cell BK360.out 4).trans rfl, (blk_cell BK360.out 5).trans rfl, (blk_cell BK360.out 6).trans rfl, (blk_cell BK360.out 7).trans rfl, (blk_cell BK361.out 0).trans rfl, (blk_cell BK361.out 1).trans rfl, (blk_cell BK361.out 2).trans rfl, (blk_cell BK361.out 3).trans rfl, (blk_cell BK361.out 4).trans rfl, (blk_cell BK361.out 5).trans rfl, (blk_cell BK361.out 6).trans rfl, (blk_cell BK361.out 7).trans rfl⟩ (fun hHeld => ?_); clear hK K; refine norm_ (a' := ?_) ?_ ?_; rotate_left
 · show Act.put _ (some 19) _ = _; simp only [Act.put, List.setIfInBounds_toArray, List.set_cons_zero, List.set_cons_succ, i64_w, i32_w]; rfl
 refine one_ (i := 16) (N := some 21) #[true, true, true, true, true, true, true, true, true, true, true, true, true, true, true, true, true, false, false, false] rfl rfl (one_of HT_.out (by kernel_rfl)) (by decide) (fun K hK => ?_); refine goes_ Tryd.func85 (by kernel_rfl) rfl #[.agg #[.slice A1_0 l1_0.length c1_0, .slice A1_1 l1_1.length c1_1, .int .u8 a1_2, .bool a1_3, .int .i64 a1_4, .int .i64 a1_5, .int .i64 a1_6, .slice A1_7 l1_7.length c1_7]] (by rfl) rfl rfl (au2) ?_; with_reducible refine (method_of.calls _ _ l1_0 _ _ l1_1 a1_2 a1_3 a1_4 a1_5 a1_6 _ _ l1_7 t369 t370 t371 t372 t373 _ ?side1 ?side2 ?side3 ?side4 ?side5 ?side6 A8.out).mono ?_
 (case side1 => exact au28)
 (case side2 => exact HC1_0.out)
 (case side3 => exact au169)
 (case side4 => exact HC1_1.out)
 (case side5 => exact au138)
 (case side6 => exact HC1_7.out)
 rintro e w15 ⟨rfl, hb⟩; refine ⟨_, rfl, ?_⟩; have n_ := sq_n3 (blk_below (au65) hb) (blk_below (au152) hb) (below_step (au23) hb); clear BK360 BK361 HB; obtain ⟨BK360, BK361, HB⟩ := n_; (try clear hb); refine hK.out _ _ ⟨(blk_cell BK360.out 0).trans rfl, (blk_cell BK360.out 1).trans rfl, (blk_cell BK360.out 2).trans rfl, (blk_cell BK360.out 3).trans rfl, (blk_cell BK360.out 4).trans rfl, (blk_cell BK360.out 5).trans rfl, (blk_cell BK360.out 6).trans rfl, (blk_cell BK360.out 7).trans rfl, (blk_cell BK361.out 0).trans rfl, (blk_cell BK361.out 1).trans rfl, (blk_cell BK361.out 2).trans rfl, (blk_cell BK361.out 3).trans rfl, (blk_cell BK361.out 4).trans rfl, (blk_cell BK361.out 5).trans rfl, (blk_cell BK361.out 6).trans rfl, (blk_cell BK361.out 7).trans rfl⟩ (fun hHeld => ?_); clear hK K; refine norm_ (a' := ?_) ?_ ?_; rotate_left
 · show Act.put _ (some 21) _ = _; simp only [Act.put, List.setIfInBounds_toArray, List.set_cons_zero, List.set_cons_succ, i64_w, i32_w]; rfl
 refine sq_p 17 22 HT_ ?_
 refine sq_p 18 23 HT_ ?_
 refine sq_p 19 4 HT_ ?_
 refine done_ (done_of HT_.out (by kernel_rfl)) ?_
 try go_wp2
 go_ret; exact ⟨au7, au23⟩
end Go.Proofs.YthmjblmdbcmjcaaDoor.B
