/- CallsDeep: a method that calls none is 1 deep, each other one deeper than the deepest that it calls; code that calls none changes nothing of it. -/
import Derived.Test.YtkmnachdibhdhaaP1
import Derived.Test.YtkmnachdibhdhaaP2
import Derived.Test.YtkmnachdibhdhaaP3
import Derived.Test.YtkmnachdibhdhaaP6
import Derived.Test.YtkmnachdibhdhaaLCalls4
namespace Go.Proofs.Ytkmnachdibhdhaa.Pure
open Go.RowKit Go.Proofs.Ytkmnachdibhdhaa.P Go.Proofs.Ytkmnachdibhdhaa.M Go.Proofs.YtkmnachdibhdhaaW.PrintWords Go.Proofs.YtkmnachdibhdhaaW.PrintLast Go.Proofs.YtkmnachdibhdhaaW.PrintMore

/-- A method of the same calls, and of nothing else. -/
def bm (l : List Int) : S52 := ⟨[], [], 0, false, 0, 0, 0, l.map fun x => ⟨30, x, 0⟩⟩
theorem nm_bm (l : List Int) : cl_names (bm l).f7 = l := by
  unfold bm cl_names
  induction l with
  | nil => rfl
  | cons x t ih =>
    simp only [List.map_cons, List.filter_cons_of_pos (p := fun i : S70 => i.f0 == 30) (show ((⟨30, x, 0⟩ : S70).f0 == 30) = true from rfl)]
    rw [ih]
def bare (ms : List S52) : List S52 := (List.range ms.length).map fun (j : Nat) => bm (sset (nm ms j))
theorem bare_len (ms : List S52) : (bare ms).length = ms.length := by simp [bare]
theorem nm_bare (ms : List S52) (j : Nat) (h : j < ms.length) : nm (bare ms) j = sset (nm ms j) := by
  unfold nm
  have : rd_T52 (bare ms) (j : Int) = bm (sset (nm ms j)) := by simp [rd_T52, bare, h]
  rw [this]
  exact nm_bm _
theorem ws_bare (ms : List S52) : ws (bare ms) = ws ms := by
  unfold ws
  rw [bare_len]
  refine List.map_congr_left fun j hj => ?_
  rw [nm_bare ms j (List.mem_range.1 hj), sset_rise (sset_sorted _)]
theorem bare_small {ms : List S52} (hs : Small ms) : Small (bare ms) := by
  refine ⟨by rw [bare_len]; exact hs.len, fun j h0 h1 => ?_⟩
  rw [bare_len] at h1
  obtain ⟨k, rfl⟩ : ∃ k : Nat, j = (k : Int) := ⟨j.toNat, by omega⟩
  have hk : k < ms.length := by omega
  have : rd_T52 (bare ms) (k : Int) = bm (sset (nm ms k)) := by simp [rd_T52, bare, hk]
  rw [this]
  have h2 := sset_len (nm ms k)
  have h3 : (nm ms k).length ≤ (rd_T52 ms k).f7.length := by unfold nm cl_names; rw [List.length_map]; exact List.length_filter_le _ _
  have h4 := hs.code k h0 (by omega)
  show (List.map _ _).length ≤ _
  rw [List.length_map]
  omega
theorem bare_ok {ms : List S52} (h : okAll ms) : okAll (bare ms) := by
  intro j hj
  rw [bare_len] at hj
  rw [nm_bare ms j hj, bare_len, cl_ok_mem]
  intro x hx
  exact cl_ok_mem.1 (h j hj) x (mem_sset.1 hx)
section
variable {l0 l1 : List S86} {ms : List S52} {a3 : Int}
theorem cd_l1 (d W : List Int) (i : Int) (hW : ∀ x ∈ W, 0 ≤ x ∧ x < (d.length : Int)) (hl : W.length ≤ 1000000) (bs : List S52) : ∀ (q p : Nat) (k : Nat) (v : Int), p + q = W.length →
    capstanlaw11_CallsDeep.l1 (k + q + 1) d i W 0 v (p : Int) l0 l1 ms a3 bs (-1) 0 false 0 0 0 ((W.take p).map fun x => ⟨30, x, 0⟩) =
    capstanlaw11_CallsDeep.l1 (k + 1) d i W 0 ((W.drop p).foldl (fun a x => max a (wrap64 (d.getD x.toNat 0 + 1))) v) (W.length : Int) l0 l1 ms a3 bs (-1) 0 false 0 0 0 (W.map fun x => ⟨30, x, 0⟩) := by
  intro q
  induction q with
  | zero =>
    intro p k v h
    obtain rfl : p = W.length := by omega
    rw [List.take_length, List.drop_length]
    rfl
  | succ q ih =>
    intro p k v h
    have hp : p < W.length := by omega
    have hx := hW _ (List.getElem_mem hp)
    have hr : rd W (p : Int) = W[p] := by simp [rd, hp]
    have hw : wrap64 ((p : Int) + 1) = ((p + 1 : Nat) : Int) := by unfold wrap64; omega
    rw [show k + (q + 1) + 1 = (k + q + 1) + 1 from rfl]
    conv => lhs; rw [capstanlaw11_CallsDeep.l1]
    rw [if_pos (by omega), if_pos (by omega), hr, if_neg (by omega), if_neg (by omega), if_pos hx.1, if_pos hx.2, if_pos (by simp; omega), hw]
    have ht : ((W.take p).map fun x => (⟨30, x, 0⟩ : S70)) ++ [⟨30, W[p], 0⟩] = (W.take (p + 1)).map fun x => ⟨30, x, 0⟩ := by rw [List.take_succ_eq_append_getElem hp, List.map_append]; rfl
    have hm : ∀ a b : Int, mx a b = max a b := fun a b => by unfold mx; rw [Int.max_def]; split <;> split <;> omega
    rw [ht, hm, ih (p + 1) k _ (by omega), List.drop_eq_getElem_cons hp]
    rfl
theorem cd_l0 (hs : Small ms) (ho : okAll ms) {d : List Int} (hdl : d.length = ms.length) (hd : ∀ j : Nat, j < ms.length → rd d j = dpV d (nm ms j) ∧ rd d j ≤ (ms.length : Int)) (hlast : ∃ k, calls_Deep.f k [] [] (bare ms) (-1) = some (d, 0)) :
    ∀ m i : Nat, i + m = ms.length → ∃ k, capstanlaw11_CallsDeep.l0 k d (i : Int) l0 l1 ms a3 ((List.range i).map fun (j : Nat) => bm (sset (nm ms j))) (-1) = some true := by
  have hlen := hs.len
  intro m
  induction m with
  | zero =>
    intro i hi
    obtain rfl : i = ms.length := by omega
    obtain ⟨k, hk⟩ := hlast
    refine ⟨k + 1000001 + 1, ?_⟩
    rw [capstanlaw11_CallsDeep.l0, if_neg (by omega)]
    change ((calls_Deep.f (k + 1000001) [] [] (bare ms) (-1)).bind fun _ => _) = _
    rw [up (f := fun k => calls_Deep.f k [] [] (bare ms) (-1)) (fun k => calls_Deep.mono _ _ _ _ k) hk (k + 1000001) (by omega), Option.bind_some]
    dsimp only
    rw [if_pos rfl, are_f d d (by omega) _ (by omega), Option.bind_some, decide_eq_true rfl]
  | succ m ih =>
    intro i hi
    have hil : i < ms.length := by omega
    obtain ⟨k, hk⟩ := ih (i + 1) (by omega)
    obtain ⟨hv, hle⟩ := hd i hil
    have hW : ∀ x ∈ sset (nm ms i), 0 ≤ x ∧ x < (d.length : Int) := fun x hx => by rw [hdl]; exact cl_ok_mem.1 (ho i hil) x (mem_sset.1 hx)
    have hWl : (sset (nm ms i)).length ≤ 1000000 := by
      have h2 := sset_len (nm ms i)
      have h3 : (nm ms i).length ≤ (rd_T52 ms i).f7.length := by unfold nm cl_names; rw [List.length_map]; exact List.length_filter_le _ _
      have h4 := hs.code i (by omega) (by omega)
      omega
    refine ⟨k + (sset (nm ms i)).length + 1 + 1, ?_⟩
    have hwf := Whom_f (l0 := l0) (l1 := l1) (a3 := a3) hs (i : Int)
    rw [if_pos ⟨by omega, by omega, ho i hil⟩] at hwf
    rw [capstanlaw11_CallsDeep.l0, if_pos (by omega), hwf, Option.bind_some]
    have h1 := cd_l1 (l0 := l0) (l1 := l1) (ms := ms) (a3 := a3) d (sset (nm ms i)) (i : Int) hW hWl ((List.range i).map fun (j : Nat) => bm (sset (nm ms j))) (sset (nm ms i)).length 0 k 1 (by omega)
    rw [List.take_zero, List.map_nil, List.drop_zero] at h1
    refine Eq.trans h1 ?_
    have hvv : (sset (nm ms i)).foldl (fun a x => max a (wrap64 (d.getD x.toNat 0 + 1))) 1 = rd d (i : Int) := by
      rw [hv]
      exact dpV_same (fun x => mem_sset) (fun _ _ => rfl)
    have hw : wrap64 ((i : Int) + 1) = ((i + 1 : Nat) : Int) := by unfold wrap64; omega
    rw [hvv, capstanlaw11_CallsDeep.l1, if_neg (by omega), if_pos rfl, if_pos (by omega), if_pos (by omega), if_pos rfl, if_neg (by omega), if_pos (by simp; omega), hw]
    have hr : ((List.range i).map fun (j : Nat) => bm (sset (nm ms j))) ++ [bm (sset (nm ms i))] = (List.range (i + 1)).map fun (j : Nat) => bm (sset (nm ms j)) := by rw [List.range_succ, List.map_append]; rfl
    exact Eq.trans (congrArg (fun z => capstanlaw11_CallsDeep.l0 k d ((i + 1 : Nat) : Int) l0 l1 ms a3 z (-1)) hr) hk
end
theorem CallsDeep : capstanlaw11_CallsDeep.Pure := by
  intro l0 l1 ms a3 _
  have main : ∃ k, ∀ k', k ≤ k' → ((capstanlaw08_Great.f k' l0 l1 ms a3).bind fun t210 => (if t210 = true then (some true) else ((calls_Deep.f k' l0 l1 ms a3).bind fun bt211 => ((calls_Check.f k' l0 l1 ms a3).bind fun t215 => (if bt211.2 = t215 then (if bt211.2 = 0 then (capstanlaw11_CallsDeep.j0 k' bt211.1 bt211.2 false l0 l1 ms a3) else (capstanlaw11_CallsDeep.j0 k' bt211.1 bt211.2 (decide ((bt211.1.length : Int) > 0)) l0 l1 ms a3)) else (none)))))) = some true := by
    have hgu : ∀ r, capstanlaw08_Great.f 60 l0 l1 ms a3 = some r → ∀ k', 60 ≤ k' → capstanlaw08_Great.f k' l0 l1 ms a3 = some r := fun r h k' hk => up (f := fun k => capstanlaw08_Great.f k l0 l1 ms a3) (fun k => capstanlaw08_Great.mono _ _ _ _ k) h k' hk
    have hou : ∀ r, calls_Order.f 41 l0 l1 ms a3 = some r → ∀ k', 60 ≤ k' → calls_Order.f k' l0 l1 ms a3 = some r := fun r h k' hk => up (f := fun k => calls_Order.f k l0 l1 ms a3) (fun k => calls_Order.mono _ _ _ _ k) h k' (by omega)
    rcases great_f (l0 := l0) (l1 := l1) (ms := ms) (a3 := a3) with h | ⟨h, hs, _, _, _⟩
    · exact ⟨60, fun k' hk => by rw [hgu _ h k' hk, Option.bind_some, if_pos rfl]⟩
    · have bad : ∀ e : Int, e ≠ 0 → calls_Order.f 41 l0 l1 ms a3 = some ([], e) → ∀ k', 60 ≤ k' → ((capstanlaw08_Great.f k' l0 l1 ms a3).bind fun t210 => (if t210 = true then (some true) else ((calls_Deep.f k' l0 l1 ms a3).bind fun bt211 => ((calls_Check.f k' l0 l1 ms a3).bind fun t215 => (if bt211.2 = t215 then (if bt211.2 = 0 then (capstanlaw11_CallsDeep.j0 k' bt211.1 bt211.2 false l0 l1 ms a3) else (capstanlaw11_CallsDeep.j0 k' bt211.1 bt211.2 (decide ((bt211.1.length : Int) > 0)) l0 l1 ms a3)) else (none)))))) = some true := by
        intro e he hO k' hk
        have h1 := hou _ hO k' hk
        have h2 : calls_Deep.f k' l0 l1 ms a3 = some ([], e) := by unfold calls_Deep.f; rw [h1, Option.bind_some]; dsimp only; rw [if_neg he]
        have h3 : calls_Check.f k' l0 l1 ms a3 = some e := by unfold calls_Check.f; rw [h1]; rfl
        obtain ⟨q, rfl⟩ : ∃ q, k' = q + 1 := ⟨k' - 1, by omega⟩
        rw [hgu _ h _ hk, Option.bind_some, if_neg (by decide), h2, Option.bind_some, h3, Option.bind_some]
        dsimp only
        rw [if_pos rfl, if_neg he, capstanlaw11_CallsDeep.j0, if_neg (by simp), if_neg he]
      rcases Order_f (l0 := l0) (l1 := l1) (a3 := a3) hs with ⟨ho, o, hO, hOrd⟩ | ⟨_, _, hO⟩ | ⟨_, hO⟩
      · obtain ⟨d, hD, hAt⟩ := Deep_f hs ho hO hOrd
        have hdl := hAt.len
        have hlen := hs.len
        have hol := hOrd.length
        rw [ws_len] at hol
        have hd : ∀ j : Nat, j < ms.length → rd d j = dpV d (nm ms j) ∧ rd d j ≤ (ms.length : Int) := by
          intro j hj
          obtain ⟨p, hp⟩ := List.mem_iff_getElem?.1 (hOrd.all (j : Int) (by omega) (by rw [ws_len]; omega))
          have hlt := (List.getElem?_eq_some_iff.1 hp).1
          refine ⟨hAt.val p _ hlt hp, ?_⟩
          have := (hAt.low p _ hlt hp).2
          show d.getD (j : Int).toNat 0 ≤ _
          omega
        have hlast : ∃ k, calls_Deep.f k [] [] (bare ms) (-1) = some (d, 0) := by
          have hbs := bare_small hs
          have hbo := bare_ok ho
          have hO2 : calls_Order.f 41 [] [] (bare ms) (-1) = some (o, 0) := by
            rw [order_eq hbs hbs.code hbo, ws_bare, ← order_eq (l0 := l0) (l1 := l1) (a3 := a3) hs hs.code ho]
            exact hO
          obtain ⟨e, hE, hEt⟩ := Deep_f hbs hbo hO2 (by rw [ws_bare]; exact hOrd)
          rw [bare_len] at hEt
          have : d = e := by
            refine deep_one (n := ms.length) (na := nm ms) (nb := nm (bare ms)) (fun z hz x => ?_) (fun i z hz x hx => ?_) (fun z h0 h1 => hOrd.all z h0 (by rw [ws_len]; exact h1)) hAt hEt
            · obtain ⟨h0, h1⟩ := hOrd.inv.range z hz
              rw [ws_len] at h1
              obtain ⟨zn, rfl⟩ : ∃ k : Nat, z = (k : Int) := ⟨z.toNat, by omega⟩
              rw [nm_bare ms zn (by omega), mem_sset]
            · obtain ⟨h0, h1⟩ := hOrd.inv.range z (List.mem_of_getElem? hz)
              exact hOrd.inv.behind i z hz x ((nm_ws h0 h1 x).1 hx)
          exact ⟨41, by rw [hE, this]⟩
        obtain ⟨k, hk⟩ := cd_l0 (l0 := l0) (l1 := l1) (a3 := a3) hs ho hdl hd hlast ms.length 0 (by omega)
        refine ⟨k + 61, fun k' hk' => ?_⟩
        have h1 := hou _ hO k' (by omega)
        have h2 : calls_Deep.f k' l0 l1 ms a3 = some (d, 0) := up (f := fun k => calls_Deep.f k l0 l1 ms a3) (fun k => calls_Deep.mono _ _ _ _ k) hD k' (by omega)
        have h3 : calls_Check.f k' l0 l1 ms a3 = some 0 := by unfold calls_Check.f; rw [h1]; rfl
        obtain ⟨q, rfl⟩ : ∃ q, k' = q + 1 := ⟨k' - 1, by omega⟩
        rw [hgu _ h _ (by omega), Option.bind_some, if_neg (by decide), h2, Option.bind_some, h3, Option.bind_some]
        dsimp only
        rw [if_pos rfl, if_pos rfl, capstanlaw11_CallsDeep.j0, if_neg (by decide), if_pos rfl, if_pos (by omega)]
        exact up (f := fun k => capstanlaw11_CallsDeep.l0 k d 0 l0 l1 ms a3 [] (-1)) (fun k => (capstanlaw11_CallsDeep.mono_l k).2.1 _ _ _ _ _ _ _ _) hk q (by omega)
      · exact ⟨60, fun k' hk => bad 110 (by decide) hO k' hk⟩
      · exact ⟨60, fun k' hk => bad 2 (by decide) hO k' hk⟩
  obtain ⟨k, hk⟩ := main
  refine ⟨k + 200, ?_⟩
  unfold capstanlaw11_CallsDeep.f
  rw [awake_f _ (by omega), Option.bind_some, if_pos rfl]
  exact hk _ (by omega)
end Go.Proofs.Ytkmnachdibhdhaa.Pure
