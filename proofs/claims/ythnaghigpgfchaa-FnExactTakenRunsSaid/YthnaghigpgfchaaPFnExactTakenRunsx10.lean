-- Printed, and told shorter by this session's program shrink.py.
-- Printed by this session's program myprint.py.
import Derived.Test.YthnaghigpgfchaaPFnExactTakenRunsx0
import Derived.Test.YthnaghigpgfchaaPFnExactTakenRunsx7
import Derived.Test.YthnaghigpgfchaaPFnExactTakenRunsx8
import Derived.Test.YthnaghigpgfchaaPFnExactTakenRunsx9
namespace Go.Proofs.Ythnaghigpgfchaa.PFnExactTakenRuns
open Go.RowKit Go.Proofs.Ythnaghigpgfchaa.Own Go.Proofs.YthnaghigpgfchaaW.PrintWords Go.Proofs.YthnaghigpgfchaaW.PrintLast Go.Proofs.YthnaghigpgfchaaW.PrintMore
attribute [local go_sem] max2_int min2_int max_two min_two max_three min_three max_four min_four   -- for this text's walks alone
set_option linter.unusedVariables false
set_option linter.unusedSimpArgs false

/-! ### impl_Road_tour: function 66 -/
mutual
def impl_Road_tour.j0 : Nat → List Int → Int → Bool → Option (Int)
  | 0, _, _, _ => none
  | k + 1, x7, x275000, x275001 => if x275001 = true then (impl_Road_tour.l1 k x7 60 (wrap64 ((x7.length : Int) + 1)) 0 x275000 x275001) else (impl_Road_tour.l0 k 0 0 x7 (x7.length : Int) 0)
def impl_Road_tour.l1 : Nat → List Int → Int → Int → Int → Int → Bool → Option (Int)
  | 0, _, _, _, _, _, _ => none
  | k + 1, x7, x13, x49, x50, x275000, x275001 => if x50 < x49 then (if x50 > 0 then (if 0 ≤ (wrap64 (x50 - 1)) then (if (wrap64 (x50 - 1)) < (x7.length : Int) then (if x50 < (x7.length : Int) then (if 0 ≤ x50 then ((impl_Road_tour_3.f (rd x7 (wrap64 (x50 - 1))) (wrap64 (x275000 - (rd x7 x50)))).bind fun t287 => (impl_Road_tour.l1 k x7 (mn x13 t287) x49 (wrap64 (x50 + 1)) x275000 x275001)) else (none)) else ((impl_Road_tour_3.f (rd x7 (wrap64 (x50 - 1))) 0).bind fun t288 => (impl_Road_tour.l1 k x7 (mn x13 t288) x49 (wrap64 (x50 + 1)) x275000 x275001))) else (none)) else (none)) else (if x50 < (x7.length : Int) then (if 0 ≤ x50 then ((impl_Road_tour_3.f 0 (wrap64 (x275000 - (rd x7 x50)))).bind fun t290 => (impl_Road_tour.l1 k x7 (mn x13 t290) x49 (wrap64 (x50 + 1)) x275000 x275001)) else (none)) else ((impl_Road_tour_3.f 0 0).bind fun t291 => (impl_Road_tour.l1 k x7 (mn x13 t291) x49 (wrap64 (x50 + 1)) x275000 x275001)))) else (some x13)
def impl_Road_tour.l0 : Nat → Int → Int → List Int → Int → Int → Option (Int)
  | 0, _, _, _, _, _ => none
  | k + 1, x9, x10, x29, x30, x31 => if x31 < x30 then (if 0 ≤ x31 then (if x31 < (x29.length : Int) then (impl_Road_tour.l0 k (mx x9 (rd x29 x31)) (mx x10 (wrap64 (-(rd x29 x31)))) x29 x30 (wrap64 (x31 + 1))) else (none)) else (none)) else ((impl_Road_tour_3.f x9 x10).bind fun t284 => (some t284))
end
def impl_Road_tour.f (k : Nat) (a0_0 : Int) (a0_1 : Bool) (a1 : Int) (l2 : List Int) : Option (Int) := (impl_mapped__Road_tour_1.f k l2 a0_0 a0_1 a1).bind fun t276 => ((slices_Sort_int_int.f k t276).bind fun t279 => (if a0_1 = true then ((slices_DeleteFunc_int_int___Road_tour_2.f k t279).bind fun t280 => (impl_Road_tour.j0 k t280 a0_0 a0_1)) else (impl_Road_tour.j0 k t279 a0_0 a0_1)))
theorem impl_Road_tour.mono_l : ∀ k, (∀ y0 y1 y2, LeO (impl_Road_tour.j0 k y0 y1 y2) (impl_Road_tour.j0 (k + 1) y0 y1 y2)) ∧ (∀ y0 y1 y2 y3 y4 y5, LeO (impl_Road_tour.l1 k y0 y1 y2 y3 y4 y5) (impl_Road_tour.l1 (k + 1) y0 y1 y2 y3 y4 y5)) ∧ (∀ y0 y1 y2 y3 y4, LeO (impl_Road_tour.l0 k y0 y1 y2 y3 y4) (impl_Road_tour.l0 (k + 1) y0 y1 y2 y3 y4))
  | 0 => ⟨fun _ _ _ r h => by simp [impl_Road_tour.j0] at h, fun _ _ _ _ _ _ r h => by simp [impl_Road_tour.l1] at h, fun _ _ _ _ _ r h => by simp [impl_Road_tour.l0] at h⟩
  | k + 1 => by
    obtain ⟨ih0, ih1, ih2⟩ := impl_Road_tour.mono_l k
    refine ⟨?_, ?_, ?_⟩
    · intro y0 y1 y2
      unfold impl_Road_tour.j0
      repeat' first
      | (with_reducible exact ih0 _ _ _)
      | (with_reducible exact ih1 _ _ _ _ _ _)
      | (with_reducible exact ih2 _ _ _ _ _)
      | (with_reducible exact impl_mapped__Road_tour_1.mono _ _ _ _ _)
      | (with_reducible exact slices_DeleteFunc_int_int___Road_tour_2.mono _ _)
      | (with_reducible exact slices_Sort_int_int.mono _ _)
      | (with_reducible exact LeO.refl _)
      | (with_reducible exact LeO.none _)
      | (with_reducible refine LeO.ite ?_ ?_)
      | (with_reducible refine LeO.bind ?_ (fun _ => ?_))
      | exact ih0 _ _ _
      | exact ih1 _ _ _ _ _ _
      | exact ih2 _ _ _ _ _
      | exact impl_mapped__Road_tour_1.mono _ _ _ _ _
      | exact slices_DeleteFunc_int_int___Road_tour_2.mono _ _
      | exact slices_Sort_int_int.mono _ _
      | exact LeO.none _
      | refine LeO.ite ?_ ?_
      | refine LeO.bind ?_ (fun _ => ?_)
    · intro y0 y1 y2 y3 y4 y5
      unfold impl_Road_tour.l1
      repeat' first
      | (with_reducible exact ih0 _ _ _)
      | (with_reducible exact ih1 _ _ _ _ _ _)
      | (with_reducible exact ih2 _ _ _ _ _)
      | (with_reducible exact impl_mapped__Road_tour_1.mono _ _ _ _ _)
      | (with_reducible exact slices_DeleteFunc_int_int___Road_tour_2.mono _ _)
      | (with_reducible exact slices_Sort_int_int.mono _ _)
      | (with_reducible exact LeO.refl _)
      | (with_reducible exact LeO.none _)
      | (with_reducible refine LeO.ite ?_ ?_)
      | (with_reducible refine LeO.bind ?_ (fun _ => ?_))
      | exact ih0 _ _ _
      | exact ih1 _ _ _ _ _ _
      | exact ih2 _ _ _ _ _
      | exact impl_mapped__Road_tour_1.mono _ _ _ _ _
      | exact slices_DeleteFunc_int_int___Road_tour_2.mono _ _
      | exact slices_Sort_int_int.mono _ _
      | exact LeO.none _
      | refine LeO.ite ?_ ?_
      | refine LeO.bind ?_ (fun _ => ?_)
    · intro y0 y1 y2 y3 y4
      unfold impl_Road_tour.l0
      repeat' first
      | (with_reducible exact ih0 _ _ _)
      | (with_reducible exact ih1 _ _ _ _ _ _)
      | (with_reducible exact ih2 _ _ _ _ _)
      | (with_reducible exact impl_mapped__Road_tour_1.mono _ _ _ _ _)
      | (with_reducible exact slices_DeleteFunc_int_int___Road_tour_2.mono _ _)
      | (with_reducible exact slices_Sort_int_int.mono _ _)
      | (with_reducible exact LeO.refl _)
      | (with_reducible exact LeO.none _)
      | (with_reducible refine LeO.ite ?_ ?_)
      | (with_reducible refine LeO.bind ?_ (fun _ => ?_))
      | exact ih0 _ _ _
      | exact ih1 _ _ _ _ _ _
      | exact ih2 _ _ _ _ _
      | exact impl_mapped__Road_tour_1.mono _ _ _ _ _
      | exact slices_DeleteFunc_int_int___Road_tour_2.mono _ _
      | exact slices_Sort_int_int.mono _ _
      | exact LeO.none _
      | refine LeO.ite ?_ ?_
      | refine LeO.bind ?_ (fun _ => ?_)
theorem impl_Road_tour.mono : ∀ a0 a1 a2 a3 k, LeO (impl_Road_tour.f k a0 a1 a2 a3) (impl_Road_tour.f (k + 1) a0 a1 a2 a3) := by
  intro a0 a1 a2 a3 k
  obtain ⟨ih0, ih1, ih2⟩ := impl_Road_tour.mono_l k
  unfold impl_Road_tour.f
  repeat' first
      | (with_reducible exact ih0 _ _ _)
      | (with_reducible exact ih1 _ _ _ _ _ _)
      | (with_reducible exact ih2 _ _ _ _ _)
      | (with_reducible exact impl_mapped__Road_tour_1.mono _ _ _ _ _)
      | (with_reducible exact slices_DeleteFunc_int_int___Road_tour_2.mono _ _)
      | (with_reducible exact slices_Sort_int_int.mono _ _)
      | (with_reducible exact LeO.refl _)
      | (with_reducible exact LeO.none _)
      | (with_reducible refine LeO.ite ?_ ?_)
      | (with_reducible refine LeO.bind ?_ (fun _ => ?_))
      | exact ih0 _ _ _
      | exact ih1 _ _ _ _ _ _
      | exact ih2 _ _ _ _ _
      | exact impl_mapped__Road_tour_1.mono _ _ _ _ _
      | exact slices_DeleteFunc_int_int___Road_tour_2.mono _ _
      | exact slices_Sort_int_int.mono _ _
      | exact LeO.none _
      | refine LeO.ite ?_ ?_
      | refine LeO.bind ?_ (fun _ => ?_)
set_option maxHeartbeats 8000000 in
set_option maxRecDepth 100000 in
theorem impl_Road_tour.calls (k : Nat) (a0_0 : Int) (a0_1 : Bool) (a1 : Int) (A2 : Option Addr) (c2 : Nat) (l2 : List Int) (r : Int) (w : World) (hr2 : Kd.C (Kd.int .i64) w A2 l2.length l2) (hc2 : l2.length ≤ c2) (h : impl_Road_tour.f k a0_0 a0_1 a1 l2 = some r) :
    Calls Try.prog 66 #[.agg #[.int .i64 a0_0, .bool a0_1], .int .i64 a1, .slice A2 l2.length c2] w fun e w' => e = .returned (.int .i64 r) ∧ Below w.heap.size w w' := by
 have hu27 := Try.underlying27
 have HR2 := A_ hr2
 have HC2 := A_ hc2
 clear hr2 hc2
 have HB := A_ (Below.refl w.heap.size w)
 have H : ((impl_mapped__Road_tour_1.f k l2 a0_0 a0_1 a1).bind fun t276 => ((slices_Sort_int_int.f k t276).bind fun t279 => (if a0_1 = true then ((slices_DeleteFunc_int_int___Road_tour_2.f k t279).bind fun t280 => (impl_Road_tour.j0 k t280 a0_0 a0_1)) else (impl_Road_tour.j0 k t279 a0_0 a0_1)))) = some r := h
 clear h
 replace H := Option.bind_eq_some_iff.mp H
 obtain ⟨t276, A40, H⟩ := H
 replace H : ((slices_Sort_int_int.f k t276).bind fun t279 => (if a0_1 = true then ((slices_DeleteFunc_int_int___Road_tour_2.f k t279).bind fun t280 => (impl_Road_tour.j0 k t280 a0_0 a0_1)) else (impl_Road_tour.j0 k t279 a0_0 a0_1))) = some r := H
 have A4 := A_ A40
 clear A40
 replace H := Option.bind_eq_some_iff.mp H
 obtain ⟨t279, A50, H⟩ := H
 replace H : (if a0_1 = true then ((slices_DeleteFunc_int_int___Road_tour_2.f k t279).bind fun t280 => (impl_Road_tour.j0 k t280 a0_0 a0_1)) else (impl_Road_tour.j0 k t279 a0_0 a0_1)) = some r := H
 have A5 := A_ A50
 clear A50
 have HC6 := A_ H
 clear H
 go_enter Try.func66, Try.ntmps66
 go_upto_if 23 with (first | ((with_reducible refine gate_dst (N := 3) rfl ?_); refine box_event ?hg (N := 3) ?hd (cs := #[.int .i64 a0_0, .bool a0_1]) (t := 27) ?hr ?_; (case hd => rfl); (case hg => rfl); (case hr => first | (go_simp; done) | (go_simp; rfl)); intro gb274 hg w7 hbox hb; have n0_ := A_ (below_step (hq HB) hb); have n1_ := A_ (hbox); have n2_ := A_ ((by rw [hg]; exact (below_size (hq HB)) : w.heap.size ≤ gb274)); have n3_ := A_ ((by rw [hg]; exact (below_size (hq HB)) : w.heap.size ≤ gb274)); clear HB; have HB := n0_; have BK274 := n1_; have GW274 := n2_; have GE274 := n3_; clear n0_ n1_ n2_ n3_; clear hb hbox hg) | ((with_reducible refine gate_dst (N := 4) rfl ?_); refine box_event ?hg (N := 4) ?hd (cs := #[.int .i64 a1]) (t := 3) ?hr ?_; (case hd => rfl); (case hg => rfl); (case hr => first | (go_simp; done) | (go_simp; rfl)); intro gb275 hg w8 hbox hb; have n0_ := A_ (blk_below (bq BK274) hb); have n1_ := A_ (below_step (hq HB) hb); have n2_ := A_ (hbox); have n3_ := A_ ((by rw [hg]; exact (below_size (hq HB)) : w.heap.size ≤ gb275)); have n4_ := A_ ((by rw [hg]; exact (below_size (hq HB)) : w.heap.size ≤ gb275)); have n5_ := A_ ((by rw [hg]; exact Nat.ne_of_lt (blk_lt (bq BK274)) : gb274 ≠ gb275)); have n6_ := A_ ((by rw [hg]; exact Nat.ne_of_gt (blk_lt (bq BK274)) : gb275 ≠ gb274)); clear BK274; clear HB; have BK274 := n0_; have HB := n1_; have BK275 := n2_; have GW275 := n3_; have GE275 := n4_; have NB274_275 := n5_; have NB275_274 := n6_; clear n0_ n1_ n2_ n3_ n4_ n5_ n6_; clear hb hbox hg) | (go_at_call 85; (with_reducible refine (impl_mapped__Road_tour_1.calls k _ _ l2 gb274 a0_0 a0_1 gb275 a1 t276 _ ?side1 ?side2 ?side3 ?side4 A4.out).mono ?_); (case side1 => (with_reducible repeat (first | refine blk_drewN ?_ _ | refine blk_drew ?_ | refine blk_alloc ?_ _)); exact BK274.out); (case side2 => (with_reducible repeat (first | refine blk_drewN ?_ _ | refine blk_drew ?_ | refine blk_alloc ?_ _)); exact BK275.out); (case side3 => exact cq (Kd.C_below HR2.out HB.out)); (case side4 => exact HC2.out); rintro e w9 ⟨v277, rfl, ho0, hb⟩; have n0_ := A_ (Kd.R_lower (Kd.R_newB ho0 (g := gb275) (o := .cells #[.int .i64 a1] 3 (0, 0)) (bq BK275)) (below_size (hq HB))); have n1_ := A_ (blk_below (bq BK274) hb); have n2_ := A_ (blk_below (bq BK275) hb); have n3_ := A_ (below_step (hq HB) hb); clear BK274; clear BK275; clear HB; have HO278 := n0_; have BK274 := n1_; have BK275 := n2_; have HB := n3_; clear n0_ n1_ n2_ n3_; (try clear hb); (try clear hb2); (try clear hk); (try clear hi); (try clear ho0); obtain ⟨Ao10, co10, eo10⟩ := Kd.R_slice HO278.out; subst eo10) | (go_at_call 45; (with_reducible refine (slices_Sort_int_int.calls k (fun k_ => some k_ = (.slice Ao10 t276.length co10 : Value).ownBlock) (.slice Ao10 t276.length co10) t276 t279 w _ ?side1 ?side2 A5.out).mono ?_); (case side1 => repeat (first | (with_reducible first | exact HB.out | apply below_alloc | apply pw_below_drewN | apply below_drew1 | refine below_set ?_ GE274.out | refine below_set ?_ GE275.out) | exact HB.out)); (case side2 => exact Kd.R_tight rfl HO278.out); rintro e w11 ⟨rfl, hy0, hb, hkp⟩; have n0_ := A_ (blk_kept (bq BK274) hkp (fun hs_ => (fun e_ => (Kd.R_ne HO278.out BK274.out (by decide)) e_) hs_)); have n1_ := A_ (blk_kept (bq BK275) hkp (fun hs_ => (fun e_ => (Kd.R_away HO278.out (fun _ hk => hk.2)) e_) hs_)); have n2_ := A_ (Kd.R_reok rfl hy0 (fun k_ e_ => HO278.out.1 k_ e_)); have n3_ := A_ (hb); clear BK274; clear BK275; clear HO278; clear HB; have BK274 := n0_; have BK275 := n1_; have HO278 := n2_; have HB := n3_; clear n0_ n1_ n2_ n3_; (try clear hb); (try clear hkp); (try clear hy0); have hnb12 := NB274_275.out; have hnc12 := NB275_274.out; have hcz13_0 : w11.cell? ⟨gb274, 0, none⟩ = some (.int .i64 a0_0) := bc BK274 0; have hcz13_1 : w11.cell? ⟨gb274, 1, none⟩ = some (.bool a0_1) := bc BK274 1; have hfz13_0 := blk_frozen BK274.out 0; have hfz13_1 := blk_frozen BK274.out 1))
 repeat (go_quiet (first | ((with_reducible refine gate_dst (N := 3) rfl ?_); refine box_event ?hg (N := 3) ?hd (cs := #[.int .i64 a0_0, .bool a0_1]) (t := 27) ?hr ?_; (case hd => rfl); (case hg => rfl); (case hr => first | (go_simp; done) | (go_simp; rfl)); intro gb274 hg w7 hbox hb; have n0_ := A_ (below_step (hq HB) hb); have n1_ := A_ (hbox); have n2_ := A_ ((by rw [hg]; exact (below_size (hq HB)) : w.heap.size ≤ gb274)); have n3_ := A_ ((by rw [hg]; exact (below_size (hq HB)) : w.heap.size ≤ gb274)); clear HB; have HB := n0_; have BK274 := n1_; have GW274 := n2_; have GE274 := n3_; clear n0_ n1_ n2_ n3_; clear hb hbox hg) | ((with_reducible refine gate_dst (N := 4) rfl ?_); refine box_event ?hg (N := 4) ?hd (cs := #[.int .i64 a1]) (t := 3) ?hr ?_; (case hd => rfl); (case hg => rfl); (case hr => first | (go_simp; done) | (go_simp; rfl)); intro gb275 hg w8 hbox hb; have n0_ := A_ (blk_below (bq BK274) hb); have n1_ := A_ (below_step (hq HB) hb); have n2_ := A_ (hbox); have n3_ := A_ ((by rw [hg]; exact (below_size (hq HB)) : w.heap.size ≤ gb275)); have n4_ := A_ ((by rw [hg]; exact (below_size (hq HB)) : w.heap.size ≤ gb275)); have n5_ := A_ ((by rw [hg]; exact Nat.ne_of_lt (blk_lt (bq BK274)) : gb274 ≠ gb275)); have n6_ := A_ ((by rw [hg]; exact Nat.ne_of_gt (blk_lt (bq BK274)) : gb275 ≠ gb274)); clear BK274; clear HB; have BK274 := n0_; have HB := n1_; have BK275 := n2_; have GW275 := n3_; have GE275 := n4_; have NB274_275 := n5_; have NB275_274 := n6_; clear n0_ n1_ n2_ n3_ n4_ n5_ n6_; clear hb hbox hg) | (go_at_call 85; (with_reducible refine (impl_mapped__Road_tour_1.calls k _ _ l2 gb274 a0_0 a0_1 gb275 a1 t276 _ ?side1 ?side2 ?side3 ?side4 A4.out).mono ?_); (case side1 => (with_reducible repeat (first | refine blk_drewN ?_ _ | refine blk_drew ?_ | refine blk_alloc ?_ _)); exact BK274.out); (case side2 => (with_reducible repeat (first | refine blk_drewN ?_ _ | refine blk_drew ?_ | refine blk_alloc ?_ _)); exact BK275.out); (case side3 => exact cq (Kd.C_below HR2.out HB.out)); (case side4 => exact HC2.out); rintro e w9 ⟨v277, rfl, ho0, hb⟩; have n0_ := A_ (Kd.R_lower (Kd.R_newB ho0 (g := gb275) (o := .cells #[.int .i64 a1] 3 (0, 0)) (bq BK275)) (below_size (hq HB))); have n1_ := A_ (blk_below (bq BK274) hb); have n2_ := A_ (blk_below (bq BK275) hb); have n3_ := A_ (below_step (hq HB) hb); clear BK274; clear BK275; clear HB; have HO278 := n0_; have BK274 := n1_; have BK275 := n2_; have HB := n3_; clear n0_ n1_ n2_ n3_; (try clear hb); (try clear hb2); (try clear hk); (try clear hi); (try clear ho0); obtain ⟨Ao10, co10, eo10⟩ := Kd.R_slice HO278.out; subst eo10) | (go_at_call 45; (with_reducible refine (slices_Sort_int_int.calls k (fun k_ => some k_ = (.slice Ao10 t276.length co10 : Value).ownBlock) (.slice Ao10 t276.length co10) t276 t279 w _ ?side1 ?side2 A5.out).mono ?_); (case side1 => repeat (first | (with_reducible first | exact HB.out | apply below_alloc | apply pw_below_drewN | apply below_drew1 | refine below_set ?_ GE274.out | refine below_set ?_ GE275.out) | exact HB.out)); (case side2 => exact Kd.R_tight rfl HO278.out); rintro e w11 ⟨rfl, hy0, hb, hkp⟩; have n0_ := A_ (blk_kept (bq BK274) hkp (fun hs_ => (fun e_ => (Kd.R_ne HO278.out BK274.out (by decide)) e_) hs_)); have n1_ := A_ (blk_kept (bq BK275) hkp (fun hs_ => (fun e_ => (Kd.R_away HO278.out (fun _ hk => hk.2)) e_) hs_)); have n2_ := A_ (Kd.R_reok rfl hy0 (fun k_ e_ => HO278.out.1 k_ e_)); have n3_ := A_ (hb); clear BK274; clear BK275; clear HO278; clear HB; have BK274 := n0_; have BK275 := n1_; have HO278 := n2_; have HB := n3_; clear n0_ n1_ n2_ n3_; (try clear hb); (try clear hkp); (try clear hy0); have hnb12 := NB274_275.out; have hnc12 := NB275_274.out; have hcz13_0 : w11.cell? ⟨gb274, 0, none⟩ = some (.int .i64 a0_0) := bc BK274 0; have hcz13_1 : w11.cell? ⟨gb274, 1, none⟩ = some (.bool a0_1) := bc BK274 1; have hfz13_0 := blk_frozen BK274.out 0; have hfz13_1 := blk_frozen BK274.out 1)); go_upto_if 23 with (first | ((with_reducible refine gate_dst (N := 3) rfl ?_); refine box_event ?hg (N := 3) ?hd (cs := #[.int .i64 a0_0, .bool a0_1]) (t := 27) ?hr ?_; (case hd => rfl); (case hg => rfl); (case hr => first | (go_simp; done) | (go_simp; rfl)); intro gb274 hg w7 hbox hb; have n0_ := A_ (below_step (hq HB) hb); have n1_ := A_ (hbox); have n2_ := A_ ((by rw [hg]; exact (below_size (hq HB)) : w.heap.size ≤ gb274)); have n3_ := A_ ((by rw [hg]; exact (below_size (hq HB)) : w.heap.size ≤ gb274)); clear HB; have HB := n0_; have BK274 := n1_; have GW274 := n2_; have GE274 := n3_; clear n0_ n1_ n2_ n3_; clear hb hbox hg) | ((with_reducible refine gate_dst (N := 4) rfl ?_); refine box_event ?hg (N := 4) ?hd (cs := #[.int .i64 a1]) (t := 3) ?hr ?_; (case hd => rfl); (case hg => rfl); (case hr => first | (go_simp; done) | (go_simp; rfl)); intro gb275 hg w8 hbox hb; have n0_ := A_ (blk_below (bq BK274) hb); have n1_ := A_ (below_step (hq HB) hb); have n2_ := A_ (hbox); have n3_ := A_ ((by rw [hg]; exact (below_size (hq HB)) : w.heap.size ≤ gb275)); have n4_ := A_ ((by rw [hg]; exact (below_size (hq HB)) : w.heap.size ≤ gb275)); have n5_ := A_ ((by rw [hg]; exact Nat.ne_of_lt (blk_lt (bq BK274)) : gb274 ≠ gb275)); have n6_ := A_ ((by rw [hg]; exact Nat.ne_of_gt (blk_lt (bq BK274)) : gb275 ≠ gb274)); clear BK274; clear HB; have BK274 := n0_; have HB := n1_; have BK275 := n2_; have GW275 := n3_; have GE275 := n4_; have NB274_275 := n5_; have NB275_274 := n6_; clear n0_ n1_ n2_ n3_ n4_ n5_ n6_; clear hb hbox hg) | (go_at_call 85; (with_reducible refine (impl_mapped__Road_tour_1.calls k _ _ l2 gb274 a0_0 a0_1 gb275 a1 t276 _ ?side1 ?side2 ?side3 ?side4 A4.out).mono ?_); (case side1 => (with_reducible repeat (first | refine blk_drewN ?_ _ | refine blk_drew ?_ | refine blk_alloc ?_ _)); exact BK274.out); (case side2 => (with_reducible repeat (first | refine blk_drewN ?_ _ | refine blk_drew ?_ | refine blk_alloc ?_ _)); exact BK275.out); (case side3 => exact cq (Kd.C_below HR2.out HB.out)); (case side4 => exact HC2.out); rintro e w9 ⟨v277, rfl, ho0, hb⟩; have n0_ := A_ (Kd.R_lower (Kd.R_newB ho0 (g := gb275) (o := .cells #[.int .i64 a1] 3 (0, 0)) (bq BK275)) (below_size (hq HB))); have n1_ := A_ (blk_below (bq BK274) hb); have n2_ := A_ (blk_below (bq BK275) hb); have n3_ := A_ (below_step (hq HB) hb); clear BK274; clear BK275; clear HB; have HO278 := n0_; have BK274 := n1_; have BK275 := n2_; have HB := n3_; clear n0_ n1_ n2_ n3_; (try clear hb); (try clear hb2); (try clear hk); (try clear hi); (try clear ho0); obtain ⟨Ao10, co10, eo10⟩ := Kd.R_slice HO278.out; subst eo10) | (go_at_call 45; (with_reducible refine (slices_Sort_int_int.calls k (fun k_ => some k_ = (.slice Ao10 t276.length co10 : Value).ownBlock) (.slice Ao10 t276.length co10) t276 t279 w _ ?side1 ?side2 A5.out).mono ?_); (case side1 => repeat (first | (with_reducible first | exact HB.out | apply below_alloc | apply pw_below_drewN | apply below_drew1 | refine below_set ?_ GE274.out | refine below_set ?_ GE275.out) | exact HB.out)); (case side2 => exact Kd.R_tight rfl HO278.out); rintro e w11 ⟨rfl, hy0, hb, hkp⟩; have n0_ := A_ (blk_kept (bq BK274) hkp (fun hs_ => (fun e_ => (Kd.R_ne HO278.out BK274.out (by decide)) e_) hs_)); have n1_ := A_ (blk_kept (bq BK275) hkp (fun hs_ => (fun e_ => (Kd.R_away HO278.out (fun _ hk => hk.2)) e_) hs_)); have n2_ := A_ (Kd.R_reok rfl hy0 (fun k_ e_ => HO278.out.1 k_ e_)); have n3_ := A_ (hb); clear BK274; clear BK275; clear HO278; clear HB; have BK274 := n0_; have BK275 := n1_; have HO278 := n2_; have HB := n3_; clear n0_ n1_ n2_ n3_; (try clear hb); (try clear hkp); (try clear hy0); have hnb12 := NB274_275.out; have hnc12 := NB275_274.out; have hcz13_0 : w11.cell? ⟨gb274, 0, none⟩ = some (.int .i64 a0_0) := bc BK274 0; have hcz13_1 : w11.cell? ⟨gb274, 1, none⟩ = some (.bool a0_1) := bc BK274 1; have hfz13_0 := blk_frozen BK274.out 0; have hfz13_1 := blk_frozen BK274.out 1)))
 (try simp only [Act.put, List.setIfInBounds_toArray, List.set_cons_zero, List.set_cons_succ])
 go_cut [7] (fun v7 wc => ∃ (kq : Nat) (x7_5 : List Int), Aside0 (impl_Road_tour.j0 kq x7_5 a0_0 a0_1 = some r) ∧ Aside0 (kq ≤ k) ∧ Aside0 (Kd.R (Kd.int .i64) 3 wc w.heap.size (fun k_ => k_ ≠ gb275) v7 x7_5) ∧ Aside0 (wc.heap[gb274]? = some (.cells #[.int .i64 a0_0, .bool a0_1] 27 (0, 0))) ∧ Aside0 (wc.heap[gb275]? = some (.cells #[.int .i64 a1] 3 (0, 0))) ∧ Aside0 (Below w.heap.size w wc))
 case first =>
  have H := HC6.out
  clear HC6
  by_cases c14 : a0_1 = true
  ·
   subst c14
   have H1 : ((slices_DeleteFunc_int_int___Road_tour_2.f k t279).bind fun t280 => (impl_Road_tour.j0 k t280 a0_0 true)) = some r := by rw [if_pos rfl] at H; exact H
   clear H
   have H := H1
   clear H1
   replace H := Option.bind_eq_some_iff.mp H
   obtain ⟨t280, A150, H⟩ := H
   replace H : (impl_Road_tour.j0 k t280 a0_0 true) = some r := H
   have A15 := A_ A150
   clear A150
   have H' := A_ H
   clear H
   go_wp2_with (first | (go_at_call 87; (with_reducible refine (slices_DeleteFunc_int_int___Road_tour_2.calls k (fun k_ => some k_ = (.slice Ao10 t276.length co10 : Value).ownBlock) (.slice Ao10 t276.length co10) t279 t280 w _ ?side1 ?side2 A15.out).mono ?_); (case side1 => repeat (first | (with_reducible first | exact HB.out | apply below_alloc | apply pw_below_drewN | apply below_drew1 | refine below_set ?_ GE274.out | refine below_set ?_ GE275.out) | exact HB.out)); (case side2 => exact Kd.R_tight rfl HO278.out); rintro e w16 ⟨v281, rfl, ho0, hb, hkp⟩; have n0_ := A_ (blk_kept (bq BK274) hkp (fun hs_ => (fun e_ => (Kd.R_ne HO278.out BK274.out (by decide)) e_) hs_)); have n1_ := A_ (blk_kept (bq BK275) hkp (fun hs_ => (fun e_ => (Kd.R_away HO278.out (fun _ hk => hk.2)) e_) hs_)); have n2_ := A_ (Kd.R_mono (ok' := fun k_ => k_ ≠ gb275) ho0 (fun k_ hk_ => Or.elim hk_ (fun hs_ => fun e_ => (Kd.R_away HO278.out (fun _ hk => hk.2)) (by rw [← e_]; exact hs_)) (fun hn_ => (Kd.freshB (g := gb275) (o := .cells #[.int .i64 a1] 3 (0, 0)) (bq BK275) k_ hn_)))); have n3_ := A_ (hb); clear BK274; clear BK275; clear HB; clear HO278; have BK274 := n0_; have BK275 := n1_; have HO282 := n2_; have HB := n3_; clear n0_ n1_ n2_ n3_; (try clear hb); (try clear hkp); (try clear ho0)))
   repeat (go_quiet (first | (go_at_call 87; (with_reducible refine (slices_DeleteFunc_int_int___Road_tour_2.calls k (fun k_ => some k_ = (.slice Ao10 t276.length co10 : Value).ownBlock) (.slice Ao10 t276.length co10) t279 t280 w _ ?side1 ?side2 A15.out).mono ?_); (case side1 => repeat (first | (with_reducible first | exact HB.out | apply below_alloc | apply pw_below_drewN | apply below_drew1 | refine below_set ?_ GE274.out | refine below_set ?_ GE275.out) | exact HB.out)); (case side2 => exact Kd.R_tight rfl HO278.out); rintro e w16 ⟨v281, rfl, ho0, hb, hkp⟩; have n0_ := A_ (blk_kept (bq BK274) hkp (fun hs_ => (fun e_ => (Kd.R_ne HO278.out BK274.out (by decide)) e_) hs_)); have n1_ := A_ (blk_kept (bq BK275) hkp (fun hs_ => (fun e_ => (Kd.R_away HO278.out (fun _ hk => hk.2)) e_) hs_)); have n2_ := A_ (Kd.R_mono (ok' := fun k_ => k_ ≠ gb275) ho0 (fun k_ hk_ => Or.elim hk_ (fun hs_ => fun e_ => (Kd.R_away HO278.out (fun _ hk => hk.2)) (by rw [← e_]; exact hs_)) (fun hn_ => (Kd.freshB (g := gb275) (o := .cells #[.int .i64 a1] 3 (0, 0)) (bq BK275) k_ hn_)))); have n3_ := A_ (hb); clear BK274; clear BK275; clear HB; clear HO278; have BK274 := n0_; have BK275 := n1_; have HO282 := n2_; have HB := n3_; clear n0_ n1_ n2_ n3_; (try clear hb); (try clear hkp); (try clear ho0))); try go_wp2_with (first | (go_at_call 87; (with_reducible refine (slices_DeleteFunc_int_int___Road_tour_2.calls k (fun k_ => some k_ = (.slice Ao10 t276.length co10 : Value).ownBlock) (.slice Ao10 t276.length co10) t279 t280 w _ ?side1 ?side2 A15.out).mono ?_); (case side1 => repeat (first | (with_reducible first | exact HB.out | apply below_alloc | apply pw_below_drewN | apply below_drew1 | refine below_set ?_ GE274.out | refine below_set ?_ GE275.out) | exact HB.out)); (case side2 => exact Kd.R_tight rfl HO278.out); rintro e w16 ⟨v281, rfl, ho0, hb, hkp⟩; have n0_ := A_ (blk_kept (bq BK274) hkp (fun hs_ => (fun e_ => (Kd.R_ne HO278.out BK274.out (by decide)) e_) hs_)); have n1_ := A_ (blk_kept (bq BK275) hkp (fun hs_ => (fun e_ => (Kd.R_away HO278.out (fun _ hk => hk.2)) e_) hs_)); have n2_ := A_ (Kd.R_mono (ok' := fun k_ => k_ ≠ gb275) ho0 (fun k_ hk_ => Or.elim hk_ (fun hs_ => fun e_ => (Kd.R_away HO278.out (fun _ hk => hk.2)) (by rw [← e_]; exact hs_)) (fun hn_ => (Kd.freshB (g := gb275) (o := .cells #[.int .i64 a1] 3 (0, 0)) (bq BK275) k_ hn_)))); have n3_ := A_ (hb); clear BK274; clear BK275; clear HB; clear HO278; have BK274 := n0_; have BK275 := n1_; have HO282 := n2_; have HB := n3_; clear n0_ n1_ n2_ n3_; (try clear hb); (try clear hkp); (try clear ho0))))
   go_meet
   case rel => exact ⟨_, (t280), H', ⟨by first | omega | exact Nat.le_refl _⟩, ⟨rq HO282⟩, ⟨bq BK274⟩, ⟨bq BK275⟩, ⟨hq HB⟩⟩
  ·
   replace c14 := Bool.eq_false_iff.mpr c14
   subst c14
   have H1 : (impl_Road_tour.j0 k t279 a0_0 false) = some r := by rw [if_neg (show ¬ (false = true) by decide)] at H; exact H
   clear H
   have H := H1
   clear H1
   have H' := A_ H
   clear H
   go_wp2
   repeat (go_quiet (fail); try go_wp2)
   go_meet
   case rel => exact ⟨_, (t279), H', ⟨by first | omega | exact Nat.le_refl _⟩, ⟨by (with_reducible repeat (first | apply Kd.R_alloc | apply Kd.R_drewN | apply Kd.R_drew)); exact Kd.R_mono HO278.out (fun _ hk => hk.2)⟩, ⟨bq BK274⟩, ⟨bq BK275⟩, ⟨hq HB⟩⟩
 case rest =>
  clear HC6
  try clear c1
  try clear c2
  try clear p2
  try clear c6
  try clear c12
  try clear c14
  try clear hcz13_0
  try clear hcz13_1
  try clear hfz13_0
  try clear hfz13_1
  obtain ⟨kq, x7_5, HA, HJ5, HO_7, BK274, BK275, HB⟩ := hcut
  cases kq with
  | zero => exact absurd HA.out (by simp [impl_Road_tour.j0])
  | succ kj5 =>
   have H := HA.out
   clear HA
   simp only [impl_Road_tour.j0] at H
   by_cases c17 : a0_1 = true
   ·
    subst c17
    have H1 : (impl_Road_tour.l1 kj5 x7_5 60 (wrap64 ((x7_5.length : Int) + 1)) 0 a0_0 true) = some r := by rw [if_pos rfl] at H; exact H
    clear H
    have H := H1
    clear H1
    have H' := A_ H
    clear H
    have hnb18 := NB274_275.out
    have hnc18 := NB275_274.out
    have hcz19_0 : wc.cell? ⟨gb274, 0, none⟩ = some (.int .i64 a0_0) := bc BK274 0
    have hcz19_1 : wc.cell? ⟨gb274, 1, none⟩ = some (.bool true) := bc BK274 1
    have hfz19_0 := blk_frozen BK274.out 0
    have hfz19_1 := blk_frozen BK274.out 1
    obtain ⟨Ao20, co20, eo20⟩ := Kd.R_slice HO_7.out
    subst eo20
    go_wp2
    repeat (go_quiet (fail); try go_wp2)
    go_loopg [13, 50] kj5 (fun kq v13 v50 w' => ∃ (x13_2 : Int) (x50_2 : Int), v13 = .int .i64 x13_2 ∧ v50 = .int .i64 x50_2 ∧ Aside0 (impl_Road_tour.l1 kq x7_5 x13_2 (wrap64 ((x7_5.length : Int) + 1)) x50_2 a0_0 true = some r) ∧ Aside0 (kq ≤ kj5) ∧ Aside0 (Kd.R (Kd.int .i64) 3 w' w.heap.size (fun k_ => k_ ≠ gb275) (.slice Ao20 x7_5.length co20) x7_5) ∧ Aside0 (w'.heap[gb274]? = some (.cells #[.int .i64 a0_0, .bool true] 27 (0, 0))) ∧ Aside0 (w'.heap[gb275]? = some (.cells #[.int .i64 a1] 3 (0, 0))) ∧ Aside0 (Below w.heap.size w w'))
    case atStart => exact ⟨(60), (0), (by first | rfl | (simp; done) | (simp [*]; done)), (by first | rfl | (simp; done) | (simp [*]; done)), H', ⟨Nat.le_refl _⟩, ⟨rq HO_7⟩, ⟨bq BK274⟩, ⟨bq BK275⟩, ⟨hq HB⟩⟩
    case round =>
     clear H'
     try clear c1
     try clear c2
     try clear p2
     try clear c6
     try clear p6
     try clear c12
     try clear c14
     try clear c17
     try clear c18
     try clear hcz13_0
     try clear hcz13_1
     try clear hcz19_0
     try clear hcz19_1
     try clear hfz13_0
     try clear hfz13_1
     try clear hfz19_0
     try clear hfz19_1
     try clear p2
     obtain ⟨x13_2, x50_2, rfl, rfl, HA, HK2, HO_7, BK274, BK275, HB⟩ := hrel
     cases gk with
     | zero => exact absurd HA.out (by simp [impl_Road_tour.l1])
     | succ k2 =>
      have H := HA.out
      clear HA
      simp only [impl_Road_tour.l1] at H
      by_cases c21 : x50_2 < (wrap64 ((x7_5.length : Int) + 1))
      ·
       rw [if_pos c21] at H
       have c21b0 : decide (x50_2 < (wrap64 ((x7_5.length : Int) + 1))) = true := decide_eq_true c21
       clear c21
       by_cases c22 : x50_2 > 0
       ·
        rw [if_pos c22] at H
        have c22b0 : decide (0 < x50_2) = true := decide_eq_true c22
        clear c22
        obtain ⟨ji23, hji23⟩ : ∃ j_ : Int, (wrap64 (x50_2 - 1)) = j_ := ⟨_, rfl⟩
        replace H : (if 0 ≤ (ji23) then (if (ji23) < (x7_5.length : Int) then (if x50_2 < (x7_5.length : Int) then (if 0 ≤ x50_2 then ((impl_Road_tour_3.f (rd x7_5 (ji23)) (wrap64 (a0_0 - (rd x7_5 x50_2)))).bind fun t287 => (impl_Road_tour.l1 k2 x7_5 (mn x13_2 t287) (wrap64 ((x7_5.length : Int) + 1)) (wrap64 (x50_2 + 1)) a0_0 true)) else (none)) else ((impl_Road_tour_3.f (rd x7_5 (ji23)) 0).bind fun t288 => (impl_Road_tour.l1 k2 x7_5 (mn x13_2 t288) (wrap64 ((x7_5.length : Int) + 1)) (wrap64 (x50_2 + 1)) a0_0 true))) else (none)) else (none)) = some r := by first | (rw [hji23] at H; exact H) | (simp only [hji23] at H ⊢; exact H)
        have hji23w : (IntKind.i64.wrap (x50_2 - 1)) = ji23 := (i64_w _).trans hji23
        by_cases c24 : 0 ≤ (ji23)
        ·
         rw [if_pos c24] at H
         have c24b0 : decide (0 ≤ (ji23)) = true := decide_eq_true c24
         clear c24
         by_cases c25 : (ji23) < (x7_5.length : Int)
         ·
          rw [if_pos c25] at H
          have c25b0 : decide ((ji23) < (x7_5.length : Int)) = true := decide_eq_true c25
          clear c25
          by_cases c26 : x50_2 < (x7_5.length : Int)
          ·
           rw [if_pos c26] at H
           have c26b0 : decide (x50_2 < (x7_5.length : Int)) = true := decide_eq_true c26
           clear c26
           by_cases c27 : 0 ≤ x50_2
           ·
            rw [if_pos c27] at H
            have c27b0 : decide (0 ≤ x50_2) = true := decide_eq_true c27
            clear c27
            replace H := Option.bind_eq_some_iff.mp H
            obtain ⟨t287, A280, H⟩ := H
            replace H : (impl_Road_tour.l1 k2 x7_5 (mn x13_2 t287) (wrap64 ((x7_5.length : Int) + 1)) (wrap64 (x50_2 + 1)) a0_0 true) = some r := H
            have A28 := A_ A280
            clear A280
            obtain ⟨ji29, hji29⟩ : ∃ j_ : Int, (mn x13_2 t287) = j_ := ⟨_, rfl⟩
            replace H : (impl_Road_tour.l1 k2 x7_5 ji29 (wrap64 ((x7_5.length : Int) + 1)) (wrap64 (x50_2 + 1)) a0_0 true) = some r := by first | (rw [hji29] at H; exact H) | (simp only [hji29] at H ⊢; exact H)
            (try rw [hji29] at A28)
            have hji29_ : (if t287 < x13_2 then t287 else x13_2) = ji29 := hji29
            have H' := A_ H
            clear H
            have p285 : 0 ≤ ((ji23) : Int) := of_decide_eq_true (by first | (with_reducible assumption) | assumption)
            have q285 : (ji23) < (x7_5.length : Int) := of_decide_eq_true (by first | (with_reducible assumption) | assumption)
            obtain ⟨ad285, e285, hx285_0⟩ := Kd.at_int (Kd.R_reads' HO_7.out).2.2 (ji23) p285 q285
            cases e285
            replace p285 := eq_true p285
            replace q285 := eq_true q285
            have hnb30 := NB274_275.out
            have hnc30 := NB275_274.out
            have hcz31_0 : wr.cell? ⟨gb274, 0, none⟩ = some (.int .i64 a0_0) := bc BK274 0
            have hcz31_1 : wr.cell? ⟨gb274, 1, none⟩ = some (.bool true) := bc BK274 1
            have hfz31_0 := blk_frozen BK274.out 0
            have hfz31_1 := blk_frozen BK274.out 1
            have p286 : 0 ≤ (x50_2 : Int) := of_decide_eq_true (by first | (with_reducible assumption) | assumption)
            have q286 : x50_2 < (x7_5.length : Int) := of_decide_eq_true (by first | (with_reducible assumption) | assumption)
            obtain ⟨ad286, e286, hx286_0⟩ := Kd.at_int (Kd.R_reads' HO_7.out).2.2 x50_2 p286 q286
            obtain rfl : ad285 = ad286 := (by injection e286)
            replace p286 := eq_true p286
            replace q286 := eq_true q286
            go_wp2_with (first | (go_at_call 91; (with_reducible refine (impl_Road_tour_3.calls (rd x7_5 (ji23)) (wrap64 (a0_0 - (rd x7_5 x50_2))) t287 _ A28.out).mono ?_); rintro e w32 ⟨rfl, hb⟩; have n0_ := A_ (Kd.R_below (rq HO_7) hb); have n1_ := A_ (blk_below (bq BK274) hb); have n2_ := A_ (blk_below (bq BK275) hb); have n3_ := A_ (below_step (hq HB) hb); clear HO_7; clear BK274; clear BK275; clear HB; have HO_7 := n0_; have BK274 := n1_; have BK275 := n2_; have HB := n3_; clear n0_ n1_ n2_ n3_; (try clear hb); (try clear hb2); (try clear hk); (try clear hi)))
            repeat (go_quiet (first | (go_at_call 91; (with_reducible refine (impl_Road_tour_3.calls (rd x7_5 (ji23)) (wrap64 (a0_0 - (rd x7_5 x50_2))) t287 _ A28.out).mono ?_); rintro e w32 ⟨rfl, hb⟩; have n0_ := A_ (Kd.R_below (rq HO_7) hb); have n1_ := A_ (blk_below (bq BK274) hb); have n2_ := A_ (blk_below (bq BK275) hb); have n3_ := A_ (below_step (hq HB) hb); clear HO_7; clear BK274; clear BK275; clear HB; have HO_7 := n0_; have BK274 := n1_; have BK275 := n2_; have HB := n3_; clear n0_ n1_ n2_ n3_; (try clear hb); (try clear hb2); (try clear hk); (try clear hi))); try go_wp2_with (first | (go_at_call 91; (with_reducible refine (impl_Road_tour_3.calls (rd x7_5 (ji23)) (wrap64 (a0_0 - (rd x7_5 x50_2))) t287 _ A28.out).mono ?_); rintro e w32 ⟨rfl, hb⟩; have n0_ := A_ (Kd.R_below (rq HO_7) hb); have n1_ := A_ (blk_below (bq BK274) hb); have n2_ := A_ (blk_below (bq BK275) hb); have n3_ := A_ (below_step (hq HB) hb); clear HO_7; clear BK274; clear BK275; clear HB; have HO_7 := n0_; have BK274 := n1_; have BK275 := n2_; have HB := n3_; clear n0_ n1_ n2_ n3_; (try clear hb); (try clear hb2); (try clear hk); (try clear hi))))
            go_roundg k2
            case measure => have := HJ5.out; have := HK2.out; omega
            case rel => exact ⟨(ji29), (wrap64 (x50_2 + 1)), (by first | rfl | (simp; done) | (simp only [← hji29] <;> (first | rfl | simp)) | (simp [*]; done)), (by first | rfl | (simp; done) | (simp [*]; done)), H', ⟨by have := HJ5.out; have := HK2.out; omega⟩, ⟨rq HO_7⟩, ⟨bq BK274⟩, ⟨bq BK275⟩, ⟨hq HB⟩⟩
           ·
            rw [if_neg c27] at H
            exact absurd H (by simp)
          ·
           rw [if_neg c26] at H
           have c26b0 : decide (x50_2 < (x7_5.length : Int)) = false := decide_eq_false c26
           clear c26
           replace H := Option.bind_eq_some_iff.mp H
           obtain ⟨t288, A330, H⟩ := H
           replace H : (impl_Road_tour.l1 k2 x7_5 (mn x13_2 t288) (wrap64 ((x7_5.length : Int) + 1)) (wrap64 (x50_2 + 1)) a0_0 true) = some r := H
           have A33 := A_ A330
           clear A330
           obtain ⟨ji34, hji34⟩ : ∃ j_ : Int, (mn x13_2 t288) = j_ := ⟨_, rfl⟩
           replace H : (impl_Road_tour.l1 k2 x7_5 ji34 (wrap64 ((x7_5.length : Int) + 1)) (wrap64 (x50_2 + 1)) a0_0 true) = some r := by first | (rw [hji34] at H; exact H) | (simp only [hji34] at H ⊢; exact H)
           (try rw [hji34] at A33)
           have hji34_ : (if t288 < x13_2 then t288 else x13_2) = ji34 := hji34
           have H' := A_ H
           clear H
           have p285 : 0 ≤ ((ji23) : Int) := of_decide_eq_true (by first | (with_reducible assumption) | assumption)
           have q285 : (ji23) < (x7_5.length : Int) := of_decide_eq_true (by first | (with_reducible assumption) | assumption)
           obtain ⟨ad285, e285, hx285_0⟩ := Kd.at_int (Kd.R_reads' HO_7.out).2.2 (ji23) p285 q285
           cases e285
           replace p285 := eq_true p285
           replace q285 := eq_true q285
           go_wp2_with (first | (go_at_call 91; (with_reducible refine (impl_Road_tour_3.calls (rd x7_5 (ji23)) 0 t288 _ A33.out).mono ?_); rintro e w35 ⟨rfl, hb⟩; have n0_ := A_ (Kd.R_below (rq HO_7) hb); have n1_ := A_ (blk_below (bq BK274) hb); have n2_ := A_ (blk_below (bq BK275) hb); have n3_ := A_ (below_step (hq HB) hb); clear HO_7; clear BK274; clear BK275; clear HB; have HO_7 := n0_; have BK274 := n1_; have BK275 := n2_; have HB := n3_; clear n0_ n1_ n2_ n3_; (try clear hb); (try clear hb2); (try clear hk); (try clear hi)))
           repeat (go_quiet (first | (go_at_call 91; (with_reducible refine (impl_Road_tour_3.calls (rd x7_5 (ji23)) 0 t288 _ A33.out).mono ?_); rintro e w35 ⟨rfl, hb⟩; have n0_ := A_ (Kd.R_below (rq HO_7) hb); have n1_ := A_ (blk_below (bq BK274) hb); have n2_ := A_ (blk_below (bq BK275) hb); have n3_ := A_ (below_step (hq HB) hb); clear HO_7; clear BK274; clear BK275; clear HB; have HO_7 := n0_; have BK274 := n1_; have BK275 := n2_; have HB := n3_; clear n0_ n1_ n2_ n3_; (try clear hb); (try clear hb2); (try clear hk); (try clear hi))); try go_wp2_with (first | (go_at_call 91; (with_reducible refine (impl_Road_tour_3.calls (rd x7_5 (ji23)) 0 t288 _ A33.out).mono ?_); rintro e w35 ⟨rfl, hb⟩; have n0_ := A_ (Kd.R_below (rq HO_7) hb); have n1_ := A_ (blk_below (bq BK274) hb); have n2_ := A_ (blk_below (bq BK275) hb); have n3_ := A_ (below_step (hq HB) hb); clear HO_7; clear BK274; clear BK275; clear HB; have HO_7 := n0_; have BK274 := n1_; have BK275 := n2_; have HB := n3_; clear n0_ n1_ n2_ n3_; (try clear hb); (try clear hb2); (try clear hk); (try clear hi))))
           go_roundg k2
           case measure => have := HJ5.out; have := HK2.out; omega
           case rel => exact ⟨(ji34), (wrap64 (x50_2 + 1)), (by first | rfl | (simp; done) | (simp only [← hji34] <;> (first | rfl | simp)) | (simp [*]; done)), (by first | rfl | (simp; done) | (simp [*]; done)), H', ⟨by have := HJ5.out; have := HK2.out; omega⟩, ⟨rq HO_7⟩, ⟨bq BK274⟩, ⟨bq BK275⟩, ⟨hq HB⟩⟩
         ·
          rw [if_neg c25] at H
          exact absurd H (by simp)
        ·
         rw [if_neg c24] at H
         exact absurd H (by simp)
       ·
        rw [if_neg c22] at H
        have c22b0 : decide (0 < x50_2) = false := decide_eq_false c22
        clear c22
        by_cases c36 : x50_2 < (x7_5.length : Int)
        ·
         rw [if_pos c36] at H
         have c36b0 : decide (x50_2 < (x7_5.length : Int)) = true := decide_eq_true c36
         clear c36
         by_cases c37 : 0 ≤ x50_2
         ·
          rw [if_pos c37] at H
          have c37b0 : decide (0 ≤ x50_2) = true := decide_eq_true c37
          clear c37
          replace H := Option.bind_eq_some_iff.mp H
          obtain ⟨t290, A380, H⟩ := H
          replace H : (impl_Road_tour.l1 k2 x7_5 (mn x13_2 t290) (wrap64 ((x7_5.length : Int) + 1)) (wrap64 (x50_2 + 1)) a0_0 true) = some r := H
          have A38 := A_ A380
          clear A380
          obtain ⟨ji39, hji39⟩ : ∃ j_ : Int, (mn x13_2 t290) = j_ := ⟨_, rfl⟩
          replace H : (impl_Road_tour.l1 k2 x7_5 ji39 (wrap64 ((x7_5.length : Int) + 1)) (wrap64 (x50_2 + 1)) a0_0 true) = some r := by first | (rw [hji39] at H; exact H) | (simp only [hji39] at H ⊢; exact H)
          (try rw [hji39] at A38)
          have hji39_ : (if t290 < x13_2 then t290 else x13_2) = ji39 := hji39
          have H' := A_ H
          clear H
          have hnb40 := NB274_275.out
          have hnc40 := NB275_274.out
          have hcz41_0 : wr.cell? ⟨gb274, 0, none⟩ = some (.int .i64 a0_0) := bc BK274 0
          have hcz41_1 : wr.cell? ⟨gb274, 1, none⟩ = some (.bool true) := bc BK274 1
          have hfz41_0 := blk_frozen BK274.out 0
          have hfz41_1 := blk_frozen BK274.out 1
          have p289 : 0 ≤ (x50_2 : Int) := of_decide_eq_true (by first | (with_reducible assumption) | assumption)
          have q289 : x50_2 < (x7_5.length : Int) := of_decide_eq_true (by first | (with_reducible assumption) | assumption)
          obtain ⟨ad289, e289, hx289_0⟩ := Kd.at_int (Kd.R_reads' HO_7.out).2.2 x50_2 p289 q289
          cases e289
          replace p289 := eq_true p289
          replace q289 := eq_true q289
          go_wp2_with (first | (go_at_call 91; (with_reducible refine (impl_Road_tour_3.calls 0 (wrap64 (a0_0 - (rd x7_5 x50_2))) t290 _ A38.out).mono ?_); rintro e w42 ⟨rfl, hb⟩; have n0_ := A_ (Kd.R_below (rq HO_7) hb); have n1_ := A_ (blk_below (bq BK274) hb); have n2_ := A_ (blk_below (bq BK275) hb); have n3_ := A_ (below_step (hq HB) hb); clear HO_7; clear BK274; clear BK275; clear HB; have HO_7 := n0_; have BK274 := n1_; have BK275 := n2_; have HB := n3_; clear n0_ n1_ n2_ n3_; (try clear hb); (try clear hb2); (try clear hk); (try clear hi)))
          repeat (go_quiet (first | (go_at_call 91; (with_reducible refine (impl_Road_tour_3.calls 0 (wrap64 (a0_0 - (rd x7_5 x50_2))) t290 _ A38.out).mono ?_); rintro e w42 ⟨rfl, hb⟩; have n0_ := A_ (Kd.R_below (rq HO_7) hb); have n1_ := A_ (blk_below (bq BK274) hb); have n2_ := A_ (blk_below (bq BK275) hb); have n3_ := A_ (below_step (hq HB) hb); clear HO_7; clear BK274; clear BK275; clear HB; have HO_7 := n0_; have BK274 := n1_; have BK275 := n2_; have HB := n3_; clear n0_ n1_ n2_ n3_; (try clear hb); (try clear hb2); (try clear hk); (try clear hi))); try go_wp2_with (first | (go_at_call 91; (with_reducible refine (impl_Road_tour_3.calls 0 (wrap64 (a0_0 - (rd x7_5 x50_2))) t290 _ A38.out).mono ?_); rintro e w42 ⟨rfl, hb⟩; have n0_ := A_ (Kd.R_below (rq HO_7) hb); have n1_ := A_ (blk_below (bq BK274) hb); have n2_ := A_ (blk_below (bq BK275) hb); have n3_ := A_ (below_step (hq HB) hb); clear HO_7; clear BK274; clear BK275; clear HB; have HO_7 := n0_; have BK274 := n1_; have BK275 := n2_; have HB := n3_; clear n0_ n1_ n2_ n3_; (try clear hb); (try clear hb2); (try clear hk); (try clear hi))))
          go_roundg k2
          case measure => have := HJ5.out; have := HK2.out; omega
          case rel => exact ⟨(ji39), (wrap64 (x50_2 + 1)), (by first | rfl | (simp; done) | (simp only [← hji39] <;> (first | rfl | simp)) | (simp [*]; done)), (by first | rfl | (simp; done) | (simp [*]; done)), H', ⟨by have := HJ5.out; have := HK2.out; omega⟩, ⟨rq HO_7⟩, ⟨bq BK274⟩, ⟨bq BK275⟩, ⟨hq HB⟩⟩
         ·
          rw [if_neg c37] at H
          exact absurd H (by simp)
        ·
         rw [if_neg c36] at H
         have c36b0 : decide (x50_2 < (x7_5.length : Int)) = false := decide_eq_false c36
         clear c36
         replace H := Option.bind_eq_some_iff.mp H
         obtain ⟨t291, A430, H⟩ := H
         replace H : (impl_Road_tour.l1 k2 x7_5 (mn x13_2 t291) (wrap64 ((x7_5.length : Int) + 1)) (wrap64 (x50_2 + 1)) a0_0 true) = some r := H
         have A43 := A_ A430
         clear A430
         obtain ⟨ji44, hji44⟩ : ∃ j_ : Int, (mn x13_2 t291) = j_ := ⟨_, rfl⟩
         replace H : (impl_Road_tour.l1 k2 x7_5 ji44 (wrap64 ((x7_5.length : Int) + 1)) (wrap64 (x50_2 + 1)) a0_0 true) = some r := by first | (rw [hji44] at H; exact H) | (simp only [hji44] at H ⊢; exact H)
         (try rw [hji44] at A43)
         have hji44_ : (if t291 < x13_2 then t291 else x13_2) = ji44 := hji44
         have H' := A_ H
         clear H
         go_wp2_with (first | (go_at_call 91; (with_reducible refine (impl_Road_tour_3.calls 0 0 t291 _ A43.out).mono ?_); rintro e w45 ⟨rfl, hb⟩; have n0_ := A_ (Kd.R_below (rq HO_7) hb); have n1_ := A_ (blk_below (bq BK274) hb); have n2_ := A_ (blk_below (bq BK275) hb); have n3_ := A_ (below_step (hq HB) hb); clear HO_7; clear BK274; clear BK275; clear HB; have HO_7 := n0_; have BK274 := n1_; have BK275 := n2_; have HB := n3_; clear n0_ n1_ n2_ n3_; (try clear hb); (try clear hb2); (try clear hk); (try clear hi)))
         repeat (go_quiet (first | (go_at_call 91; (with_reducible refine (impl_Road_tour_3.calls 0 0 t291 _ A43.out).mono ?_); rintro e w45 ⟨rfl, hb⟩; have n0_ := A_ (Kd.R_below (rq HO_7) hb); have n1_ := A_ (blk_below (bq BK274) hb); have n2_ := A_ (blk_below (bq BK275) hb); have n3_ := A_ (below_step (hq HB) hb); clear HO_7; clear BK274; clear BK275; clear HB; have HO_7 := n0_; have BK274 := n1_; have BK275 := n2_; have HB := n3_; clear n0_ n1_ n2_ n3_; (try clear hb); (try clear hb2); (try clear hk); (try clear hi))); try go_wp2_with (first | (go_at_call 91; (with_reducible refine (impl_Road_tour_3.calls 0 0 t291 _ A43.out).mono ?_); rintro e w45 ⟨rfl, hb⟩; have n0_ := A_ (Kd.R_below (rq HO_7) hb); have n1_ := A_ (blk_below (bq BK274) hb); have n2_ := A_ (blk_below (bq BK275) hb); have n3_ := A_ (below_step (hq HB) hb); clear HO_7; clear BK274; clear BK275; clear HB; have HO_7 := n0_; have BK274 := n1_; have BK275 := n2_; have HB := n3_; clear n0_ n1_ n2_ n3_; (try clear hb); (try clear hb2); (try clear hk); (try clear hi))))
         go_roundg k2
         case measure => have := HJ5.out; have := HK2.out; omega
         case rel => exact ⟨(ji44), (wrap64 (x50_2 + 1)), (by first | rfl | (simp; done) | (simp only [← hji44] <;> (first | rfl | simp)) | (simp [*]; done)), (by first | rfl | (simp; done) | (simp [*]; done)), H', ⟨by have := HJ5.out; have := HK2.out; omega⟩, ⟨rq HO_7⟩, ⟨bq BK274⟩, ⟨bq BK275⟩, ⟨hq HB⟩⟩
      ·
       rw [if_neg c21] at H
       have c21b0 : decide (x50_2 < (wrap64 ((x7_5.length : Int) + 1))) = false := decide_eq_false c21
       clear c21
       obtain rfl := Option.some.inj H
       go_wp2
       repeat (go_quiet (fail); try go_wp2)
       go_ret
       exact ⟨rt, hq HB⟩
   ·
    replace c17 := Bool.eq_false_iff.mpr c17
    subst c17
    have H1 : (impl_Road_tour.l0 kj5 0 0 x7_5 (x7_5.length : Int) 0) = some r := by rw [if_neg (show ¬ (false = true) by decide)] at H; exact H
    clear H
    have H := H1
    clear H1
    have H' := A_ H
    clear H
    have hnb46 := NB274_275.out
    have hnc46 := NB275_274.out
    have hcz47_0 : wc.cell? ⟨gb274, 0, none⟩ = some (.int .i64 a0_0) := bc BK274 0
    have hcz47_1 : wc.cell? ⟨gb274, 1, none⟩ = some (.bool false) := bc BK274 1
    have hfz47_0 := blk_frozen BK274.out 0
    have hfz47_1 := blk_frozen BK274.out 1
    obtain ⟨Ao48, co48, eo48⟩ := Kd.R_slice HO_7.out
    subst eo48
    go_wp2
    repeat (go_quiet (fail); try go_wp2)
    go_loopg [9, 10, 31] kj5 (fun kq v9 v10 v31 w' => ∃ (x9_2 : Int) (x10_2 : Int) (x31_2 : Int), v9 = .int .i64 x9_2 ∧ v10 = .int .i64 x10_2 ∧ v31 = .int .i64 x31_2 ∧ Aside0 (impl_Road_tour.l0 kq x9_2 x10_2 x7_5 (x7_5.length : Int) x31_2 = some r) ∧ Aside0 (kq ≤ kj5) ∧ Aside0 (Kd.R (Kd.int .i64) 3 w' w.heap.size (fun k_ => k_ ≠ gb275) (.slice Ao48 x7_5.length co48) x7_5) ∧ Aside0 (w'.heap[gb274]? = some (.cells #[.int .i64 a0_0, .bool false] 27 (0, 0))) ∧ Aside0 (w'.heap[gb275]? = some (.cells #[.int .i64 a1] 3 (0, 0))) ∧ Aside0 (Below w.heap.size w w'))
    case atStart => exact ⟨(0), (0), (0), (by first | rfl | (simp; done) | (simp [*]; done)), (by first | rfl | (simp; done) | (simp [*]; done)), (by first | rfl | (simp; done) | (simp [*]; done)), H', ⟨Nat.le_refl _⟩, ⟨rq HO_7⟩, ⟨bq BK274⟩, ⟨bq BK275⟩, ⟨hq HB⟩⟩
    case round =>
     clear H'
     try clear c1
     try clear c2
     try clear p2
     try clear q2
     try clear hx2
     try clear c3
     try clear c4
     try clear c6
     try clear p6
     try clear c12
     try clear c14
     try clear c17
     try clear c18
     try clear c21
     try clear c21b0
     try clear c22
     try clear c22b0
     try clear c24
     try clear c24b0
     try clear c25
     try clear c25b0
     try clear c26
     try clear c26b0
     try clear c27
     try clear c27b0
     try clear p28
     try clear q28
     try clear hx28
     try clear c30
     try clear c36
     try clear c36b0
     try clear c37
     try clear c37b0
     try clear c40
     try clear c46
     try clear hcz13_0
     try clear hcz13_1
     try clear hcz19_0
     try clear hcz19_1
     try clear hcz31_0
     try clear hcz31_1
     try clear hcz41_0
     try clear hcz41_1
     try clear hcz47_0
     try clear hcz47_1
     try clear hfz13_0
     try clear hfz13_1
     try clear hfz19_0
     try clear hfz19_1
     try clear hfz31_0
     try clear hfz31_1
     try clear hfz41_0
     try clear hfz41_1
     try clear hfz47_0
     try clear hfz47_1
     try clear hx285_0
     try clear hx286_0
     try clear hx289_0
     try clear p2
     try clear p285
     try clear p286
     try clear p289
     try clear p6
     try clear q285
     try clear q286
     try clear q289
     obtain ⟨x9_2, x10_2, x31_2, rfl, rfl, rfl, HA, HK2, HO_29, BK274, BK275, HB⟩ := hrel
     cases gk with
     | zero => exact absurd HA.out (by simp [impl_Road_tour.l0])
     | succ k2 =>
      have H := HA.out
      clear HA
      simp only [impl_Road_tour.l0] at H
      by_cases c49 : x31_2 < (x7_5.length : Int)
      ·
       rw [if_pos c49] at H
       have c49b0 : decide (x31_2 < (x7_5.length : Int)) = true := decide_eq_true c49
       clear c49
       by_cases c50 : 0 ≤ x31_2
       ·
        rw [if_pos c50] at H
        have c50b0 : decide (0 ≤ x31_2) = true := decide_eq_true c50
        clear c50
        by_cases c51 : x31_2 < (x7_5.length : Int)
        ·
         rw [if_pos c51] at H
         have c51b0 : decide (x31_2 < (x7_5.length : Int)) = true := decide_eq_true c51
         clear c51
         obtain ⟨ji52, hji52⟩ : ∃ j_ : Int, (mx x9_2 (rd x7_5 x31_2)) = j_ := ⟨_, rfl⟩
         replace H : (impl_Road_tour.l0 k2 ji52 (mx x10_2 (wrap64 (-(rd x7_5 x31_2)))) x7_5 (x7_5.length : Int) (wrap64 (x31_2 + 1))) = some r := by first | (rw [hji52] at H; exact H) | (simp only [hji52] at H ⊢; exact H)
         have hji52_ : (if x9_2 < (rd x7_5 x31_2) then (rd x7_5 x31_2) else x9_2) = ji52 := hji52
         obtain ⟨ji53, hji53⟩ : ∃ j_ : Int, (mx x10_2 (wrap64 (-(rd x7_5 x31_2)))) = j_ := ⟨_, rfl⟩
         replace H : (impl_Road_tour.l0 k2 ji52 ji53 x7_5 (x7_5.length : Int) (wrap64 (x31_2 + 1))) = some r := by first | (rw [hji53] at H; exact H) | (simp only [hji53] at H ⊢; exact H)
         have hji53_ : (if x10_2 < (wrap64 (-(rd x7_5 x31_2))) then (wrap64 (-(rd x7_5 x31_2))) else x10_2) = ji53 := hji53
         have H' := A_ H
         clear H
         have p283 : 0 ≤ (x31_2 : Int) := of_decide_eq_true (by first | (with_reducible assumption) | assumption)
         have q283 : x31_2 < (x7_5.length : Int) := of_decide_eq_true (by first | (with_reducible assumption) | assumption)
         obtain ⟨ad283, e283, hx283_0⟩ := Kd.at_int (Kd.R_reads' HO_29.out).2.2 x31_2 p283 q283
         cases e283
         replace p283 := eq_true p283
         replace q283 := eq_true q283
         go_wp2
         repeat (go_quiet (fail); try go_wp2)
         go_roundg k2
         case measure => have := HJ5.out; have := HK2.out; omega
         case rel => exact ⟨(ji52), (ji53), (wrap64 (x31_2 + 1)), (by first | rfl | (simp; done) | (simp only [← hji52] <;> (first | rfl | simp)) | (simp [*]; done)), (by first | rfl | (simp; done) | (simp only [← hji53] <;> (first | rfl | simp)) | (simp [*]; done)), (by first | rfl | (simp; done) | (simp [*]; done)), H', ⟨by have := HJ5.out; have := HK2.out; omega⟩, ⟨rq HO_29⟩, ⟨bq BK274⟩, ⟨bq BK275⟩, ⟨hq HB⟩⟩
        ·
         rw [if_neg c51] at H
         exact absurd H (by simp)
       ·
        rw [if_neg c50] at H
        exact absurd H (by simp)
      ·
       rw [if_neg c49] at H
       have c49b0 : decide (x31_2 < (x7_5.length : Int)) = false := decide_eq_false c49
       clear c49
       replace H := Option.bind_eq_some_iff.mp H
       obtain ⟨t284, A540, H⟩ := H
       replace H : (some t284) = some r := H
       have A54 := A_ A540
       clear A540
       obtain rfl := Option.some.inj H
       go_wp2_with (first | (go_at_call 91; (with_reducible refine (impl_Road_tour_3.calls x9_2 x10_2 t284 _ A54.out).mono ?_); rintro e w55 ⟨rfl, hb⟩; have n0_ := A_ (Kd.R_below (rq HO_29) hb); have n1_ := A_ (blk_below (bq BK274) hb); have n2_ := A_ (blk_below (bq BK275) hb); have n3_ := A_ (below_step (hq HB) hb); clear HO_29; clear BK274; clear BK275; clear HB; have HO_29 := n0_; have BK274 := n1_; have BK275 := n2_; have HB := n3_; clear n0_ n1_ n2_ n3_; (try clear hb); (try clear hb2); (try clear hk); (try clear hi)))
       repeat (go_quiet (first | (go_at_call 91; (with_reducible refine (impl_Road_tour_3.calls x9_2 x10_2 t284 _ A54.out).mono ?_); rintro e w55 ⟨rfl, hb⟩; have n0_ := A_ (Kd.R_below (rq HO_29) hb); have n1_ := A_ (blk_below (bq BK274) hb); have n2_ := A_ (blk_below (bq BK275) hb); have n3_ := A_ (below_step (hq HB) hb); clear HO_29; clear BK274; clear BK275; clear HB; have HO_29 := n0_; have BK274 := n1_; have BK275 := n2_; have HB := n3_; clear n0_ n1_ n2_ n3_; (try clear hb); (try clear hb2); (try clear hk); (try clear hi))); try go_wp2_with (first | (go_at_call 91; (with_reducible refine (impl_Road_tour_3.calls x9_2 x10_2 t284 _ A54.out).mono ?_); rintro e w55 ⟨rfl, hb⟩; have n0_ := A_ (Kd.R_below (rq HO_29) hb); have n1_ := A_ (blk_below (bq BK274) hb); have n2_ := A_ (blk_below (bq BK275) hb); have n3_ := A_ (below_step (hq HB) hb); clear HO_29; clear BK274; clear BK275; clear HB; have HO_29 := n0_; have BK274 := n1_; have BK275 := n2_; have HB := n3_; clear n0_ n1_ n2_ n3_; (try clear hb); (try clear hb2); (try clear hk); (try clear hi))))
       go_ret
       exact ⟨rt, hq HB⟩

/-! ### impl_Road_runTime: function 51 -/
def impl_Road_runTime.f (k : Nat) (a0_0 : Int) (a0_1 : Bool) (a1 : Int) (a2 : Int) (a3 : Int) (a4 : Bool) : Option (Int) := if a4 = true then ((impl_Road_run.f k a0_0 a0_1 a2 a3).bind fun t293 => ((impl_Road_roundTrip.f k a0_0 a0_1 a1 t293).bind fun t296 => (some t296))) else ((impl_Road_run.f k a0_0 a0_1 a2 a3).bind fun t297 => ((impl_Road_tour.f k a0_0 a0_1 a1 t297).bind fun t300 => (some t300)))
theorem impl_Road_runTime.mono : ∀ a0 a1 a2 a3 a4 a5 k, LeO (impl_Road_runTime.f k a0 a1 a2 a3 a4 a5) (impl_Road_runTime.f (k + 1) a0 a1 a2 a3 a4 a5) := by
  intro a0 a1 a2 a3 a4 a5 k
  unfold impl_Road_runTime.f
  repeat' first
      | (with_reducible exact impl_Road_roundTrip.mono _ _ _ _ _)
      | (with_reducible exact impl_Road_run.mono _ _ _ _ _)
      | (with_reducible exact impl_Road_tour.mono _ _ _ _ _)
      | (with_reducible exact LeO.refl _)
      | (with_reducible exact LeO.none _)
      | (with_reducible refine LeO.ite ?_ ?_)
      | (with_reducible refine LeO.bind ?_ (fun _ => ?_))
      | exact impl_Road_roundTrip.mono _ _ _ _ _
      | exact impl_Road_run.mono _ _ _ _ _
      | exact impl_Road_tour.mono _ _ _ _ _
      | exact LeO.none _
      | refine LeO.ite ?_ ?_
      | refine LeO.bind ?_ (fun _ => ?_)
def impl_Road_runTime.T2 : Bool × List (List Nat × List Nat) := (true, [([], []), ([], []), ([], []), ([], []), ([], []), ([2, 3, 4], [2, 3, 4]), ([0, 1, 5, 5], [0, 1, 5]), ([6, 6, 0, 1, 2, 3, 4, 5, 6], [6])])
def impl_Road_runTime.B2 : List Nat := [0, 0, 0, 0, 0, 28, 63, 127]
theorem impl_Road_runTime.tab2 : rtab .any (opsOf Try.f51 2) = impl_Road_runTime.T2 := by kernel_rfl
theorem impl_Road_runTime.bits2 : waitsOk impl_Road_runTime.T2.2 impl_Road_runTime.B2 = true := by kernel_rfl
def impl_Road_runTime.T3 : Bool × List (List Nat × List Nat) := (true, [([], []), ([], []), ([], []), ([], []), ([], []), ([2, 3, 4], [2, 3, 4]), ([0, 1, 5, 5], [0, 1, 5]), ([6, 6, 0, 1, 2, 3, 4, 5, 6], [6])])
def impl_Road_runTime.B3 : List Nat := [0, 0, 0, 0, 0, 28, 63, 127]
theorem impl_Road_runTime.tab3 : rtab .any (opsOf Try.f51 3) = impl_Road_runTime.T3 := by kernel_rfl
theorem impl_Road_runTime.bits3 : waitsOk impl_Road_runTime.T3.2 impl_Road_runTime.B3 = true := by kernel_rfl
set_option maxHeartbeats 8000000 in
set_option maxRecDepth 100000 in
theorem impl_Road_runTime.calls (k : Nat) (a0_0 : Int) (a0_1 : Bool) (a1 : Int) (a2 : Int) (a3 : Int) (a4 : Bool) (r : Int) (w : World) (h : impl_Road_runTime.f k a0_0 a0_1 a1 a2 a3 a4 = some r) :
    Calls Try.prog 51 #[.agg #[.int .i64 a0_0, .bool a0_1], .int .i64 a1, .int .i64 a2, .int .i64 a3, .bool a4] w fun e w' => e = .returned (.int .i64 r) ∧ Below w.heap.size w w' := by
 have hu27 := Try.underlying27
 have HB := A_ (Below.refl w.heap.size w)
 have H : (if a4 = true then ((impl_Road_run.f k a0_0 a0_1 a2 a3).bind fun t293 => ((impl_Road_roundTrip.f k a0_0 a0_1 a1 t293).bind fun t296 => (some t296))) else ((impl_Road_run.f k a0_0 a0_1 a2 a3).bind fun t297 => ((impl_Road_tour.f k a0_0 a0_1 a1 t297).bind fun t300 => (some t300)))) = some r := h
 clear h
 by_cases c6 : a4 = true
 ·
  subst c6
  have H1 : ((impl_Road_run.f k a0_0 a0_1 a2 a3).bind fun t293 => ((impl_Road_roundTrip.f k a0_0 a0_1 a1 t293).bind fun t296 => (some t296))) = some r := by rw [if_pos rfl] at H; exact H
  clear H
  have H := H1
  clear H1
  replace H := Option.bind_eq_some_iff.mp H
  obtain ⟨t293, A70, H⟩ := H
  replace H : ((impl_Road_roundTrip.f k a0_0 a0_1 a1 t293).bind fun t296 => (some t296)) = some r := H
  have A7 := A_ A70
  clear A70
  replace H := Option.bind_eq_some_iff.mp H
  obtain ⟨t296, A80, H⟩ := H
  replace H : (some t296) = some r := H
  have A8 := A_ A80
  clear A80
  obtain rfl := Option.some.inj H
  go_enter Try.func51, Try.ntmps51
  try go_wp2_with (first | ((with_reducible refine gate_dst (N := 5) rfl ?_); refine box_event ?hg (N := 5) ?hd (cs := #[.int .i64 a0_0, .bool a0_1]) (t := 27) ?hr ?_; (case hd => rfl); (case hg => rfl); (case hr => first | (go_simp; done) | (go_simp; rfl)); intro gb292 hg w9 hbox hb; have n0_ := A_ (below_step (hq HB) hb); have n1_ := A_ (hbox); have n2_ := A_ ((by rw [hg]; exact (below_size (hq HB)) : w.heap.size ≤ gb292)); have n3_ := A_ ((by rw [hg]; exact (below_size (hq HB)) : w.heap.size ≤ gb292)); clear HB; have HB := n0_; have BK292 := n1_; have GW292 := n2_; have GE292 := n3_; clear n0_ n1_ n2_ n3_; clear hb hbox hg))
  have n0_ := A_ (blk_drew BK292.out)
  have n1_ := A_ (below_drew1 HB.out)
  clear BK292 HB; have BK292 := n0_; have HB := n1_; clear n0_ n1_
  refine start_ (n := 8) (S := fun w' => w'.cell? ⟨gb292, 0, none⟩ = some (.int .i64 a0_0) ∧ w'.cell? ⟨gb292, 1, none⟩ = some (.bool a0_1)) (ds := []) #[false, false, false, false, false, false, false, false] (by kernel_rfl) rfl rfl ⟨bc BK292 0, bc BK292 1⟩ (fun hHeld => ?_); refine with_tabW impl_Road_runTime.tab2 impl_Road_runTime.bits2 (fun HT_ HW_ => ?_)
  generalize w9.drew = w10 at BK292 HB hHeld ⊢
  refine pure_ (i := 1) (N := some 13) (v := ?_) (a' := ?_) #[false, true, false, false, false, false, false, false] rfl rfl (any_of HT_.out (by kernel_rfl)) (fun _ _ _ h => h) (Or.inl ⟨by rfl, ?_⟩) ?_ ?_
  rotate_left
  ·
   intro w'
   go_simp
   with_reducible rfl
  rotate_left
  ·
   simp only [Act.put, List.setIfInBounds_toArray, List.set_cons_zero, List.set_cons_succ, i64_w, i32_w]
   rfl
  refine pure_ (i := 3) (N := some 15) (v := ?_) (a' := ?_) #[false, true, false, true, false, false, false, false] rfl rfl (any_of HT_.out (by kernel_rfl)) (fun _ _ _ h => h) (Or.inl ⟨by rfl, ?_⟩) ?_ ?_
  rotate_left
  ·
   intro w'
   go_simp
   with_reducible rfl
  rotate_left
  ·
   simp only [Act.put, List.setIfInBounds_toArray, List.set_cons_zero, List.set_cons_succ, i64_w, i32_w]
   rfl
  refine pure_ (i := 4) (N := some 16) (v := ?_) (a' := ?_) #[false, true, false, true, true, false, false, false] rfl rfl (any_of HT_.out (by kernel_rfl)) (fun _ _ _ h => h) (Or.inl ⟨by rfl, ?_⟩) ?_ ?_
  rotate_left
  ·
   intro w'
   go_simp
   with_reducible rfl
  rotate_left
  ·
   simp only [Act.put, List.setIfInBounds_toArray, List.set_cons_zero, List.set_cons_succ, i64_w, i32_w]
   rfl
  refine take_ (i := 0) (N := some 12) (v := ?_) (a' := ?_) #[true, true, false, true, true, false, false, false] rfl rfl (take_ofW HT_.out HW_.out (by kernel_rfl)) (fun _ _ _ h => h) (Or.inl ⟨by rfl, ?_⟩) hHeld ?_ ?_
  rotate_left
  ·
   rintro w' ⟨s0, s1⟩
   go_simp
   with_reducible rfl
  rotate_left
  ·
   simp only [Act.put, List.setIfInBounds_toArray, List.set_cons_zero, List.set_cons_succ, i64_w, i32_w]
   rfl
  refine take_ (i := 2) (N := some 14) (v := ?_) (a' := ?_) #[true, true, true, true, true, false, false, false] rfl rfl (take_ofW HT_.out HW_.out (by kernel_rfl)) (fun _ _ _ h => h) (Or.inl ⟨by rfl, ?_⟩) hHeld ?_ ?_
  rotate_left
  ·
   rintro w' ⟨s0, s1⟩
   go_simp
   with_reducible rfl
  rotate_left
  ·
   simp only [Act.put, List.setIfInBounds_toArray, List.set_cons_zero, List.set_cons_succ, i64_w, i32_w]
   rfl
  refine one_ (i := 5) (N := some 17) #[true, true, true, true, true, true, false, false] rfl rfl (one_of HT_.out (by kernel_rfl)) (by decide) (fun K hK => ?_)
  refine goes_ Try.func65 (by kernel_rfl) rfl #[.agg #[.int .i64 a0_0, .bool a0_1], .int .i64 a2, .int .i64 a3] (by rfl) rfl rfl gq ?_
  with_reducible refine (impl_Road_run.calls k a0_0 a0_1 a2 a3 t293 _ A7.out).mono ?_
  rintro e w11 ⟨v294, rfl, ho0, hb⟩
  refine ⟨_, rfl, ?_⟩
  have n0_ := A_ (Kd.R_lower ho0 (below_size (hq HB)))
  have n1_ := A_ (blk_below (bq BK292) hb)
  have n2_ := A_ (below_step (hq HB) hb)
  clear BK292 HB; have HO295 := n0_; have BK292 := n1_; have HB := n2_; clear n0_ n1_ n2_; (try clear hb); (try clear hb2); (try clear hk); (try clear hi); (try clear ho0)
  obtain ⟨Ao12, co12, eo12⟩ := Kd.R_slice HO295.out
  (first | subst eo12 | (injection eo12 with f1_ f2_ f3_; have f4_ := f1_.symm; have f5_ := f3_.symm; clear f1_ f2_ f3_; subst f4_; subst f5_))
  refine hK.out _ _ ⟨bc BK292 0, bc BK292 1⟩ (fun hHeld => ?_)
  clear hK K
  refine norm_ (a' := ?_) ?_ ?_
  rotate_left
  ·
   exact pq (d := some 17)
  refine one_ (i := 6) (N := some 18) #[true, true, true, true, true, true, true, false] rfl rfl (one_of HT_.out (by kernel_rfl)) (by decide) (fun K hK => ?_)
  refine goes_ Try.func64 (by kernel_rfl) rfl #[.agg #[.int .i64 a0_0, .bool a0_1], .int .i64 a1, .slice Ao12 t293.length co12] (by rfl) rfl rfl gq ?_
  with_reducible refine (impl_Road_roundTrip.calls k a0_0 a0_1 a1 _ _ t293 t296 _ ?side1 ?side2 A8.out).mono ?_
  (case side1 => exact cq (Kd.R_reads' HO295.out).2.2)
  (case side2 => exact (Kd.R_reads' HO295.out).2.1)
  rintro e w13 ⟨rfl, hb⟩
  refine ⟨_, rfl, ?_⟩
  have n0_ := A_ (Kd.R_below (rq HO295) hb)
  have n1_ := A_ (blk_below (bq BK292) hb)
  have n2_ := A_ (below_step (hq HB) hb)
  clear HO295 BK292 HB; have HO295 := n0_; have BK292 := n1_; have HB := n2_; clear n0_ n1_ n2_; (try clear hb); (try clear hb2); (try clear hk); (try clear hi)
  refine hK.out _ _ ⟨bc BK292 0, bc BK292 1⟩ (fun hHeld => ?_)
  clear hK K
  refine norm_ (a' := ?_) ?_ ?_
  rotate_left
  ·
   exact pq (d := some 18)
  refine pure_ (i := 7) (N := some 10) (v := ?_) (a' := ?_) #[true, true, true, true, true, true, true, true] rfl rfl (any_of HT_.out (by kernel_rfl)) (fun _ _ _ h => h) (Or.inl ⟨by rfl, ?_⟩) ?_ ?_
  rotate_left
  ·
   intro w'
   go_simp
   with_reducible rfl
  rotate_left
  ·
   simp only [Act.put, List.setIfInBounds_toArray, List.set_cons_zero, List.set_cons_succ, i64_w, i32_w]
   rfl
  refine done_ (done_of HT_.out (by kernel_rfl)) ?_
  try go_wp2
  go_ret
  exact ⟨rt, hq HB⟩
 ·
  replace c6 := Bool.eq_false_iff.mpr c6
  subst c6
  have H1 : ((impl_Road_run.f k a0_0 a0_1 a2 a3).bind fun t297 => ((impl_Road_tour.f k a0_0 a0_1 a1 t297).bind fun t300 => (some t300))) = some r := by rw [if_neg (show ¬ (false = true) by decide)] at H; exact H
  clear H
  have H := H1
  clear H1
  replace H := Option.bind_eq_some_iff.mp H
  obtain ⟨t297, A140, H⟩ := H
  replace H : ((impl_Road_tour.f k a0_0 a0_1 a1 t297).bind fun t300 => (some t300)) = some r := H
  have A14 := A_ A140
  clear A140
  replace H := Option.bind_eq_some_iff.mp H
  obtain ⟨t300, A150, H⟩ := H
  replace H : (some t300) = some r := H
  have A15 := A_ A150
  clear A150
  obtain rfl := Option.some.inj H
  go_enter Try.func51, Try.ntmps51
  try go_wp2_with (first | ((with_reducible refine gate_dst (N := 5) rfl ?_); refine box_event ?hg (N := 5) ?hd (cs := #[.int .i64 a0_0, .bool a0_1]) (t := 27) ?hr ?_; (case hd => rfl); (case hg => rfl); (case hr => first | (go_simp; done) | (go_simp; rfl)); intro gb292 hg w16 hbox hb; have n0_ := A_ (below_step (hq HB) hb); have n1_ := A_ (hbox); have n2_ := A_ ((by rw [hg]; exact (below_size (hq HB)) : w.heap.size ≤ gb292)); have n3_ := A_ ((by rw [hg]; exact (below_size (hq HB)) : w.heap.size ≤ gb292)); clear HB; have HB := n0_; have BK292 := n1_; have GW292 := n2_; have GE292 := n3_; clear n0_ n1_ n2_ n3_; clear hb hbox hg))
  have n0_ := A_ (blk_drew BK292.out)
  have n1_ := A_ (below_drew1 HB.out)
  clear BK292 HB; have BK292 := n0_; have HB := n1_; clear n0_ n1_
  refine start_ (n := 8) (S := fun w' => w'.cell? ⟨gb292, 0, none⟩ = some (.int .i64 a0_0) ∧ w'.cell? ⟨gb292, 1, none⟩ = some (.bool a0_1)) (ds := []) #[false, false, false, false, false, false, false, false] (by kernel_rfl) rfl rfl ⟨bc BK292 0, bc BK292 1⟩ (fun hHeld => ?_); refine with_tabW impl_Road_runTime.tab3 impl_Road_runTime.bits3 (fun HT_ HW_ => ?_)
  generalize w16.drew = w17 at BK292 HB hHeld ⊢
  refine pure_ (i := 1) (N := some 20) (v := ?_) (a' := ?_) #[false, true, false, false, false, false, false, false] rfl rfl (any_of HT_.out (by kernel_rfl)) (fun _ _ _ h => h) (Or.inl ⟨by rfl, ?_⟩) ?_ ?_
  rotate_left
  ·
   intro w'
   go_simp
   with_reducible rfl
  rotate_left
  ·
   simp only [Act.put, List.setIfInBounds_toArray, List.set_cons_zero, List.set_cons_succ, i64_w, i32_w]
   rfl
  refine pure_ (i := 3) (N := some 22) (v := ?_) (a' := ?_) #[false, true, false, true, false, false, false, false] rfl rfl (any_of HT_.out (by kernel_rfl)) (fun _ _ _ h => h) (Or.inl ⟨by rfl, ?_⟩) ?_ ?_
  rotate_left
  ·
   intro w'
   go_simp
   with_reducible rfl
  rotate_left
  ·
   simp only [Act.put, List.setIfInBounds_toArray, List.set_cons_zero, List.set_cons_succ, i64_w, i32_w]
   rfl
  refine pure_ (i := 4) (N := some 23) (v := ?_) (a' := ?_) #[false, true, false, true, true, false, false, false] rfl rfl (any_of HT_.out (by kernel_rfl)) (fun _ _ _ h => h) (Or.inl ⟨by rfl, ?_⟩) ?_ ?_
  rotate_left
  ·
   intro w'
   go_simp
   with_reducible rfl
  rotate_left
  ·
   simp only [Act.put, List.setIfInBounds_toArray, List.set_cons_zero, List.set_cons_succ, i64_w, i32_w]
   rfl
  refine take_ (i := 0) (N := some 19) (v := ?_) (a' := ?_) #[true, true, false, true, true, false, false, false] rfl rfl (take_ofW HT_.out HW_.out (by kernel_rfl)) (fun _ _ _ h => h) (Or.inl ⟨by rfl, ?_⟩) hHeld ?_ ?_
  rotate_left
  ·
   rintro w' ⟨s0, s1⟩
   go_simp
   with_reducible rfl
  rotate_left
  ·
   simp only [Act.put, List.setIfInBounds_toArray, List.set_cons_zero, List.set_cons_succ, i64_w, i32_w]
   rfl
  refine take_ (i := 2) (N := some 21) (v := ?_) (a' := ?_) #[true, true, true, true, true, false, false, false] rfl rfl (take_ofW HT_.out HW_.out (by kernel_rfl)) (fun _ _ _ h => h) (Or.inl ⟨by rfl, ?_⟩) hHeld ?_ ?_
  rotate_left
  ·
   rintro w' ⟨s0, s1⟩
   go_simp
   with_reducible rfl
  rotate_left
  ·
   simp only [Act.put, List.setIfInBounds_toArray, List.set_cons_zero, List.set_cons_succ, i64_w, i32_w]
   rfl
  refine one_ (i := 5) (N := some 24) #[true, true, true, true, true, true, false, false] rfl rfl (one_of HT_.out (by kernel_rfl)) (by decide) (fun K hK => ?_)
  refine goes_ Try.func65 (by kernel_rfl) rfl #[.agg #[.int .i64 a0_0, .bool a0_1], .int .i64 a2, .int .i64 a3] (by rfl) rfl rfl gq ?_
  with_reducible refine (impl_Road_run.calls k a0_0 a0_1 a2 a3 t297 _ A14.out).mono ?_
  rintro e w18 ⟨v298, rfl, ho0, hb⟩
  refine ⟨_, rfl, ?_⟩
  have n0_ := A_ (Kd.R_lower ho0 (below_size (hq HB)))
  have n1_ := A_ (blk_below (bq BK292) hb)
  have n2_ := A_ (below_step (hq HB) hb)
  clear BK292 HB; have HO299 := n0_; have BK292 := n1_; have HB := n2_; clear n0_ n1_ n2_; (try clear hb); (try clear hb2); (try clear hk); (try clear hi); (try clear ho0)
  obtain ⟨Ao19, co19, eo19⟩ := Kd.R_slice HO299.out
  (first | subst eo19 | (injection eo19 with f1_ f2_ f3_; have f4_ := f1_.symm; have f5_ := f3_.symm; clear f1_ f2_ f3_; subst f4_; subst f5_))
  refine hK.out _ _ ⟨bc BK292 0, bc BK292 1⟩ (fun hHeld => ?_)
  clear hK K
  refine norm_ (a' := ?_) ?_ ?_
  rotate_left
  ·
   exact pq (d := some 24)
  refine one_ (i := 6) (N := some 25) #[true, true, true, true, true, true, true, false] rfl rfl (one_of HT_.out (by kernel_rfl)) (by decide) (fun K hK => ?_)
  refine goes_ Try.func66 (by kernel_rfl) rfl #[.agg #[.int .i64 a0_0, .bool a0_1], .int .i64 a1, .slice Ao19 t297.length co19] (by rfl) rfl rfl gq ?_
  with_reducible refine (impl_Road_tour.calls k a0_0 a0_1 a1 _ _ t297 t300 _ ?side1 ?side2 A15.out).mono ?_
  (case side1 => exact cq (Kd.R_reads' HO299.out).2.2)
  (case side2 => exact (Kd.R_reads' HO299.out).2.1)
  rintro e w20 ⟨rfl, hb⟩
  refine ⟨_, rfl, ?_⟩
  have n0_ := A_ (Kd.R_below (rq HO299) hb)
  have n1_ := A_ (blk_below (bq BK292) hb)
  have n2_ := A_ (below_step (hq HB) hb)
  clear HO299 BK292 HB; have HO299 := n0_; have BK292 := n1_; have HB := n2_; clear n0_ n1_ n2_; (try clear hb); (try clear hb2); (try clear hk); (try clear hi)
  refine hK.out _ _ ⟨bc BK292 0, bc BK292 1⟩ (fun hHeld => ?_)
  clear hK K
  refine norm_ (a' := ?_) ?_ ?_
  rotate_left
  ·
   exact pq (d := some 25)
  refine pure_ (i := 7) (N := some 10) (v := ?_) (a' := ?_) #[true, true, true, true, true, true, true, true] rfl rfl (any_of HT_.out (by kernel_rfl)) (fun _ _ _ h => h) (Or.inl ⟨by rfl, ?_⟩) ?_ ?_
  rotate_left
  ·
   intro w'
   go_simp
   with_reducible rfl
  rotate_left
  ·
   simp only [Act.put, List.setIfInBounds_toArray, List.set_cons_zero, List.set_cons_succ, i64_w, i32_w]
   rfl
  refine done_ (done_of HT_.out (by kernel_rfl)) ?_
  try go_wp2
  go_ret
  exact ⟨rt, hq HB⟩

end Go.Proofs.Ythnaghigpgfchaa.PFnExactTakenRuns
