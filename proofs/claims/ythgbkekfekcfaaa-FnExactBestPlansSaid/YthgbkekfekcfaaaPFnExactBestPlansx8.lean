-- Told shorter still by shrink2.py.
-- Printed, and told shorter by this session's program shrink.py.
-- Printed by this session's program myprint.py.
import Derived.Test.YthgbkekfekcfaaaPFnExactBestPlansx0
import Derived.Test.YthgbkekfekcfaaaPFnExactBestPlansx5
import Derived.Test.YthgbkekfekcfaaaPFnExactBestPlansx7
namespace Go.Proofs.Ythgbkekfekcfaaa.PFnExactBestPlans
open Go.RowKit Go.Proofs.Ythgbkekfekcfaaa.Own Go.Proofs.YthgbkekfekcfaaaW.PrintWords Go.Proofs.YthgbkekfekcfaaaW.PrintLast Go.Proofs.YthgbkekfekcfaaaW.PrintMore
attribute [local go_sem] max2_int min2_int max_two min_two max_three min_three max_four min_four   -- for this text's walks alone
set_option linter.unusedVariables false
set_option linter.unusedSimpArgs false

/-! ### impl_Road_worstMeet: function 34 -/
def impl_Road_worstMeet.f (k : Nat) (a0_0 : Int) (a0_1 : Bool) (a1_0 : Int) (a1_1 : Int) (a1_2 : Int) (l1_3 : List Int) (a2_0 : Int) (a2_1 : Int) (a2_2 : Int) (l2_3 : List Int) : Option (Int) := (impl_Road_table.f k a0_0 a0_1 a1_0 a1_1 a1_2 l1_3 a2_0 a2_1 a2_2 l2_3).bind fun t371 => ((slices_Concat_int_int.f k t371).bind fun t374 => ((slices_Contains_int_int.f k t374 (-1)).bind fun t377 => (if t377 = true then (some (-1)) else ((slices_Max_int_int.f k t374).bind fun t378 => (some t378)))))
theorem impl_Road_worstMeet.mono : ∀ a0 a1 a2 a3 a4 a5 a6 a7 a8 a9 k, LeO (impl_Road_worstMeet.f k a0 a1 a2 a3 a4 a5 a6 a7 a8 a9) (impl_Road_worstMeet.f (k + 1) a0 a1 a2 a3 a4 a5 a6 a7 a8 a9) := by
  intro a0 a1 a2 a3 a4 a5 a6 a7 a8 a9 k
  unfold impl_Road_worstMeet.f
  repeat' first
      | (with_reducible exact impl_Road_table.mono _ _ _ _ _ _ _ _ _ _ _)
      | (with_reducible exact slices_Concat_int_int.mono _ _)
      | (with_reducible exact slices_Contains_int_int.mono _ _ _)
      | (with_reducible exact slices_Max_int_int.mono _ _)
      | (with_reducible exact LeO.refl _)
      | (with_reducible exact LeO.none _)
      | (with_reducible refine LeO.ite ?_ ?_)
      | (with_reducible refine LeO.bind ?_ (fun _ => ?_))
      | exact impl_Road_table.mono _ _ _ _ _ _ _ _ _ _ _
      | exact slices_Concat_int_int.mono _ _
      | exact slices_Contains_int_int.mono _ _ _
      | exact slices_Max_int_int.mono _ _
      | exact LeO.none _
      | refine LeO.ite ?_ ?_
      | refine LeO.bind ?_ (fun _ => ?_)
set_option maxHeartbeats 8000000 in
set_option maxRecDepth 100000 in
theorem impl_Road_worstMeet.calls (k : Nat) (a0_0 : Int) (a0_1 : Bool) (a1_0 : Int) (a1_1 : Int) (a1_2 : Int) (A1_3 : Option Addr) (c1_3 : Nat) (l1_3 : List Int) (a2_0 : Int) (a2_1 : Int) (a2_2 : Int) (A2_3 : Option Addr) (c2_3 : Nat) (l2_3 : List Int) (r : Int) (w : World) (hr1_3 : Kd.C (Kd.int .i64) w A1_3 l1_3.length l1_3) (hc1_3 : l1_3.length ≤ c1_3) (hr2_3 : Kd.C (Kd.int .i64) w A2_3 l2_3.length l2_3) (hc2_3 : l2_3.length ≤ c2_3) (h : impl_Road_worstMeet.f k a0_0 a0_1 a1_0 a1_1 a1_2 l1_3 a2_0 a2_1 a2_2 l2_3 = some r) :
    Calls Try.prog 34 #[.agg #[.int .i64 a0_0, .bool a0_1], .agg #[.int .i64 a1_0, .int .i64 a1_1, .int .i64 a1_2, .slice A1_3 l1_3.length c1_3], .agg #[.int .i64 a2_0, .int .i64 a2_1, .int .i64 a2_2, .slice A2_3 l2_3.length c2_3]] w fun e w' => e = .returned (.int .i64 r) ∧ Below w.heap.size w w' := by
 have hu27 := Try.underlying27; have hu52 := Try.underlying52; have HR1_3 := A_ hr1_3; have HC1_3 := A_ hc1_3; clear hr1_3 hc1_3; have HR2_3 := A_ hr2_3; have HC2_3 := A_ hc2_3; clear hr2_3 hc2_3; have HB := A_ (Below.refl w.heap.size w); have H : ((impl_Road_table.f k a0_0 a0_1 a1_0 a1_1 a1_2 l1_3 a2_0 a2_1 a2_2 l2_3).bind fun t371 => ((slices_Concat_int_int.f k t371).bind fun t374 => ((slices_Contains_int_int.f k t374 (-1)).bind fun t377 => (if t377 = true then (some (-1)) else ((slices_Max_int_int.f k t374).bind fun t378 => (some t378)))))) = some r := h; clear h; replace H := bm H; obtain ⟨t371, A4, H⟩ := H; replace H := bm H; obtain ⟨t374, A5, H⟩ := H; replace H := bm H; obtain ⟨t377, A6, H⟩ := H; by_cases c7 : t377 = true
 ·
  subst c7
  have H1 : (some (-1)) = some r := by rw [if_pos rfl] at H; exact H
  clear H; have H := H1; clear H1; obtain rfl := Option.some.inj H; go_enter Try.func34, Try.ntmps34
  go_wp2_with (first | ((with_reducible refine gate_dst (N := 3) rfl ?_); refine bx (N := 3) #[.int .i64 a0_0, .bool a0_1] 27 ?_; intro gb368 hg w8 hbox hb; have BK368 := A_ (hbox); have GW368 := A_ (bs hg (hq HB) : w.heap.size ≤ gb368); have GE368 := A_ (bs hg (hq HB) : w.heap.size ≤ gb368); replace HB := A_ (below_step (hq HB) hb); clear hb hbox hg) | ((with_reducible refine gate_dst (N := 4) rfl ?_); refine bx (N := 4) #[.int .i64 a1_0, .int .i64 a1_1, .int .i64 a1_2, .slice A1_3 l1_3.length c1_3] 52 ?_; intro gb369 hg w9 hbox hb; have BK369 := A_ (hbox); have GW369 := A_ (bs hg (hq HB) : w.heap.size ≤ gb369); have GE369 := A_ (bs hg (hq HB) : w.heap.size ≤ gb369); replace HB := A_ (below_step (hq HB) hb); have NB368_369 := A_ ((by rw [hg]; exact Nat.ne_of_lt (blk_lt (bq BK368)) : gb368 ≠ gb369)); have NB369_368 := A_ ((by rw [hg]; exact Nat.ne_of_gt (blk_lt (bq BK368)) : gb369 ≠ gb368)); replace BK368 := A_ (blk_below (bq BK368) hb); clear hb hbox hg) | ((with_reducible refine gate_dst (N := 5) rfl ?_); refine bx (N := 5) #[.int .i64 a2_0, .int .i64 a2_1, .int .i64 a2_2, .slice A2_3 l2_3.length c2_3] 52 ?_; intro gb370 hg w10 hbox hb; have BK370 := A_ (hbox); have GW370 := A_ (bs hg (hq HB) : w.heap.size ≤ gb370); have GE370 := A_ (bs hg (hq HB) : w.heap.size ≤ gb370); replace HB := A_ (below_step (hq HB) hb); have NB368_370 := A_ ((by rw [hg]; exact Nat.ne_of_lt (blk_lt (bq BK368)) : gb368 ≠ gb370)); have NB370_368 := A_ ((by rw [hg]; exact Nat.ne_of_gt (blk_lt (bq BK368)) : gb370 ≠ gb368)); replace BK368 := A_ (blk_below (bq BK368) hb); have NB369_370 := A_ ((by rw [hg]; exact Nat.ne_of_lt (blk_lt (bq BK369)) : gb369 ≠ gb370)); have NB370_369 := A_ ((by rw [hg]; exact Nat.ne_of_gt (blk_lt (bq BK369)) : gb370 ≠ gb369)); replace BK369 := A_ (blk_below (bq BK369) hb); clear hb hbox hg; have hnb11 := NB368_369.out; have hnc11 := NB369_368.out; have hnb12 := NB368_370.out; have hnc12 := NB370_368.out; have hcz13_0 : w10.cell? ⟨gb368, 0, none⟩ = some (.int .i64 a0_0) := bc BK368 0; have hcz13_1 : w10.cell? ⟨gb368, 1, none⟩ = some (.bool a0_1) := bc BK368 1; have hfz13_0 := blk_frozen BK368.out 0; have hfz13_1 := blk_frozen BK368.out 1; have hnb14 := NB369_370.out; have hnc14 := NB370_369.out; have hcz15_0 : w10.cell? ⟨gb369, 0, none⟩ = some (.int .i64 a1_0) := bc BK369 0; have hcz15_1 : w10.cell? ⟨gb369, 1, none⟩ = some (.int .i64 a1_1) := bc BK369 1; have hcz15_2 : w10.cell? ⟨gb369, 2, none⟩ = some (.int .i64 a1_2) := bc BK369 2; have hcz15_3 : w10.cell? ⟨gb369, 3, none⟩ = some (.slice A1_3 l1_3.length c1_3) := bc BK369 3; have hfz15_0 := blk_frozen BK369.out 0; have hfz15_1 := blk_frozen BK369.out 1; have hfz15_2 := blk_frozen BK369.out 2; have hfz15_3 := blk_frozen BK369.out 3; have hcz16_0 : w10.cell? ⟨gb370, 0, none⟩ = some (.int .i64 a2_0) := bc BK370 0; have hcz16_1 : w10.cell? ⟨gb370, 1, none⟩ = some (.int .i64 a2_1) := bc BK370 1; have hcz16_2 : w10.cell? ⟨gb370, 2, none⟩ = some (.int .i64 a2_2) := bc BK370 2; have hcz16_3 : w10.cell? ⟨gb370, 3, none⟩ = some (.slice A2_3 l2_3.length c2_3) := bc BK370 3; have hfz16_0 := blk_frozen BK370.out 0; have hfz16_1 := blk_frozen BK370.out 1; have hfz16_2 := blk_frozen BK370.out 2; have hfz16_3 := blk_frozen BK370.out 3) | ((with_reducible refine gate_callee (f := 55) rfl ?_); refine gL (some 11) Try.func55 #[.agg #[.int .i64 a0_0, .bool a0_1], .agg #[.int .i64 a1_0, .int .i64 a1_1, .int .i64 a1_2, .slice A1_3 l1_3.length c1_3], .agg #[.int .i64 a2_0, .int .i64 a2_1, .int .i64 a2_2, .slice A2_3 l2_3.length c2_3]] ?_; (with_reducible refine (impl_Road_table.calls k a0_0 a0_1 a1_0 a1_1 a1_2 _ _ l1_3 a2_0 a2_1 a2_2 _ _ l2_3 t371 _ ?side1 ?side2 ?side3 ?side4 A4.out).mono ?_); (case side1 => exact cq (Kd.C_below HR1_3.out HB.out)); (case side2 => exact HC1_3.out); (case side3 => exact cq (Kd.C_below HR2_3.out HB.out)); (case side4 => exact HC2_3.out); rintro e w17 ⟨v372, rfl, ho0, hb⟩; refine ⟨_, rfl, ?_⟩; have HO373 := A_ (Kd.S_lower ho0 (below_size (hq HB))); replace BK368 := A_ (blk_below (bq BK368) hb); replace BK369 := A_ (blk_below (bq BK369) hb); replace BK370 := A_ (blk_below (bq BK370) hb); replace HB := A_ (below_step (hq HB) hb); clear hb ho0; obtain ⟨Ao18, co18, eo18⟩ := Kd.S_slice HO373.out; subst eo18) | ((with_reducible refine gate_callee (f := 54) rfl ?_); refine gL (some 12) Try.func54 #[.slice Ao18 t371.length co18] ?_; (with_reducible refine (slices_Concat_int_int.calls k _ _ t371 t374 _ ?side1 ?side2 A5.out).mono ?_); (case side1 => exact cq (Kd.S_reads' HO373.out).2.2); (case side2 => exact (Kd.S_reads' HO373.out).2.1); rintro e w19 ⟨v375, rfl, ho0, hb⟩; refine ⟨_, rfl, ?_⟩; replace HO373 := A_ (Kd.S_elder' (sq HO373) (Kd.R_base ho0) hb); have HO376 := A_ (Kd.R_lower ho0 (below_size (hq HB))); replace BK368 := A_ (blk_below (bq BK368) hb); replace BK369 := A_ (blk_below (bq BK369) hb); replace BK370 := A_ (blk_below (bq BK370) hb); replace HB := A_ (below_step (hq HB) hb); clear hb ho0; obtain ⟨Ao20, co20, eo20⟩ := Kd.R_slice HO376.out; subst eo20) | ((with_reducible refine gate_callee (f := 56) rfl ?_); refine gL (some 14) Try.func56 #[.slice Ao20 t374.length co20, .int .i64 (-1)] ?_; (with_reducible refine (slices_Contains_int_int.calls k _ _ t374 (-1) true _ ?side1 ?side2 A6.out).mono ?_); (case side1 => exact cq (Kd.R_reads' HO376.out).2.2); (case side2 => exact (Kd.R_reads' HO376.out).2.1); rintro e w' ⟨rfl, ⟨nd, rfl⟩⟩; refine ⟨_, rfl, ?_⟩))
  go_ret
  exact ⟨rt, hq HB⟩
 ·
  replace c7 := Bool.eq_false_iff.mpr c7; subst c7
  have H1 : ((slices_Max_int_int.f k t374).bind fun t378 => (some t378)) = some r := by rw [if_neg (show ¬ (false = true) by decide)] at H; exact H
  clear H; have H := H1; clear H1; replace H := bm H; obtain ⟨t378, A21, H⟩ := H; obtain rfl := Option.some.inj H; go_enter Try.func34, Try.ntmps34
  go_wp2_with (first | ((with_reducible refine gate_dst (N := 3) rfl ?_); refine bx (N := 3) #[.int .i64 a0_0, .bool a0_1] 27 ?_; intro gb368 hg w22 hbox hb; have BK368 := A_ (hbox); have GW368 := A_ (bs hg (hq HB) : w.heap.size ≤ gb368); have GE368 := A_ (bs hg (hq HB) : w.heap.size ≤ gb368); replace HB := A_ (below_step (hq HB) hb); clear hb hbox hg) | ((with_reducible refine gate_dst (N := 4) rfl ?_); refine bx (N := 4) #[.int .i64 a1_0, .int .i64 a1_1, .int .i64 a1_2, .slice A1_3 l1_3.length c1_3] 52 ?_; intro gb369 hg w23 hbox hb; have BK369 := A_ (hbox); have GW369 := A_ (bs hg (hq HB) : w.heap.size ≤ gb369); have GE369 := A_ (bs hg (hq HB) : w.heap.size ≤ gb369); replace HB := A_ (below_step (hq HB) hb); have NB368_369 := A_ ((by rw [hg]; exact Nat.ne_of_lt (blk_lt (bq BK368)) : gb368 ≠ gb369)); have NB369_368 := A_ ((by rw [hg]; exact Nat.ne_of_gt (blk_lt (bq BK368)) : gb369 ≠ gb368)); replace BK368 := A_ (blk_below (bq BK368) hb); clear hb hbox hg) | ((with_reducible refine gate_dst (N := 5) rfl ?_); refine bx (N := 5) #[.int .i64 a2_0, .int .i64 a2_1, .int .i64 a2_2, .slice A2_3 l2_3.length c2_3] 52 ?_; intro gb370 hg w24 hbox hb; have BK370 := A_ (hbox); have GW370 := A_ (bs hg (hq HB) : w.heap.size ≤ gb370); have GE370 := A_ (bs hg (hq HB) : w.heap.size ≤ gb370); replace HB := A_ (below_step (hq HB) hb); have NB368_370 := A_ ((by rw [hg]; exact Nat.ne_of_lt (blk_lt (bq BK368)) : gb368 ≠ gb370)); have NB370_368 := A_ ((by rw [hg]; exact Nat.ne_of_gt (blk_lt (bq BK368)) : gb370 ≠ gb368)); replace BK368 := A_ (blk_below (bq BK368) hb); have NB369_370 := A_ ((by rw [hg]; exact Nat.ne_of_lt (blk_lt (bq BK369)) : gb369 ≠ gb370)); have NB370_369 := A_ ((by rw [hg]; exact Nat.ne_of_gt (blk_lt (bq BK369)) : gb370 ≠ gb369)); replace BK369 := A_ (blk_below (bq BK369) hb); clear hb hbox hg; have hnb25 := NB368_369.out; have hnc25 := NB369_368.out; have hnb26 := NB368_370.out; have hnc26 := NB370_368.out; have hcz27_0 : w24.cell? ⟨gb368, 0, none⟩ = some (.int .i64 a0_0) := bc BK368 0; have hcz27_1 : w24.cell? ⟨gb368, 1, none⟩ = some (.bool a0_1) := bc BK368 1; have hfz27_0 := blk_frozen BK368.out 0; have hfz27_1 := blk_frozen BK368.out 1; have hnb28 := NB369_370.out; have hnc28 := NB370_369.out; have hcz29_0 : w24.cell? ⟨gb369, 0, none⟩ = some (.int .i64 a1_0) := bc BK369 0; have hcz29_1 : w24.cell? ⟨gb369, 1, none⟩ = some (.int .i64 a1_1) := bc BK369 1; have hcz29_2 : w24.cell? ⟨gb369, 2, none⟩ = some (.int .i64 a1_2) := bc BK369 2; have hcz29_3 : w24.cell? ⟨gb369, 3, none⟩ = some (.slice A1_3 l1_3.length c1_3) := bc BK369 3; have hfz29_0 := blk_frozen BK369.out 0; have hfz29_1 := blk_frozen BK369.out 1; have hfz29_2 := blk_frozen BK369.out 2; have hfz29_3 := blk_frozen BK369.out 3; have hcz30_0 : w24.cell? ⟨gb370, 0, none⟩ = some (.int .i64 a2_0) := bc BK370 0; have hcz30_1 : w24.cell? ⟨gb370, 1, none⟩ = some (.int .i64 a2_1) := bc BK370 1; have hcz30_2 : w24.cell? ⟨gb370, 2, none⟩ = some (.int .i64 a2_2) := bc BK370 2; have hcz30_3 : w24.cell? ⟨gb370, 3, none⟩ = some (.slice A2_3 l2_3.length c2_3) := bc BK370 3; have hfz30_0 := blk_frozen BK370.out 0; have hfz30_1 := blk_frozen BK370.out 1; have hfz30_2 := blk_frozen BK370.out 2; have hfz30_3 := blk_frozen BK370.out 3) | ((with_reducible refine gate_callee (f := 55) rfl ?_); refine gL (some 11) Try.func55 #[.agg #[.int .i64 a0_0, .bool a0_1], .agg #[.int .i64 a1_0, .int .i64 a1_1, .int .i64 a1_2, .slice A1_3 l1_3.length c1_3], .agg #[.int .i64 a2_0, .int .i64 a2_1, .int .i64 a2_2, .slice A2_3 l2_3.length c2_3]] ?_; (with_reducible refine (impl_Road_table.calls k a0_0 a0_1 a1_0 a1_1 a1_2 _ _ l1_3 a2_0 a2_1 a2_2 _ _ l2_3 t371 _ ?side1 ?side2 ?side3 ?side4 A4.out).mono ?_); (case side1 => exact cq (Kd.C_below HR1_3.out HB.out)); (case side2 => exact HC1_3.out); (case side3 => exact cq (Kd.C_below HR2_3.out HB.out)); (case side4 => exact HC2_3.out); rintro e w31 ⟨v372, rfl, ho0, hb⟩; refine ⟨_, rfl, ?_⟩; have HO373 := A_ (Kd.S_lower ho0 (below_size (hq HB))); replace BK368 := A_ (blk_below (bq BK368) hb); replace BK369 := A_ (blk_below (bq BK369) hb); replace BK370 := A_ (blk_below (bq BK370) hb); replace HB := A_ (below_step (hq HB) hb); clear hb ho0; obtain ⟨Ao32, co32, eo32⟩ := Kd.S_slice HO373.out; subst eo32) | ((with_reducible refine gate_callee (f := 54) rfl ?_); refine gL (some 12) Try.func54 #[.slice Ao32 t371.length co32] ?_; (with_reducible refine (slices_Concat_int_int.calls k _ _ t371 t374 _ ?side1 ?side2 A5.out).mono ?_); (case side1 => exact cq (Kd.S_reads' HO373.out).2.2); (case side2 => exact (Kd.S_reads' HO373.out).2.1); rintro e w33 ⟨v375, rfl, ho0, hb⟩; refine ⟨_, rfl, ?_⟩; replace HO373 := A_ (Kd.S_elder' (sq HO373) (Kd.R_base ho0) hb); have HO376 := A_ (Kd.R_lower ho0 (below_size (hq HB))); replace BK368 := A_ (blk_below (bq BK368) hb); replace BK369 := A_ (blk_below (bq BK369) hb); replace BK370 := A_ (blk_below (bq BK370) hb); replace HB := A_ (below_step (hq HB) hb); clear hb ho0; obtain ⟨Ao34, co34, eo34⟩ := Kd.R_slice HO376.out; subst eo34) | ((with_reducible refine gate_callee (f := 56) rfl ?_); refine gL (some 14) Try.func56 #[.slice Ao34 t374.length co34, .int .i64 (-1)] ?_; (with_reducible refine (slices_Contains_int_int.calls k _ _ t374 (-1) false _ ?side1 ?side2 A6.out).mono ?_); (case side1 => exact cq (Kd.R_reads' HO376.out).2.2); (case side2 => exact (Kd.R_reads' HO376.out).2.1); rintro e w' ⟨rfl, ⟨nd, rfl⟩⟩; refine ⟨_, rfl, ?_⟩) | ((with_reducible refine gate_callee (f := 57) rfl ?_); refine gL (some 16) Try.func57 #[.slice Ao34 t374.length co34] ?_; (with_reducible refine (slices_Max_int_int.calls k _ _ t374 t378 _ ?side1 ?side2 A21.out).mono ?_); (case side1 => exact cq (Kd.R_reads' HO376.out).2.2); (case side2 => exact (Kd.R_reads' HO376.out).2.1); rintro e w35 ⟨rfl, hb⟩; refine ⟨_, rfl, ?_⟩; replace HO373 := A_ (Kd.S_below (sq HO373) hb); replace HO376 := A_ (Kd.R_below (rq HO376) hb); replace BK368 := A_ (blk_below (bq BK368) hb); replace BK369 := A_ (blk_below (bq BK369) hb); replace BK370 := A_ (blk_below (bq BK370) hb); replace HB := A_ (below_step (hq HB) hb); clear hb))
  go_ret
  exact ⟨rt, hq HB⟩

/-! ### impl_BestPlans: printed by myprint.py (with FORCEN's N text), its rows of rows told as rows of the call's own: what is handed back is two rows of its own. Needs 33 31 32 34 -/
mutual
def impl_BestPlans.j0 : Nat → Int → Bool → Int → Bool → Option (List Int × List Int × Int × Bool)
  | 0, _, _, _, _ => none
  | k + 1, x1, x28, x380000, x380001 => if x28 = true then (some (([] : List Int), ([] : List Int), 0, false)) else ((impl_allMoves.f k x1).bind fun t382 => (impl_BestPlans.l0 k x1 ([] : List Int) ([] : List Int) (-1) t382 (t382.length : Int) 0 x380000 x380001))
def impl_BestPlans.l0 : Nat → Int → List Int → List Int → Int → List (List Int) → Int → Int → Int → Bool → Option (List Int × List Int × Int × Bool)
  | 0, _, _, _, _, _, _, _, _, _ => none
  | k + 1, x1, x8, x9, x10, x30, x31, x32, x380000, x380001 => if x32 < x31 then (if 0 ≤ x32 then (if x32 < (x30.length : Int) then ((impl_allMoves.f k x1).bind fun t386 => (impl_BestPlans.l1 k x1 x8 x9 x10 (rd_L1 x30 x32) x30 x31 x32 t386 (t386.length : Int) 0 x380000 x380001)) else (none)) else (none)) else (if x10 < 0 then (some (([] : List Int), ([] : List Int), 0, false)) else (some (x8, x9, x10, true)))
def impl_BestPlans.l1 : Nat → Int → List Int → List Int → Int → List Int → List (List Int) → Int → Int → List (List Int) → Int → Int → Int → Bool → Option (List Int × List Int × Int × Bool)
  | 0, _, _, _, _, _, _, _, _, _, _, _, _, _ => none
  | k + 1, x1, x8, x9, x10, x12, x30, x31, x32, x37, x38, x39, x380000, x380001 => if x39 < x38 then (if 0 ≤ x39 then (if x39 < (x37.length : Int) then ((impl_Road_worstMeet.f k x380000 x380001 0 1 0 x12 0 1 0 (rd_L1 x37 x39)).bind fun t390 => (if t390 ≥ 0 then (if x10 < 0 then (impl_BestPlans.l1 k x1 x12 (rd_L1 x37 x39) t390 x12 x30 x31 x32 x37 x38 (wrap64 (x39 + 1)) x380000 x380001) else (if t390 < x10 then (impl_BestPlans.l1 k x1 x12 (rd_L1 x37 x39) t390 x12 x30 x31 x32 x37 x38 (wrap64 (x39 + 1)) x380000 x380001) else (impl_BestPlans.l1 k x1 x8 x9 x10 x12 x30 x31 x32 x37 x38 (wrap64 (x39 + 1)) x380000 x380001))) else (impl_BestPlans.l1 k x1 x8 x9 x10 x12 x30 x31 x32 x37 x38 (wrap64 (x39 + 1)) x380000 x380001))) else (none)) else (none)) else (impl_BestPlans.l0 k x1 x8 x9 x10 x30 x31 (wrap64 (x32 + 1)) x380000 x380001)
end
def impl_BestPlans.f (k : Nat) (a0_0 : Int) (a0_1 : Bool) (a1 : Int) : Option (List Int × List Int × Int × Bool) := (impl_IsRoad.f a0_0 a0_1).bind fun t380 => (if t380 = true then (if a0_0 > 6 then (impl_BestPlans.j0 k a1 true a0_0 a0_1) else ((impl_within.f a1 1 3).bind fun t381 => (impl_BestPlans.j0 k a1 (!t381) a0_0 a0_1))) else (impl_BestPlans.j0 k a1 true a0_0 a0_1))
theorem impl_BestPlans.mono_l : ∀ k, (∀ y0 y1 y2 y3, LeO (impl_BestPlans.j0 k y0 y1 y2 y3) (impl_BestPlans.j0 (k + 1) y0 y1 y2 y3)) ∧ (∀ y0 y1 y2 y3 y4 y5 y6 y7 y8, LeO (impl_BestPlans.l0 k y0 y1 y2 y3 y4 y5 y6 y7 y8) (impl_BestPlans.l0 (k + 1) y0 y1 y2 y3 y4 y5 y6 y7 y8)) ∧ (∀ y0 y1 y2 y3 y4 y5 y6 y7 y8 y9 y10 y11 y12, LeO (impl_BestPlans.l1 k y0 y1 y2 y3 y4 y5 y6 y7 y8 y9 y10 y11 y12) (impl_BestPlans.l1 (k + 1) y0 y1 y2 y3 y4 y5 y6 y7 y8 y9 y10 y11 y12))
  | 0 => ⟨fun _ _ _ _ r h => by simp [impl_BestPlans.j0] at h, fun _ _ _ _ _ _ _ _ _ r h => by simp [impl_BestPlans.l0] at h, fun _ _ _ _ _ _ _ _ _ _ _ _ _ r h => by simp [impl_BestPlans.l1] at h⟩
  | k + 1 => by
    obtain ⟨ih0, ih1, ih2⟩ := impl_BestPlans.mono_l k
    refine ⟨?_, ?_, ?_⟩
    · intro y0 y1 y2 y3
      unfold impl_BestPlans.j0
      repeat' first
      | (with_reducible exact ih0 _ _ _ _)
      | (with_reducible exact ih1 _ _ _ _ _ _ _ _ _)
      | (with_reducible exact ih2 _ _ _ _ _ _ _ _ _ _ _ _ _)
      | (with_reducible exact impl_Road_worstMeet.mono _ _ _ _ _ _ _ _ _ _ _)
      | (with_reducible exact impl_allMoves.mono _ _)
      | (with_reducible exact LeO.refl _)
      | (with_reducible exact LeO.none _)
      | (with_reducible refine LeO.ite ?_ ?_)
      | (with_reducible refine LeO.bind ?_ (fun _ => ?_))
      | exact ih0 _ _ _ _
      | exact ih1 _ _ _ _ _ _ _ _ _
      | exact ih2 _ _ _ _ _ _ _ _ _ _ _ _ _
      | exact impl_Road_worstMeet.mono _ _ _ _ _ _ _ _ _ _ _
      | exact impl_allMoves.mono _ _
      | exact LeO.none _
      | refine LeO.ite ?_ ?_
      | refine LeO.bind ?_ (fun _ => ?_)
    · intro y0 y1 y2 y3 y4 y5 y6 y7 y8
      unfold impl_BestPlans.l0
      repeat' first
      | (with_reducible exact ih0 _ _ _ _)
      | (with_reducible exact ih1 _ _ _ _ _ _ _ _ _)
      | (with_reducible exact ih2 _ _ _ _ _ _ _ _ _ _ _ _ _)
      | (with_reducible exact impl_Road_worstMeet.mono _ _ _ _ _ _ _ _ _ _ _)
      | (with_reducible exact impl_allMoves.mono _ _)
      | (with_reducible exact LeO.refl _)
      | (with_reducible exact LeO.none _)
      | (with_reducible refine LeO.ite ?_ ?_)
      | (with_reducible refine LeO.bind ?_ (fun _ => ?_))
      | exact ih0 _ _ _ _
      | exact ih1 _ _ _ _ _ _ _ _ _
      | exact ih2 _ _ _ _ _ _ _ _ _ _ _ _ _
      | exact impl_Road_worstMeet.mono _ _ _ _ _ _ _ _ _ _ _
      | exact impl_allMoves.mono _ _
      | exact LeO.none _
      | refine LeO.ite ?_ ?_
      | refine LeO.bind ?_ (fun _ => ?_)
    · intro y0 y1 y2 y3 y4 y5 y6 y7 y8 y9 y10 y11 y12
      unfold impl_BestPlans.l1
      repeat' first
      | (with_reducible exact ih0 _ _ _ _)
      | (with_reducible exact ih1 _ _ _ _ _ _ _ _ _)
      | (with_reducible exact ih2 _ _ _ _ _ _ _ _ _ _ _ _ _)
      | (with_reducible exact impl_Road_worstMeet.mono _ _ _ _ _ _ _ _ _ _ _)
      | (with_reducible exact impl_allMoves.mono _ _)
      | (with_reducible exact LeO.refl _)
      | (with_reducible exact LeO.none _)
      | (with_reducible refine LeO.ite ?_ ?_)
      | (with_reducible refine LeO.bind ?_ (fun _ => ?_))
      | exact ih0 _ _ _ _
      | exact ih1 _ _ _ _ _ _ _ _ _
      | exact ih2 _ _ _ _ _ _ _ _ _ _ _ _ _
      | exact impl_Road_worstMeet.mono _ _ _ _ _ _ _ _ _ _ _
      | exact impl_allMoves.mono _ _
      | exact LeO.none _
      | refine LeO.ite ?_ ?_
      | refine LeO.bind ?_ (fun _ => ?_)
theorem impl_BestPlans.mono : ∀ a0 a1 a2 k, LeO (impl_BestPlans.f k a0 a1 a2) (impl_BestPlans.f (k + 1) a0 a1 a2) := by
  intro a0 a1 a2 k
  obtain ⟨ih0, ih1, ih2⟩ := impl_BestPlans.mono_l k
  unfold impl_BestPlans.f
  repeat' first
      | (with_reducible exact ih0 _ _ _ _)
      | (with_reducible exact ih1 _ _ _ _ _ _ _ _ _)
      | (with_reducible exact ih2 _ _ _ _ _ _ _ _ _ _ _ _ _)
      | (with_reducible exact impl_Road_worstMeet.mono _ _ _ _ _ _ _ _ _ _ _)
      | (with_reducible exact impl_allMoves.mono _ _)
      | (with_reducible exact LeO.refl _)
      | (with_reducible exact LeO.none _)
      | (with_reducible refine LeO.ite ?_ ?_)
      | (with_reducible refine LeO.bind ?_ (fun _ => ?_))
      | exact ih0 _ _ _ _
      | exact ih1 _ _ _ _ _ _ _ _ _
      | exact ih2 _ _ _ _ _ _ _ _ _ _ _ _ _
      | exact impl_Road_worstMeet.mono _ _ _ _ _ _ _ _ _ _ _
      | exact impl_allMoves.mono _ _
      | exact LeO.none _
      | refine LeO.ite ?_ ?_
      | refine LeO.bind ?_ (fun _ => ?_)
set_option maxHeartbeats 8000000 in
set_option maxRecDepth 100000 in
theorem impl_BestPlans.calls (k : Nat) (a0_0 : Int) (a0_1 : Bool) (a1 : Int) (r1 : List Int) (r2 : List Int) (r3 : Int) (r4 : Bool) (w : World) (h : impl_BestPlans.f k a0_0 a0_1 a1 = some (r1, r2, r3, r4)) :
    Calls Try.prog 9 #[.agg #[.int .i64 a0_0, .bool a0_1], .int .i64 a1] w fun e w' => ∃ v0_ v1_ : Value, e = .returned (.tuple #[v0_, v1_, .int .i64 r3, .bool r4]) ∧ Kd.R (Kd.int .i64) 3 w' w.heap.size (fun k_ => some k_ ≠ (v1_ : Value).ownBlock) v0_ r1 ∧ Kd.R (Kd.int .i64) 3 w' w.heap.size (fun k_ => some k_ ≠ (v0_ : Value).ownBlock) v1_ r2 ∧ Below w.heap.size w w' := by
 have hu27 := Try.underlying27; have hu52 := Try.underlying52; have HB := A_ (Below.refl w.heap.size w); have H : ((impl_IsRoad.f a0_0 a0_1).bind fun t380 => (if t380 = true then (if a0_0 > 6 then (impl_BestPlans.j0 k a1 true a0_0 a0_1) else ((impl_within.f a1 1 3).bind fun t381 => (impl_BestPlans.j0 k a1 (!t381) a0_0 a0_1))) else (impl_BestPlans.j0 k a1 true a0_0 a0_1))) = some (r1, r2, r3, r4) := h; clear h; have HC3 := A_ H; clear H; go_enter Try.func9, Try.ntmps9
 go_upto_region 1 with (first | ((with_reducible refine gate_dst (N := 2) rfl ?_); refine bx (N := 2) #[.int .i64 a0_0, .bool a0_1] 27 ?_; intro gb379 hg w4 hbox hb; have BK379 := A_ (hbox); have GW379 := A_ (bs hg (hq HB) : w.heap.size ≤ gb379); have GE379 := A_ (bs hg (hq HB) : w.heap.size ≤ gb379); replace HB := A_ (below_step (hq HB) hb); clear hb hbox hg))
 (try simp only [Act.put, List.setIfInBounds_toArray, List.set_cons_zero, List.set_cons_succ]); go_cut [28] (fun v28 wc => ∃ (kq : Nat) (x28_2 : Bool), v28 = .bool x28_2 ∧ Aside0 (impl_BestPlans.j0 kq a1 x28_2 a0_0 a0_1 = some (r1, r2, r3, r4)) ∧ Aside0 (kq ≤ k) ∧ Aside0 (wc.heap[gb379]? = some (.cells #[.int .i64 a0_0, .bool a0_1] 27 (0, 0))) ∧ Aside0 (Below w.heap.size w wc))
 case first =>
  have H := HC3.out; clear HC3; replace H := bm H; obtain ⟨t380, A5, H⟩ := H; by_cases c6 : t380 = true
  ·
   subst c6
   have H1 : (if a0_0 > 6 then (impl_BestPlans.j0 k a1 true a0_0 a0_1) else ((impl_within.f a1 1 3).bind fun t381 => (impl_BestPlans.j0 k a1 (!t381) a0_0 a0_1))) = some (r1, r2, r3, r4) := by rw [if_pos rfl] at H; exact H
   clear H; have H := H1; clear H1; by_cases c7 : a0_0 > 6
   ·
    rw [if_pos c7] at H; have c7b0 : decide (6 < a0_0) = true := decide_eq_true c7; clear c7; (first | rw [c7b0] | (simp only [i64_w, i32_w]; rw [c7b0]) | skip); have H' := A_ H; clear H; have hcz8_0 : w4.cell? ⟨gb379, 0, none⟩ = some (.int .i64 a0_0) := bc BK379 0; have hcz8_1 : w4.cell? ⟨gb379, 1, none⟩ = some (.bool a0_1) := bc BK379 1; have hfz8_0 := blk_frozen BK379.out 0; have hfz8_1 := blk_frozen BK379.out 1; go_wp2_with (first | ((with_reducible refine gate_callee (f := 31) rfl ?_); refine gL (some 17) Try.func31 #[.agg #[.int .i64 a0_0, .bool a0_1]] ?_; (with_reducible refine (impl_IsRoad.calls a0_0 a0_1 true _ A5.out).mono ?_); rintro e w9 ⟨rfl, hb⟩; refine ⟨_, rfl, ?_⟩; replace BK379 := A_ (blk_below (bq BK379) hb); replace HB := A_ (below_step (hq HB) hb); clear hb; have hcz10_0 : w9.cell? ⟨gb379, 0, none⟩ = some (.int .i64 a0_0) := bc BK379 0; have hcz10_1 : w9.cell? ⟨gb379, 1, none⟩ = some (.bool a0_1) := bc BK379 1; have hfz10_0 := blk_frozen BK379.out 0; have hfz10_1 := blk_frozen BK379.out 1))
    go_meet
    case rel => exact ⟨_, (true), rf, H', ⟨by first | omega | exact Nat.le_refl _⟩, ⟨bq BK379⟩, ⟨hq HB⟩⟩
   ·
    rw [if_neg c7] at H; have c7b0 : decide (6 < a0_0) = false := decide_eq_false c7; clear c7; (first | rw [c7b0] | (simp only [i64_w, i32_w]; rw [c7b0]) | skip); replace H := bm H; obtain ⟨t381, A11, H⟩ := H; have H' := A_ H; clear H; have hcz12_0 : w4.cell? ⟨gb379, 0, none⟩ = some (.int .i64 a0_0) := bc BK379 0; have hcz12_1 : w4.cell? ⟨gb379, 1, none⟩ = some (.bool a0_1) := bc BK379 1; have hfz12_0 := blk_frozen BK379.out 0; have hfz12_1 := blk_frozen BK379.out 1; go_wp2_with (first | ((with_reducible refine gate_callee (f := 31) rfl ?_); refine gL (some 17) Try.func31 #[.agg #[.int .i64 a0_0, .bool a0_1]] ?_; (with_reducible refine (impl_IsRoad.calls a0_0 a0_1 true _ A5.out).mono ?_); rintro e w13 ⟨rfl, hb⟩; refine ⟨_, rfl, ?_⟩; replace BK379 := A_ (blk_below (bq BK379) hb); replace HB := A_ (below_step (hq HB) hb); clear hb; have hcz14_0 : w13.cell? ⟨gb379, 0, none⟩ = some (.int .i64 a0_0) := bc BK379 0; have hcz14_1 : w13.cell? ⟨gb379, 1, none⟩ = some (.bool a0_1) := bc BK379 1; have hfz14_0 := blk_frozen BK379.out 0; have hfz14_1 := blk_frozen BK379.out 1) | (go_at_call 32; (with_reducible refine (impl_within.calls a1 1 3 t381 _ A11.out).mono ?_); rintro e w' ⟨rfl, ⟨nd, rfl⟩⟩))
    go_meet
    case rel => exact ⟨_, (!t381), rf, H', ⟨by first | omega | exact Nat.le_refl _⟩, ⟨bq BK379⟩, ⟨hq HB⟩⟩
  ·
   replace c6 := Bool.eq_false_iff.mpr c6; subst c6
   have H1 : (impl_BestPlans.j0 k a1 true a0_0 a0_1) = some (r1, r2, r3, r4) := by rw [if_neg (show ¬ (false = true) by decide)] at H; exact H
   clear H; have H := H1; clear H1; have H' := A_ H; clear H; have hcz15_0 : w4.cell? ⟨gb379, 0, none⟩ = some (.int .i64 a0_0) := bc BK379 0; have hcz15_1 : w4.cell? ⟨gb379, 1, none⟩ = some (.bool a0_1) := bc BK379 1; have hfz15_0 := blk_frozen BK379.out 0; have hfz15_1 := blk_frozen BK379.out 1; go_wp2_with (first | ((with_reducible refine gate_callee (f := 31) rfl ?_); refine gL (some 17) Try.func31 #[.agg #[.int .i64 a0_0, .bool a0_1]] ?_; (with_reducible refine (impl_IsRoad.calls a0_0 a0_1 false _ A5.out).mono ?_); rintro e w16 ⟨rfl, hb⟩; refine ⟨_, rfl, ?_⟩; replace BK379 := A_ (blk_below (bq BK379) hb); replace HB := A_ (below_step (hq HB) hb); clear hb))
   go_meet
   case rel => exact ⟨_, (true), rf, H', ⟨by first | omega | exact Nat.le_refl _⟩, ⟨bq BK379⟩, ⟨hq HB⟩⟩
 case rest =>
  clear HC3; (try clear c6); (try clear c7); (try clear c7b0); (try clear hcz10_0); (try clear hcz10_1); (try clear hcz12_0); (try clear hcz12_1); (try clear hcz14_0); (try clear hcz14_1); (try clear hcz15_0); (try clear hcz15_1); (try clear hcz8_0); (try clear hcz8_1); (try clear hfz10_0); (try clear hfz10_1); (try clear hfz12_0); (try clear hfz12_1); (try clear hfz14_0); (try clear hfz14_1); (try clear hfz15_0); (try clear hfz15_1); (try clear hfz8_0); (try clear hfz8_1); obtain ⟨kq, x28_2, rfl, HA, HJ2, BK379, HB⟩ := hcut
  cases kq with
  | zero => exact absurd HA.out (by simp [impl_BestPlans.j0])
  | succ kj2 =>
   have H := HA.out; clear HA; simp only [impl_BestPlans.j0] at H
   by_cases c17 : x28_2 = true
   ·
    subst c17
    have H1 : (some (([] : List Int), ([] : List Int), 0, false)) = some (r1, r2, r3, r4) := by rw [if_pos rfl] at H; exact H
    clear H; have H := H1; clear H1; simp only [Option.some.injEq, Prod.mk.injEq] at H
    obtain ⟨rfl, rfl, rfl, rfl⟩ := H; go_wp2
    refine bodyPost_ret (results_list (rs := [.tmp 4, .tmp 5, .tmp 6, .tmp 7]) rfl (by simp) (.tmp (.tmp (.tmp (.tmp .nil))))) rfl ?_; exact ⟨_, _, rt, by first | exact Kd.R_nil _ _ _ _ _ | exact Kd.R_nil _ _ _ _ _ | exact Kd.R_nil _ _ _ _ _ | exact Kd.Q_nil _ _ _ _ _ | exact Kd.S_nil _ _ _ _ _, by first | exact Kd.R_nil _ _ _ _ _ | exact Kd.R_nil _ _ _ _ _ | exact Kd.R_nil _ _ _ _ _ | exact Kd.Q_nil _ _ _ _ _ | exact Kd.S_nil _ _ _ _ _, hq HB⟩
   ·
    replace c17 := Bool.eq_false_iff.mpr c17; subst c17
    have H1 : ((impl_allMoves.f kj2 a1).bind fun t382 => (impl_BestPlans.l0 kj2 a1 ([] : List Int) ([] : List Int) (-1) t382 (t382.length : Int) 0 a0_0 a0_1)) = some (r1, r2, r3, r4) := by rw [if_neg (show ¬ (false = true) by decide)] at H; exact H
    clear H; have H := H1; clear H1; replace H := bm H; obtain ⟨t382, A18, H⟩ := H; have H' := A_ H; clear H; go_wp2_with (first | ((with_reducible refine gate_callee (f := 33) rfl ?_); refine gL (some 30) Try.func33 #[.int .i64 a1] ?_; (with_reducible refine (impl_allMoves.calls kj2 a1 t382 _ A18.out).mono ?_); rintro e w19 ⟨v383, rfl, ho0, hb⟩; refine ⟨_, rfl, ?_⟩; replace ho0 := Kd.R_bound (Kd.S_R ho0); have HO384 := A_ (Kd.R_lower (Kd.R_mono (ok' := fun k_ => (w.heap.size ≤ k_ ∧ k_ < w19.heap.size) ∧ k_ ≠ gb379) ho0 (fun k_ hk_ => ⟨⟨(Nat.le_trans (below_size (hq HB)) hk_.2.1), hk_.2.2.1⟩, (Kd.freshB (g := gb379) (o := .cells #[.int .i64 a0_0, .bool a0_1] 27 (0, 0)) (bq BK379) k_ hk_.2.1)⟩)) (below_size (hq HB))); replace BK379 := A_ (blk_below (bq BK379) hb); replace HB := A_ (below_step (hq HB) hb); clear hb ho0; obtain ⟨Ao20, co20, eo20⟩ := Kd.R_slice HO384.out; subst eo20))
    go_loopg [8, 9, 10, 32] kj2 (fun kq v8 v9 v10 v32 w' => ∃ (x8_2 : List Int) (x9_2 : List Int) (x10_2 : Int) (x32_2 : Int), v10 = .int .i64 x10_2 ∧ v32 = .int .i64 x32_2 ∧ Aside0 (impl_BestPlans.l0 kq a1 x8_2 x9_2 x10_2 t382 (t382.length : Int) x32_2 a0_0 a0_1 = some (r1, r2, r3, r4)) ∧ Aside0 (kq ≤ kj2) ∧ Aside0 (Kd.R (Kd.int .i64) 3 w' w.heap.size (fun k_ => (w.heap.size ≤ k_ ∧ k_ < w19.heap.size) ∧ some k_ ≠ ((.slice Ao20 t382.length co20) : Value).ownBlock ∧ k_ ≠ gb379) v8 x8_2) ∧ Aside0 (Kd.R (Kd.int .i64) 3 w' w.heap.size (fun k_ => (w.heap.size ≤ k_ ∧ w19.heap.size ≤ k_) ∧ some k_ ≠ ((.slice Ao20 t382.length co20) : Value).ownBlock ∧ k_ ≠ gb379) v9 x9_2) ∧ Aside0 (Kd.R (Kd.slice 3 (Kd.int .i64)) 24 w' w.heap.size (fun k_ => (w.heap.size ≤ k_ ∧ k_ < w19.heap.size) ∧ k_ ≠ gb379) (.slice Ao20 t382.length co20) t382) ∧ Aside0 (w'.heap[gb379]? = some (.cells #[.int .i64 a0_0, .bool a0_1] 27 (0, 0))) ∧ Aside0 (Below w.heap.size w w') ∧ Aside0 (Below w19.heap.size w19 w'))
    case atStart => exact ⟨(([] : List Int)), (([] : List Int)), ((-1)), (0), rf, rf, H', ⟨Nat.le_refl _⟩, ⟨by first | exact Kd.R_nil _ _ _ _ _ | exact Kd.R_nil _ _ _ _ _ | exact Kd.R_nil _ _ _ _ _ | exact Kd.Q_nil _ _ _ _ _ | exact Kd.S_nil _ _ _ _ _⟩, ⟨by first | exact Kd.R_nil _ _ _ _ _ | exact Kd.R_nil _ _ _ _ _ | exact Kd.R_nil _ _ _ _ _ | exact Kd.Q_nil _ _ _ _ _ | exact Kd.S_nil _ _ _ _ _⟩, ⟨rq HO384⟩, ⟨bq BK379⟩, ⟨hq HB⟩, ⟨by repeat (first | (with_reducible first | exact Below.refl _ _ | apply below_alloc | apply pw_below_drewN | apply below_drew1) | exact Below.refl _ _)⟩⟩
    case round =>
     clear H'; (try clear c6); (try clear c7); (try clear c7b0); (try clear c17); (try clear hcz10_0); (try clear hcz10_1); (try clear hcz12_0); (try clear hcz12_1); (try clear hcz14_0); (try clear hcz14_1); (try clear hcz15_0); (try clear hcz15_1); (try clear hcz8_0); (try clear hcz8_1); (try clear hfz10_0); (try clear hfz10_1); (try clear hfz12_0); (try clear hfz12_1); (try clear hfz14_0); (try clear hfz14_1); (try clear hfz15_0); (try clear hfz15_1); (try clear hfz8_0); (try clear hfz8_1); obtain ⟨x8_2, x9_2, x10_2, x32_2, rfl, rfl, HA, HK2, HO_8, HO_9, HO_30, BK379, HB, HB2⟩ := hrel
     cases gk with
     | zero => exact absurd HA.out (by simp [impl_BestPlans.l0])
     | succ k2 =>
      have H := HA.out; clear HA; simp only [impl_BestPlans.l0] at H
      by_cases c21 : x32_2 < (t382.length : Int)
      ·
       rw [if_pos c21] at H; have c21b0 := decide_eq_true c21; clear c21; by_cases c22 : 0 ≤ x32_2
       ·
        rw [if_pos c22] at H; have c22b0 := decide_eq_true c22; clear c22; by_cases c23 : x32_2 < (t382.length : Int)
        ·
         rw [if_pos c23] at H; have c23b0 := decide_eq_true c23; clear c23; replace H := bm H; obtain ⟨t386, A24, H⟩ := H; have H' := A_ H; clear H; have p385 : 0 ≤ (x32_2 : Int) := dq; have q385 : x32_2 < (t382.length : Int) := dq; obtain ⟨ad385, A385_0, c385_0, e385, hx385_0, hl385_0, hi385_0⟩ := at_L1 (Kd.R_reads' HO_30.out).2.2 x32_2 p385 q385
         cases e385
         have HL385_0 := A_ (rr_get HO_30.out x32_2 p385 q385 hx385_0); have HR385_0 := A_ hi385_0; have HC385_0 := A_ hl385_0; clear hi385_0 hl385_0; replace p385 := eq_true p385; replace q385 := eq_true q385; go_wp2_with (first | ((with_reducible refine gate_callee (f := 33) rfl ?_); refine gL (some 37) Try.func33 #[.int .i64 a1] ?_; (with_reducible refine (impl_allMoves.calls k2 a1 t386 _ A24.out).mono ?_); rintro e w25 ⟨v387, rfl, ho0, hb⟩; refine ⟨_, rfl, ?_⟩; replace ho0 := Kd.R_bound (Kd.S_R ho0); have n0_ := A_ (Kd.R_elder' (rq HO_8) (Kd.R_base ho0) hb); have n1_ := A_ (Kd.R_elder' (rq HO_9) (Kd.R_base ho0) hb); have n2_ := A_ (Kd.R_elder' (rq HO_30) (Kd.R_base ho0) hb); have n3_ := A_ (Kd.R_elder' (by (with_reducible repeat (first | apply Kd.R_alloc | apply Kd.R_drewN | apply Kd.R_drew)); exact HL385_0.out) (Kd.R_base ho0) hb); have n4_ := A_ (Kd.R_lower (Kd.R_mono (ok' := fun k_ => (w.heap.size ≤ k_ ∧ w19.heap.size ≤ k_) ∧ some k_ ≠ (.slice (some ad385) t382.length co20 : Value).ownBlock ∧ k_ ≠ gb379) ho0 (fun k_ hk_ => ⟨⟨(Nat.le_trans (below_size (hq HB)) hk_.2.1), (Nat.le_trans (below_size (by repeat (first | (with_reducible first | exact HB2.out | apply below_alloc | apply pw_below_drewN | apply below_drew1) | exact HB2.out))) hk_.2.1)⟩, (Kd.fresh' (Kd.R_lt (rq HO_30)) k_ hk_.2.1), (Kd.freshB (g := gb379) (o := .cells #[.int .i64 a0_0, .bool a0_1] 27 (0, 0)) (bq BK379) k_ hk_.2.1)⟩)) (below_size (hq HB))); have n5_ := A_ (blk_below (bq BK379) hb); have n6_ := A_ (Kd.C_below (by repeat (first | (with_reducible exact HR385_0.out) | (with_reducible refine Kd.C_alloc ?_ _) | (with_reducible refine Kd.C_drewN ?_ _) | (with_reducible refine Kd.C_drew ?_) | exact HR385_0.out)) hb); have n7_ := A_ (below_step (hq HB) hb); have nb2_ := A_ (below_step (by repeat (first | (with_reducible first | exact HB2.out | apply below_alloc | apply pw_below_drewN | apply below_drew1) | exact HB2.out)) hb); clear HO_8; clear HO_9; clear HO_30; clear HL385_0; clear BK379; clear HR385_0; clear HB; clear HB2; have HO_8 := n0_; have HO_9 := n1_; have HO_30 := n2_; have HL385_0 := n3_; have HO388 := n4_; have BK379 := n5_; have HR385_0 := n6_; have HB := n7_; have HB2 := nb2_; clear nb2_; clear n0_ n1_ n2_ n3_ n4_ n5_ n6_ n7_; clear hb ho0; obtain ⟨Ao26, co26, eo26⟩ := Kd.R_slice HO388.out; subst eo26))
         go_loopg [8, 9, 10, 39] k2 (fun kq v8 v9 v10 v39 w' => ∃ (x8_3 : List Int) (x9_3 : List Int) (x10_3 : Int) (x39_3 : Int), v10 = .int .i64 x10_3 ∧ v39 = .int .i64 x39_3 ∧ Aside0 (impl_BestPlans.l1 kq a1 x8_3 x9_3 x10_3 (rd_L1 t382 x32_2) t382 (t382.length : Int) x32_2 t386 (t386.length : Int) x39_3 a0_0 a0_1 = some (r1, r2, r3, r4)) ∧ Aside0 (kq ≤ k2) ∧ Aside0 (Kd.R (Kd.int .i64) 3 w' w.heap.size (fun k_ => (w.heap.size ≤ k_ ∧ k_ < w19.heap.size) ∧ some k_ ≠ ((.slice (some ad385) t382.length co20) : Value).ownBlock ∧ some k_ ≠ ((.slice Ao26 t386.length co26) : Value).ownBlock ∧ k_ ≠ gb379) v8 x8_3) ∧ Aside0 (Kd.R (Kd.int .i64) 3 w' w.heap.size (fun k_ => (w.heap.size ≤ k_ ∧ w19.heap.size ≤ k_) ∧ some k_ ≠ ((.slice (some ad385) t382.length co20) : Value).ownBlock ∧ some k_ ≠ ((.slice Ao26 t386.length co26) : Value).ownBlock ∧ k_ ≠ gb379) v9 x9_3) ∧ Aside0 (Kd.R (Kd.int .i64) 3 w' w.heap.size (fun k_ => (w.heap.size ≤ k_ ∧ k_ < w19.heap.size) ∧ some k_ ≠ ((.slice (some ad385) t382.length co20) : Value).ownBlock ∧ some k_ ≠ ((.slice Ao26 t386.length co26) : Value).ownBlock ∧ k_ ≠ gb379) (.slice A385_0 (rd_L1 t382 x32_2).length c385_0) (rd_L1 t382 x32_2)) ∧ Aside0 (Kd.R (Kd.slice 3 (Kd.int .i64)) 24 w' w.heap.size (fun k_ => (w.heap.size ≤ k_ ∧ k_ < w19.heap.size) ∧ some k_ ≠ ((.slice Ao26 t386.length co26) : Value).ownBlock ∧ k_ ≠ gb379) (.slice (some ad385) t382.length co20) t382) ∧ Aside0 (Kd.R (Kd.slice 3 (Kd.int .i64)) 24 w' w.heap.size (fun k_ => (w.heap.size ≤ k_ ∧ w19.heap.size ≤ k_) ∧ some k_ ≠ ((.slice (some ad385) t382.length co20) : Value).ownBlock ∧ k_ ≠ gb379) (.slice Ao26 t386.length co26) t386) ∧ Aside0 (w'.heap[gb379]? = some (.cells #[.int .i64 a0_0, .bool a0_1] 27 (0, 0))) ∧ Aside0 (Kd.C (Kd.int .i64) w' A385_0 (rd_L1 t382 x32_2).length (rd_L1 t382 x32_2)) ∧ Aside0 (Below w.heap.size w w') ∧ Aside0 (Below w19.heap.size w19 w'))
         case atStart => exact ⟨(x8_2), (x9_2), (x10_2), (0), rf, rf, H', ⟨Nat.le_refl _⟩, ⟨by (with_reducible repeat (first | apply Kd.R_alloc | apply Kd.R_drewN | apply Kd.R_drew)); exact Kd.R_mono HO_8.out (fun _ hk => ⟨hk.1.1, ⟨hk.1.2.1, ⟨hk.2, hk.1.2.2⟩⟩⟩)⟩, ⟨by (with_reducible repeat (first | apply Kd.R_alloc | apply Kd.R_drewN | apply Kd.R_drew)); exact Kd.R_mono HO_9.out (fun _ hk => ⟨hk.1.1, ⟨hk.1.2.1, ⟨hk.2, hk.1.2.2⟩⟩⟩)⟩, ⟨by (with_reducible repeat (first | apply Kd.R_alloc | apply Kd.R_drewN | apply Kd.R_drew)); exact Kd.R_mono HL385_0.out (fun _ hk => ⟨hk.1.1.1, ⟨hk.1.2, ⟨hk.2, hk.1.1.2⟩⟩⟩)⟩, ⟨by (with_reducible repeat (first | apply Kd.R_alloc | apply Kd.R_drewN | apply Kd.R_drew)); exact Kd.R_mono HO_30.out (fun _ hk => ⟨hk.1.1, ⟨hk.2, hk.1.2⟩⟩)⟩, ⟨rq HO388⟩, ⟨bq BK379⟩, ⟨by repeat (first | (with_reducible exact HR385_0.out) | (with_reducible refine Kd.C_alloc ?_ _) | (with_reducible refine Kd.C_drewN ?_ _) | (with_reducible refine Kd.C_drew ?_) | exact HR385_0.out)⟩, ⟨hq HB⟩, ⟨by repeat (first | (with_reducible first | exact HB2.out | apply below_alloc | apply pw_below_drewN | apply below_drew1) | exact HB2.out)⟩⟩
         case round =>
          clear H'; (try clear c6); (try clear c7); (try clear c7b0); (try clear c17); (try clear c21); (try clear c21b0); (try clear c22); (try clear c22b0); (try clear c23); (try clear c23b0); (try clear hcz10_0); (try clear hcz10_1); (try clear hcz12_0); (try clear hcz12_1); (try clear hcz14_0); (try clear hcz14_1); (try clear hcz15_0); (try clear hcz15_1); (try clear hcz8_0); (try clear hcz8_1); (try clear hfz10_0); (try clear hfz10_1); (try clear hfz12_0); (try clear hfz12_1); (try clear hfz14_0); (try clear hfz14_1); (try clear hfz15_0); (try clear hfz15_1); (try clear hfz8_0); (try clear hfz8_1); (try clear hx385_0); (try clear p385); (try clear q385); obtain ⟨x8_3, x9_3, x10_3, x39_3, rfl, rfl, HA, HK3, HO_8, HO_9, HO_12, HO_30, HO_37, BK379, HR385_0, HB, HB2⟩ := hrel
          cases gk with
          | zero => exact absurd HA.out (by simp [impl_BestPlans.l1])
          | succ k3 =>
           have H := HA.out; clear HA; simp only [impl_BestPlans.l1] at H
           by_cases c27 : x39_3 < (t386.length : Int)
           ·
            rw [if_pos c27] at H; have c27b0 := decide_eq_true c27; clear c27; by_cases c28 : 0 ≤ x39_3
            ·
             rw [if_pos c28] at H; have c28b0 := decide_eq_true c28; clear c28; by_cases c29 : x39_3 < (t386.length : Int)
             ·
              rw [if_pos c29] at H; have c29b0 := decide_eq_true c29; clear c29; replace H := bm H; obtain ⟨t390, A30, H⟩ := H; by_cases c31 : t390 ≥ 0
              ·
               rw [if_pos c31] at H; have c31b0 : decide (0 ≤ t390) = true := decide_eq_true c31; clear c31; by_cases c32 : x10_3 < 0
               ·
                rw [if_pos c32] at H; have c32b0 := decide_eq_true c32; clear c32; have H' := A_ H; clear H; have p389 : 0 ≤ (x39_3 : Int) := dq; have q389 : x39_3 < (t386.length : Int) := dq; obtain ⟨ad389, A389_0, c389_0, e389, hx389_0, hl389_0, hi389_0⟩ := at_L1 (Kd.R_reads' HO_37.out).2.2 x39_3 p389 q389
                cases e389
                have HL389_0 := A_ (rr_get HO_37.out x39_3 p389 q389 hx389_0); have HR389_0 := A_ hi389_0; have HC389_0 := A_ hl389_0; clear hi389_0 hl389_0; replace p389 := eq_true p389; replace q389 := eq_true q389; have hcz33_0 : wr.cell? ⟨gb379, 0, none⟩ = some (.int .i64 a0_0) := bc BK379 0; have hcz33_1 : wr.cell? ⟨gb379, 1, none⟩ = some (.bool a0_1) := bc BK379 1; have hfz33_0 := blk_frozen BK379.out 0; have hfz33_1 := blk_frozen BK379.out 1; go_wp2_with (first | ((with_reducible refine gate_callee (f := 34) rfl ?_); refine gL (some 48) Try.func34 #[.agg #[.int .i64 a0_0, .bool a0_1], .agg #[.int .i64 0, .int .i64 1, .int .i64 0, .slice A385_0 (rd_L1 t382 x32_2).length c385_0], .agg #[.int .i64 0, .int .i64 1, .int .i64 0, .slice A389_0 (rd_L1 t386 x39_3).length c389_0]] ?_; (with_reducible refine (impl_Road_worstMeet.calls k3 a0_0 a0_1 0 1 0 _ _ (rd_L1 t382 x32_2) 0 1 0 _ _ (rd_L1 t386 x39_3) t390 _ ?side1 ?side2 ?side3 ?side4 A30.out).mono ?_); (case side1 => exact cq (Kd.R_reads' HO_12.out).2.2); (case side2 => exact (Kd.R_reads' HO_12.out).2.1); (case side3 => repeat (first | exact (by repeat (first | (with_reducible exact HR389_0.out) | (with_reducible refine Kd.C_alloc ?_ _) | (with_reducible refine Kd.C_drewN ?_ _) | (with_reducible refine Kd.C_drew ?_) | exact HR389_0.out)) | (with_reducible refine Kd.C_alloc ?_ _) | (with_reducible refine Kd.C_drewN ?_ _) | (with_reducible refine Kd.C_drew ?_))); (case side4 => exact HC389_0.out); rintro e w34 ⟨rfl, hb⟩; refine ⟨_, rfl, ?_⟩; have n0_ := A_ (Kd.R_below (rq HO_8) hb); have n1_ := A_ (Kd.R_below (rq HO_9) hb); have n2_ := A_ (Kd.R_below (rq HO_12) hb); have n3_ := A_ (Kd.R_below (rq HO_30) hb); have n4_ := A_ (Kd.R_below (rq HO_37) hb); have n5_ := A_ (Kd.R_below (by (with_reducible repeat (first | apply Kd.R_alloc | apply Kd.R_drewN | apply Kd.R_drew)); exact HL389_0.out) hb); have n6_ := A_ (blk_below (bq BK379) hb); have n7_ := A_ (Kd.C_below (by repeat (first | (with_reducible exact HR385_0.out) | (with_reducible refine Kd.C_alloc ?_ _) | (with_reducible refine Kd.C_drewN ?_ _) | (with_reducible refine Kd.C_drew ?_) | exact HR385_0.out)) hb); have n8_ := A_ (Kd.C_below (by repeat (first | (with_reducible exact HR389_0.out) | (with_reducible refine Kd.C_alloc ?_ _) | (with_reducible refine Kd.C_drewN ?_ _) | (with_reducible refine Kd.C_drew ?_) | exact HR389_0.out)) hb); have n9_ := A_ (below_step (hq HB) hb); have nb2_ := A_ (below_step (by repeat (first | (with_reducible first | exact HB2.out | apply below_alloc | apply pw_below_drewN | apply below_drew1) | exact HB2.out)) hb); clear HO_8; clear HO_9; clear HO_12; clear HO_30; clear HO_37; clear HL389_0; clear BK379; clear HR385_0; clear HR389_0; clear HB; clear HB2; have HO_8 := n0_; have HO_9 := n1_; have HO_12 := n2_; have HO_30 := n3_; have HO_37 := n4_; have HL389_0 := n5_; have BK379 := n6_; have HR385_0 := n7_; have HR389_0 := n8_; have HB := n9_; have HB2 := nb2_; clear nb2_; clear n0_ n1_ n2_ n3_ n4_ n5_ n6_ n7_ n8_ n9_; clear hb))
                go_roundg k3
                case measure => have := HJ2.out; have := HK2.out; have := HK3.out; omega
                case rel => exact ⟨((rd_L1 t382 x32_2)), (rd_L1 t386 x39_3), (t390), (wrap64 (x39_3 + 1)), rf, rf, H', ⟨by have := HJ2.out; have := HK2.out; have := HK3.out; omega⟩, ⟨rq HO_12⟩, ⟨by (with_reducible repeat (first | apply Kd.R_alloc | apply Kd.R_drewN | apply Kd.R_drew)); exact Kd.R_mono HL389_0.out (fun _ hk => ⟨hk.1.1, ⟨hk.1.2.1, ⟨hk.2, hk.1.2.2⟩⟩⟩)⟩, ⟨rq HO_12⟩, ⟨rq HO_30⟩, ⟨rq HO_37⟩, ⟨bq BK379⟩, ⟨by repeat (first | (with_reducible exact HR385_0.out) | (with_reducible refine Kd.C_alloc ?_ _) | (with_reducible refine Kd.C_drewN ?_ _) | (with_reducible refine Kd.C_drew ?_) | exact HR385_0.out)⟩, ⟨hq HB⟩, ⟨by repeat (first | (with_reducible first | exact HB2.out | apply below_alloc | apply pw_below_drewN | apply below_drew1) | exact HB2.out)⟩⟩
               ·
                rw [if_neg c32] at H; have c32b0 := decide_eq_false c32; clear c32; by_cases c35 : t390 < x10_3
                ·
                 rw [if_pos c35] at H; have c35b0 := decide_eq_true c35; clear c35; have H' := A_ H; clear H; have p389 : 0 ≤ (x39_3 : Int) := dq; have q389 : x39_3 < (t386.length : Int) := dq; obtain ⟨ad389, A389_0, c389_0, e389, hx389_0, hl389_0, hi389_0⟩ := at_L1 (Kd.R_reads' HO_37.out).2.2 x39_3 p389 q389
                 cases e389
                 have HL389_0 := A_ (rr_get HO_37.out x39_3 p389 q389 hx389_0); have HR389_0 := A_ hi389_0; have HC389_0 := A_ hl389_0; clear hi389_0 hl389_0; replace p389 := eq_true p389; replace q389 := eq_true q389; have hcz36_0 : wr.cell? ⟨gb379, 0, none⟩ = some (.int .i64 a0_0) := bc BK379 0; have hcz36_1 : wr.cell? ⟨gb379, 1, none⟩ = some (.bool a0_1) := bc BK379 1; have hfz36_0 := blk_frozen BK379.out 0; have hfz36_1 := blk_frozen BK379.out 1; go_wp2_with (first | ((with_reducible refine gate_callee (f := 34) rfl ?_); refine gL (some 48) Try.func34 #[.agg #[.int .i64 a0_0, .bool a0_1], .agg #[.int .i64 0, .int .i64 1, .int .i64 0, .slice A385_0 (rd_L1 t382 x32_2).length c385_0], .agg #[.int .i64 0, .int .i64 1, .int .i64 0, .slice A389_0 (rd_L1 t386 x39_3).length c389_0]] ?_; (with_reducible refine (impl_Road_worstMeet.calls k3 a0_0 a0_1 0 1 0 _ _ (rd_L1 t382 x32_2) 0 1 0 _ _ (rd_L1 t386 x39_3) t390 _ ?side1 ?side2 ?side3 ?side4 A30.out).mono ?_); (case side1 => exact cq (Kd.R_reads' HO_12.out).2.2); (case side2 => exact (Kd.R_reads' HO_12.out).2.1); (case side3 => repeat (first | exact (by repeat (first | (with_reducible exact HR389_0.out) | (with_reducible refine Kd.C_alloc ?_ _) | (with_reducible refine Kd.C_drewN ?_ _) | (with_reducible refine Kd.C_drew ?_) | exact HR389_0.out)) | (with_reducible refine Kd.C_alloc ?_ _) | (with_reducible refine Kd.C_drewN ?_ _) | (with_reducible refine Kd.C_drew ?_))); (case side4 => exact HC389_0.out); rintro e w37 ⟨rfl, hb⟩; refine ⟨_, rfl, ?_⟩; have n0_ := A_ (Kd.R_below (rq HO_8) hb); have n1_ := A_ (Kd.R_below (rq HO_9) hb); have n2_ := A_ (Kd.R_below (rq HO_12) hb); have n3_ := A_ (Kd.R_below (rq HO_30) hb); have n4_ := A_ (Kd.R_below (rq HO_37) hb); have n5_ := A_ (Kd.R_below (by (with_reducible repeat (first | apply Kd.R_alloc | apply Kd.R_drewN | apply Kd.R_drew)); exact HL389_0.out) hb); have n6_ := A_ (blk_below (bq BK379) hb); have n7_ := A_ (Kd.C_below (by repeat (first | (with_reducible exact HR385_0.out) | (with_reducible refine Kd.C_alloc ?_ _) | (with_reducible refine Kd.C_drewN ?_ _) | (with_reducible refine Kd.C_drew ?_) | exact HR385_0.out)) hb); have n8_ := A_ (Kd.C_below (by repeat (first | (with_reducible exact HR389_0.out) | (with_reducible refine Kd.C_alloc ?_ _) | (with_reducible refine Kd.C_drewN ?_ _) | (with_reducible refine Kd.C_drew ?_) | exact HR389_0.out)) hb); have n9_ := A_ (below_step (hq HB) hb); have nb2_ := A_ (below_step (by repeat (first | (with_reducible first | exact HB2.out | apply below_alloc | apply pw_below_drewN | apply below_drew1) | exact HB2.out)) hb); clear HO_8; clear HO_9; clear HO_12; clear HO_30; clear HO_37; clear HL389_0; clear BK379; clear HR385_0; clear HR389_0; clear HB; clear HB2; have HO_8 := n0_; have HO_9 := n1_; have HO_12 := n2_; have HO_30 := n3_; have HO_37 := n4_; have HL389_0 := n5_; have BK379 := n6_; have HR385_0 := n7_; have HR389_0 := n8_; have HB := n9_; have HB2 := nb2_; clear nb2_; clear n0_ n1_ n2_ n3_ n4_ n5_ n6_ n7_ n8_ n9_; clear hb))
                 go_roundg k3
                 case measure => have := HJ2.out; have := HK2.out; have := HK3.out; omega
                 case rel => exact ⟨((rd_L1 t382 x32_2)), (rd_L1 t386 x39_3), (t390), (wrap64 (x39_3 + 1)), rf, rf, H', ⟨by have := HJ2.out; have := HK2.out; have := HK3.out; omega⟩, ⟨rq HO_12⟩, ⟨by (with_reducible repeat (first | apply Kd.R_alloc | apply Kd.R_drewN | apply Kd.R_drew)); exact Kd.R_mono HL389_0.out (fun _ hk => ⟨hk.1.1, ⟨hk.1.2.1, ⟨hk.2, hk.1.2.2⟩⟩⟩)⟩, ⟨rq HO_12⟩, ⟨rq HO_30⟩, ⟨rq HO_37⟩, ⟨bq BK379⟩, ⟨by repeat (first | (with_reducible exact HR385_0.out) | (with_reducible refine Kd.C_alloc ?_ _) | (with_reducible refine Kd.C_drewN ?_ _) | (with_reducible refine Kd.C_drew ?_) | exact HR385_0.out)⟩, ⟨hq HB⟩, ⟨by repeat (first | (with_reducible first | exact HB2.out | apply below_alloc | apply pw_below_drewN | apply below_drew1) | exact HB2.out)⟩⟩
                ·
                 rw [if_neg c35] at H; have c35b0 := decide_eq_false c35; clear c35; have H' := A_ H; clear H; have p389 : 0 ≤ (x39_3 : Int) := dq; have q389 : x39_3 < (t386.length : Int) := dq; obtain ⟨ad389, A389_0, c389_0, e389, hx389_0, hl389_0, hi389_0⟩ := at_L1 (Kd.R_reads' HO_37.out).2.2 x39_3 p389 q389
                 cases e389
                 have HL389_0 := A_ (rr_get HO_37.out x39_3 p389 q389 hx389_0); have HR389_0 := A_ hi389_0; have HC389_0 := A_ hl389_0; clear hi389_0 hl389_0; replace p389 := eq_true p389; replace q389 := eq_true q389; have hcz38_0 : wr.cell? ⟨gb379, 0, none⟩ = some (.int .i64 a0_0) := bc BK379 0; have hcz38_1 : wr.cell? ⟨gb379, 1, none⟩ = some (.bool a0_1) := bc BK379 1; have hfz38_0 := blk_frozen BK379.out 0; have hfz38_1 := blk_frozen BK379.out 1; go_wp2_with (first | ((with_reducible refine gate_callee (f := 34) rfl ?_); refine gL (some 48) Try.func34 #[.agg #[.int .i64 a0_0, .bool a0_1], .agg #[.int .i64 0, .int .i64 1, .int .i64 0, .slice A385_0 (rd_L1 t382 x32_2).length c385_0], .agg #[.int .i64 0, .int .i64 1, .int .i64 0, .slice A389_0 (rd_L1 t386 x39_3).length c389_0]] ?_; (with_reducible refine (impl_Road_worstMeet.calls k3 a0_0 a0_1 0 1 0 _ _ (rd_L1 t382 x32_2) 0 1 0 _ _ (rd_L1 t386 x39_3) t390 _ ?side1 ?side2 ?side3 ?side4 A30.out).mono ?_); (case side1 => exact cq (Kd.R_reads' HO_12.out).2.2); (case side2 => exact (Kd.R_reads' HO_12.out).2.1); (case side3 => repeat (first | exact (by repeat (first | (with_reducible exact HR389_0.out) | (with_reducible refine Kd.C_alloc ?_ _) | (with_reducible refine Kd.C_drewN ?_ _) | (with_reducible refine Kd.C_drew ?_) | exact HR389_0.out)) | (with_reducible refine Kd.C_alloc ?_ _) | (with_reducible refine Kd.C_drewN ?_ _) | (with_reducible refine Kd.C_drew ?_))); (case side4 => exact HC389_0.out); rintro e w39 ⟨rfl, hb⟩; refine ⟨_, rfl, ?_⟩; have n0_ := A_ (Kd.R_below (rq HO_8) hb); have n1_ := A_ (Kd.R_below (rq HO_9) hb); have n2_ := A_ (Kd.R_below (rq HO_12) hb); have n3_ := A_ (Kd.R_below (rq HO_30) hb); have n4_ := A_ (Kd.R_below (rq HO_37) hb); have n5_ := A_ (Kd.R_below (by (with_reducible repeat (first | apply Kd.R_alloc | apply Kd.R_drewN | apply Kd.R_drew)); exact HL389_0.out) hb); have n6_ := A_ (blk_below (bq BK379) hb); have n7_ := A_ (Kd.C_below (by repeat (first | (with_reducible exact HR385_0.out) | (with_reducible refine Kd.C_alloc ?_ _) | (with_reducible refine Kd.C_drewN ?_ _) | (with_reducible refine Kd.C_drew ?_) | exact HR385_0.out)) hb); have n8_ := A_ (Kd.C_below (by repeat (first | (with_reducible exact HR389_0.out) | (with_reducible refine Kd.C_alloc ?_ _) | (with_reducible refine Kd.C_drewN ?_ _) | (with_reducible refine Kd.C_drew ?_) | exact HR389_0.out)) hb); have n9_ := A_ (below_step (hq HB) hb); have nb2_ := A_ (below_step (by repeat (first | (with_reducible first | exact HB2.out | apply below_alloc | apply pw_below_drewN | apply below_drew1) | exact HB2.out)) hb); clear HO_8; clear HO_9; clear HO_12; clear HO_30; clear HO_37; clear HL389_0; clear BK379; clear HR385_0; clear HR389_0; clear HB; clear HB2; have HO_8 := n0_; have HO_9 := n1_; have HO_12 := n2_; have HO_30 := n3_; have HO_37 := n4_; have HL389_0 := n5_; have BK379 := n6_; have HR385_0 := n7_; have HR389_0 := n8_; have HB := n9_; have HB2 := nb2_; clear nb2_; clear n0_ n1_ n2_ n3_ n4_ n5_ n6_ n7_ n8_ n9_; clear hb))
                 go_roundg k3
                 case measure => have := HJ2.out; have := HK2.out; have := HK3.out; omega
                 case rel => exact ⟨(x8_3), (x9_3), (x10_3), (wrap64 (x39_3 + 1)), rf, rf, H', ⟨by have := HJ2.out; have := HK2.out; have := HK3.out; omega⟩, ⟨rq HO_8⟩, ⟨rq HO_9⟩, ⟨rq HO_12⟩, ⟨rq HO_30⟩, ⟨rq HO_37⟩, ⟨bq BK379⟩, ⟨by repeat (first | (with_reducible exact HR385_0.out) | (with_reducible refine Kd.C_alloc ?_ _) | (with_reducible refine Kd.C_drewN ?_ _) | (with_reducible refine Kd.C_drew ?_) | exact HR385_0.out)⟩, ⟨hq HB⟩, ⟨by repeat (first | (with_reducible first | exact HB2.out | apply below_alloc | apply pw_below_drewN | apply below_drew1) | exact HB2.out)⟩⟩
              ·
               rw [if_neg c31] at H; have c31b0 : decide (0 ≤ t390) = false := decide_eq_false c31; clear c31; have H' := A_ H; clear H; have p389 : 0 ≤ (x39_3 : Int) := dq; have q389 : x39_3 < (t386.length : Int) := dq; obtain ⟨ad389, A389_0, c389_0, e389, hx389_0, hl389_0, hi389_0⟩ := at_L1 (Kd.R_reads' HO_37.out).2.2 x39_3 p389 q389
               cases e389
               have HL389_0 := A_ (rr_get HO_37.out x39_3 p389 q389 hx389_0); have HR389_0 := A_ hi389_0; have HC389_0 := A_ hl389_0; clear hi389_0 hl389_0; replace p389 := eq_true p389; replace q389 := eq_true q389; have hcz40_0 : wr.cell? ⟨gb379, 0, none⟩ = some (.int .i64 a0_0) := bc BK379 0; have hcz40_1 : wr.cell? ⟨gb379, 1, none⟩ = some (.bool a0_1) := bc BK379 1; have hfz40_0 := blk_frozen BK379.out 0; have hfz40_1 := blk_frozen BK379.out 1; go_wp2_with (first | ((with_reducible refine gate_callee (f := 34) rfl ?_); refine gL (some 48) Try.func34 #[.agg #[.int .i64 a0_0, .bool a0_1], .agg #[.int .i64 0, .int .i64 1, .int .i64 0, .slice A385_0 (rd_L1 t382 x32_2).length c385_0], .agg #[.int .i64 0, .int .i64 1, .int .i64 0, .slice A389_0 (rd_L1 t386 x39_3).length c389_0]] ?_; (with_reducible refine (impl_Road_worstMeet.calls k3 a0_0 a0_1 0 1 0 _ _ (rd_L1 t382 x32_2) 0 1 0 _ _ (rd_L1 t386 x39_3) t390 _ ?side1 ?side2 ?side3 ?side4 A30.out).mono ?_); (case side1 => exact cq (Kd.R_reads' HO_12.out).2.2); (case side2 => exact (Kd.R_reads' HO_12.out).2.1); (case side3 => repeat (first | exact (by repeat (first | (with_reducible exact HR389_0.out) | (with_reducible refine Kd.C_alloc ?_ _) | (with_reducible refine Kd.C_drewN ?_ _) | (with_reducible refine Kd.C_drew ?_) | exact HR389_0.out)) | (with_reducible refine Kd.C_alloc ?_ _) | (with_reducible refine Kd.C_drewN ?_ _) | (with_reducible refine Kd.C_drew ?_))); (case side4 => exact HC389_0.out); rintro e w41 ⟨rfl, hb⟩; refine ⟨_, rfl, ?_⟩; have n0_ := A_ (Kd.R_below (rq HO_8) hb); have n1_ := A_ (Kd.R_below (rq HO_9) hb); have n2_ := A_ (Kd.R_below (rq HO_12) hb); have n3_ := A_ (Kd.R_below (rq HO_30) hb); have n4_ := A_ (Kd.R_below (rq HO_37) hb); have n5_ := A_ (Kd.R_below (by (with_reducible repeat (first | apply Kd.R_alloc | apply Kd.R_drewN | apply Kd.R_drew)); exact HL389_0.out) hb); have n6_ := A_ (blk_below (bq BK379) hb); have n7_ := A_ (Kd.C_below (by repeat (first | (with_reducible exact HR385_0.out) | (with_reducible refine Kd.C_alloc ?_ _) | (with_reducible refine Kd.C_drewN ?_ _) | (with_reducible refine Kd.C_drew ?_) | exact HR385_0.out)) hb); have n8_ := A_ (Kd.C_below (by repeat (first | (with_reducible exact HR389_0.out) | (with_reducible refine Kd.C_alloc ?_ _) | (with_reducible refine Kd.C_drewN ?_ _) | (with_reducible refine Kd.C_drew ?_) | exact HR389_0.out)) hb); have n9_ := A_ (below_step (hq HB) hb); have nb2_ := A_ (below_step (by repeat (first | (with_reducible first | exact HB2.out | apply below_alloc | apply pw_below_drewN | apply below_drew1) | exact HB2.out)) hb); clear HO_8; clear HO_9; clear HO_12; clear HO_30; clear HO_37; clear HL389_0; clear BK379; clear HR385_0; clear HR389_0; clear HB; clear HB2; have HO_8 := n0_; have HO_9 := n1_; have HO_12 := n2_; have HO_30 := n3_; have HO_37 := n4_; have HL389_0 := n5_; have BK379 := n6_; have HR385_0 := n7_; have HR389_0 := n8_; have HB := n9_; have HB2 := nb2_; clear nb2_; clear n0_ n1_ n2_ n3_ n4_ n5_ n6_ n7_ n8_ n9_; clear hb))
               go_roundg k3
               case measure => have := HJ2.out; have := HK2.out; have := HK3.out; omega
               case rel => exact ⟨(x8_3), (x9_3), (x10_3), (wrap64 (x39_3 + 1)), rf, rf, H', ⟨by have := HJ2.out; have := HK2.out; have := HK3.out; omega⟩, ⟨rq HO_8⟩, ⟨rq HO_9⟩, ⟨rq HO_12⟩, ⟨rq HO_30⟩, ⟨rq HO_37⟩, ⟨bq BK379⟩, ⟨by repeat (first | (with_reducible exact HR385_0.out) | (with_reducible refine Kd.C_alloc ?_ _) | (with_reducible refine Kd.C_drewN ?_ _) | (with_reducible refine Kd.C_drew ?_) | exact HR385_0.out)⟩, ⟨hq HB⟩, ⟨by repeat (first | (with_reducible first | exact HB2.out | apply below_alloc | apply pw_below_drewN | apply below_drew1) | exact HB2.out)⟩⟩
             ·
              rw [if_neg c29] at H; exact absurd H (by simp)
            ·
             rw [if_neg c28] at H; exact absurd H (by simp)
           ·
            rw [if_neg c27] at H; have c27b0 := decide_eq_false c27; clear c27; have H' := A_ H; clear H; go_wp2
            go_roundg k3
            case measure => have := HJ2.out; have := HK2.out; have := HK3.out; omega
            case rel => exact ⟨(x8_3), (x9_3), (x10_3), (wrap64 (x32_2 + 1)), rf, rf, H', ⟨by have := HJ2.out; have := HK2.out; have := HK3.out; omega⟩, ⟨by (with_reducible repeat (first | apply Kd.R_alloc | apply Kd.R_drewN | apply Kd.R_drew)); exact Kd.R_mono HO_8.out (fun _ hk => ⟨hk.1, ⟨hk.2.1, hk.2.2.2⟩⟩)⟩, ⟨by (with_reducible repeat (first | apply Kd.R_alloc | apply Kd.R_drewN | apply Kd.R_drew)); exact Kd.R_mono HO_9.out (fun _ hk => ⟨hk.1, ⟨hk.2.1, hk.2.2.2⟩⟩)⟩, ⟨by (with_reducible repeat (first | apply Kd.R_alloc | apply Kd.R_drewN | apply Kd.R_drew)); exact Kd.R_mono HO_30.out (fun _ hk => ⟨hk.1, hk.2.2⟩)⟩, ⟨bq BK379⟩, ⟨hq HB⟩, ⟨by repeat (first | (with_reducible first | exact HB2.out | apply below_alloc | apply pw_below_drewN | apply below_drew1) | exact HB2.out)⟩⟩
        ·
         rw [if_neg c23] at H; exact absurd H (by simp)
       ·
        rw [if_neg c22] at H; exact absurd H (by simp)
      ·
       rw [if_neg c21] at H; have c21b0 := decide_eq_false c21; clear c21; by_cases c42 : x10_2 < 0
       ·
        rw [if_pos c42] at H; have c42b0 := decide_eq_true c42; clear c42; simp only [Option.some.injEq, Prod.mk.injEq] at H
        obtain ⟨rfl, rfl, rfl, rfl⟩ := H; go_wp2
        refine bodyPost_ret (results_list (rs := [.tmp 4, .tmp 5, .tmp 6, .tmp 7]) rfl (by simp) (.tmp (.tmp (.tmp (.tmp .nil))))) rfl ?_; exact ⟨_, _, rt, by first | exact Kd.R_nil _ _ _ _ _ | exact Kd.R_nil _ _ _ _ _ | exact Kd.R_nil _ _ _ _ _ | exact Kd.Q_nil _ _ _ _ _ | exact Kd.S_nil _ _ _ _ _, by first | exact Kd.R_nil _ _ _ _ _ | exact Kd.R_nil _ _ _ _ _ | exact Kd.R_nil _ _ _ _ _ | exact Kd.Q_nil _ _ _ _ _ | exact Kd.S_nil _ _ _ _ _, hq HB⟩
       ·
        rw [if_neg c42] at H; have c42b0 := decide_eq_false c42; clear c42; simp only [Option.some.injEq, Prod.mk.injEq] at H
        obtain ⟨rfl, rfl, rfl, rfl⟩ := H; go_wp2
        refine bodyPost_ret (results_list (rs := [.tmp 4, .tmp 5, .tmp 6, .tmp 7]) rfl (by simp) (.tmp (.tmp (.tmp (.tmp .nil))))) rfl ?_; exact ⟨_, _, rt, by (with_reducible repeat (first | apply Kd.R_alloc | apply Kd.R_drewN | apply Kd.R_drew)); exact Kd.R_mono HO_8.out (fun k_ hk e_ => absurd hk.1.2 (Nat.not_lt.2 (HO_9.out.1 k_ e_.symm).1.2)), by (with_reducible repeat (first | apply Kd.R_alloc | apply Kd.R_drewN | apply Kd.R_drew)); exact Kd.R_mono HO_9.out (fun k_ hk e_ => absurd (HO_8.out.1 k_ e_.symm).1.2 (Nat.not_lt.2 hk.1.2)), hq HB⟩


/-! ### laws_eqIntS: function 10 -/
def laws_eqIntS.l0 : Nat → List Int → List Int → Int → Option (Bool)
  | 0, _, _, _ => none
  | k + 1, x0, x1, x5 => if x5 < (x0.length : Int) then (if 0 ≤ x5 then (if x5 < (x1.length : Int) then (if (rd x0 x5) = (rd x1 x5) then (laws_eqIntS.l0 k x0 x1 (wrap64 (x5 + 1))) else (some false)) else (none)) else (none)) else (some true)
def laws_eqIntS.f (k : Nat) (l0 : List Int) (l1 : List Int) : Option (Bool) := if (l0.length : Int) = (l1.length : Int) then (laws_eqIntS.l0 k l0 l1 0) else (some false)
theorem laws_eqIntS.mono_l : ∀ k, (∀ y0 y1 y2, LeO (laws_eqIntS.l0 k y0 y1 y2) (laws_eqIntS.l0 (k + 1) y0 y1 y2))
  | 0 => fun _ _ _ r h => by simp [laws_eqIntS.l0] at h
  | k + 1 => by
    have ih0 := laws_eqIntS.mono_l k
    · intro y0 y1 y2
      unfold laws_eqIntS.l0
      repeat' first
      | (with_reducible exact ih0 _ _ _)
      | (with_reducible exact LeO.refl _)
      | (with_reducible exact LeO.none _)
      | (with_reducible refine LeO.ite ?_ ?_)
      | (with_reducible refine LeO.bind ?_ (fun _ => ?_))
      | exact ih0 _ _ _
      | exact LeO.none _
      | refine LeO.ite ?_ ?_
      | refine LeO.bind ?_ (fun _ => ?_)
theorem laws_eqIntS.mono : ∀ a0 a1 k, LeO (laws_eqIntS.f k a0 a1) (laws_eqIntS.f (k + 1) a0 a1) := by
  intro a0 a1 k
  have ih0 := laws_eqIntS.mono_l k
  unfold laws_eqIntS.f
  repeat' first
      | (with_reducible exact ih0 _ _ _)
      | (with_reducible exact LeO.refl _)
      | (with_reducible exact LeO.none _)
      | (with_reducible refine LeO.ite ?_ ?_)
      | (with_reducible refine LeO.bind ?_ (fun _ => ?_))
      | exact ih0 _ _ _
      | exact LeO.none _
      | refine LeO.ite ?_ ?_
      | refine LeO.bind ?_ (fun _ => ?_)
set_option maxHeartbeats 8000000 in
set_option maxRecDepth 100000 in
theorem laws_eqIntS.calls (k : Nat) (A0 : Option Addr) (c0 : Nat) (l0 : List Int) (A1 : Option Addr) (c1 : Nat) (l1 : List Int) (r : Bool) (w : World) (hr0 : Kd.C (Kd.int .i64) w A0 l0.length l0) (hc0 : l0.length ≤ c0) (hr1 : Kd.C (Kd.int .i64) w A1 l1.length l1) (hc1 : l1.length ≤ c1) (h : laws_eqIntS.f k l0 l1 = some r) :
    Calls Try.prog 10 #[.slice A0 l0.length c0, .slice A1 l1.length c1] w fun e w' => e = .returned (.bool r) ∧ Drawn0 w w' := by
 have HR0 := A_ hr0; have HC0 := A_ hc0; clear hr0 hc0; have HR1 := A_ hr1; have HC1 := A_ hc1; clear hr1 hc1; have H : (if (l0.length : Int) = (l1.length : Int) then (laws_eqIntS.l0 k l0 l1 0) else (some false)) = some r := h; clear h; by_cases c3 : (l0.length : Int) = (l1.length : Int)
 ·
  rw [if_pos c3] at H; have c3b0 : ((l0.length : Int) == (l1.length : Int)) = true := beq_iff_eq.mpr c3; have c3b1 : ((l0.length : Int) != (l1.length : Int)) = false := bne_eq_false_iff_eq.mpr c3
  have c3b2 : (l0.length == l1.length) = true := by first | simpa using c3 | (simp at c3 ⊢; omega)
  clear c3; have H' := A_ H; clear H; go_enter Try.func10, Try.ntmps10
  go_wp2
  repeat (go_quiet (fail); try go_wp2)
  go_loopg [5] k (fun kq v5 w' => ∃ (x5_1 : Int), v5 = .int .i64 x5_1 ∧ Aside0 (laws_eqIntS.l0 kq l0 l1 x5_1 = some r) ∧ Aside0 (kq ≤ k) ∧ Drawn0 w w')
  case atStart => exact ⟨(0), rf, H', ⟨Nat.le_refl _⟩, by repeat (first | exact Drawn0.refl _ | apply Drawn0.step)⟩
  case round =>
   clear H'; (try clear c3); (try clear c3b0); (try clear c3b1); (try clear c3b2); obtain ⟨x5_1, rfl, HA, HK1, ⟨m1, rfl⟩⟩ := hrel
   cases gk with
   | zero => exact absurd HA.out (by simp [laws_eqIntS.l0])
   | succ k1 =>
    have H := HA.out; clear HA; simp only [laws_eqIntS.l0] at H
    by_cases c4 : x5_1 < (l0.length : Int)
    ·
     rw [if_pos c4] at H; have c4b0 := decide_eq_true c4; clear c4; by_cases c5 : 0 ≤ x5_1
     ·
      rw [if_pos c5] at H; have c5b0 := decide_eq_true c5; clear c5; by_cases c6 : x5_1 < (l1.length : Int)
      ·
       rw [if_pos c6] at H; have c6b0 := decide_eq_true c6; clear c6; by_cases c7 : (rd l0 x5_1) = (rd l1 x5_1)
       ·
        rw [if_pos c7] at H; have c7b0 : ((rd l0 x5_1) == (rd l1 x5_1)) = true := beq_iff_eq.mpr c7; have c7b1 : ((rd l0 x5_1) != (rd l1 x5_1)) = false := bne_eq_false_iff_eq.mpr c7; clear c7; have H' := A_ H; clear H; have p379 : 0 ≤ (x5_1 : Int) := dq; have q379 : x5_1 < (l0.length : Int) := dq; obtain ⟨ad379, e379, hx379_0⟩ := Kd.at_int HR0.out x5_1 p379 q379
        cases e379
        replace p379 := eq_true p379; replace q379 := eq_true q379; have p380 : 0 ≤ (x5_1 : Int) := dq; have q380 : x5_1 < (l1.length : Int) := dq; obtain ⟨ad380, e380, hx380_0⟩ := Kd.at_int HR1.out x5_1 p380 q380
        cases e380
        replace p380 := eq_true p380; replace q380 := eq_true q380; go_wp2
        repeat (go_quiet (fail); try go_wp2)
        go_roundg k1
        case measure => have := HK1.out; omega
        case rel => exact ⟨(wrap64 (x5_1 + 1)), rf, H', ⟨by have := HK1.out; omega⟩, by repeat (first | exact Drawn0.refl _ | apply Drawn0.step)⟩
       ·
        rw [if_neg c7] at H; have c7b0 : ((rd l0 x5_1) == (rd l1 x5_1)) = false := beq_eq_false_iff_ne.mpr c7; have c7b1 : ((rd l0 x5_1) != (rd l1 x5_1)) = true := bne_iff_ne.mpr c7; obtain rfl := Option.some.inj H; have p379 : 0 ≤ (x5_1 : Int) := dq; have q379 : x5_1 < (l0.length : Int) := dq; obtain ⟨ad379, e379, hx379_0⟩ := Kd.at_int HR0.out x5_1 p379 q379
        cases e379
        replace p379 := eq_true p379; replace q379 := eq_true q379; have p380 : 0 ≤ (x5_1 : Int) := dq; have q380 : x5_1 < (l1.length : Int) := dq; obtain ⟨ad380, e380, hx380_0⟩ := Kd.at_int HR1.out x5_1 p380 q380
        cases e380
        replace p380 := eq_true p380; replace q380 := eq_true q380; go_wp2
        repeat (go_quiet (fail); try go_wp2)
        go_ret
        exact ⟨rf, by repeat (first | exact Drawn0.refl _ | apply Drawn0.step)⟩
      ·
       rw [if_neg c6] at H; exact absurd H (by simp)
     ·
      rw [if_neg c5] at H; exact absurd H (by simp)
    ·
     rw [if_neg c4] at H; have c4b0 := decide_eq_false c4; clear c4; obtain rfl := Option.some.inj H; go_wp2
     repeat (go_quiet (fail); try go_wp2)
     go_ret
     exact ⟨rf, by repeat (first | exact Drawn0.refl _ | apply Drawn0.step)⟩
 ·
  rw [if_neg c3] at H; have c3b0 : ((l0.length : Int) == (l1.length : Int)) = false := beq_eq_false_iff_ne.mpr c3; have c3b1 : ((l0.length : Int) != (l1.length : Int)) = true := bne_iff_ne.mpr c3
  have c3b2 : (l0.length == l1.length) = false := by first | simpa using c3 | (simp at c3 ⊢; omega)
  obtain rfl := Option.some.inj H; go_enter Try.func10, Try.ntmps10
  go_wp2
  repeat (go_quiet (fail); try go_wp2)
  go_ret
  exact ⟨rf, by repeat (first | exact Drawn0.refl _ | apply Drawn0.step)⟩

/-! ### laws_markIntS: function 11 -/
def laws_markIntS.l0 : Nat → List Int → Int → Int → Option (Int × List Int)
  | 0, _, _, _ => none
  | k + 1, x0, x1, x5 => if x5 < (x0.length : Int) then (if 0 ≤ x5 then (laws_markIntS.l0 k (x0.set (x5 : Int).toNat x1) (wrap64 (x1 + 1)) (wrap64 (x5 + 1))) else (none)) else (some (x1, x0))
def laws_markIntS.f (k : Nat) (l0 : List Int) (a1 : Int) : Option (Int × List Int) := laws_markIntS.l0 k l0 a1 0
theorem laws_markIntS.mono_l : ∀ k, (∀ y0 y1 y2, LeO (laws_markIntS.l0 k y0 y1 y2) (laws_markIntS.l0 (k + 1) y0 y1 y2))
  | 0 => fun _ _ _ r h => by simp [laws_markIntS.l0] at h
  | k + 1 => by
    have ih0 := laws_markIntS.mono_l k
    · intro y0 y1 y2
      unfold laws_markIntS.l0
      repeat' first
      | (with_reducible exact ih0 _ _ _)
      | (with_reducible exact LeO.refl _)
      | (with_reducible exact LeO.none _)
      | (with_reducible refine LeO.ite ?_ ?_)
      | (with_reducible refine LeO.bind ?_ (fun _ => ?_))
      | exact ih0 _ _ _
      | exact LeO.none _
      | refine LeO.ite ?_ ?_
      | refine LeO.bind ?_ (fun _ => ?_)
theorem laws_markIntS.mono : ∀ a0 a1 k, LeO (laws_markIntS.f k a0 a1) (laws_markIntS.f (k + 1) a0 a1) := by
  intro a0 a1 k
  have ih0 := laws_markIntS.mono_l k
  unfold laws_markIntS.f
  repeat' first
      | (with_reducible exact ih0 _ _ _)
      | (with_reducible exact LeO.refl _)
      | (with_reducible exact LeO.none _)
      | (with_reducible refine LeO.ite ?_ ?_)
      | (with_reducible refine LeO.bind ?_ (fun _ => ?_))
      | exact ih0 _ _ _
      | exact LeO.none _
      | refine LeO.ite ?_ ?_
      | refine LeO.bind ?_ (fun _ => ?_)
set_option maxHeartbeats 8000000 in
set_option maxRecDepth 100000 in
theorem laws_markIntS.calls (k : Nat) (P0_ : Nat → Prop) (u9000_ : Value) (l0 : List Int) (a1 : Int) (r1 : Int) (r2 : List Int) (w0 w : World) (hB : Below w0.heap.size w0 w) (ho0 : Kd.R (Kd.int .i64) 3 w w0.heap.size P0_ u9000_ l0) (h : laws_markIntS.f k l0 a1 = some (r1, r2)) :
    Calls Try.prog 11 #[u9000_, .int .i64 a1] w fun e w' => e = .returned (.int .i64 r1) ∧ Kd.R (Kd.int .i64) 3 w' w0.heap.size (fun k_ => (P0_ k_ ∨ w.heap.size ≤ k_)) u9000_ r2 ∧ Below w0.heap.size w0 w' ∧ Kept w w' (fun k_ => P0_ k_) := by
 have HO0 := A_ (show Kd.R (Kd.int .i64) 3 w w0.heap.size (fun k_ => (P0_ k_ ∨ w.heap.size ≤ k_)) u9000_ l0 from Kd.R_mono ho0 (fun k_ hk => (.inl hk))); have HK := A_ (Kept.refl w (fun k_ => P0_ k_)); have HW0 := A_ hB.size; have HB := A_ hB; clear hB; have H : (laws_markIntS.l0 k l0 a1 0) = some (r1, r2) := h; clear h; have H' := A_ H; clear H; go_enter Try.func11, Try.ntmps11
 go_wp2
 go_loopg [1, 5] k (fun kq v1 v5 w' => ∃ (x0_1 : List Int) (x1_1 : Int) (x5_1 : Int), v1 = .int .i64 x1_1 ∧ v5 = .int .i64 x5_1 ∧ Aside0 (laws_markIntS.l0 kq x0_1 x1_1 x5_1 = some (r1, r2)) ∧ Aside0 (kq ≤ k) ∧ Aside0 (Kd.R (Kd.int .i64) 3 w' w0.heap.size (fun k_ => (P0_ k_ ∨ w.heap.size ≤ k_)) u9000_ x0_1) ∧ Aside0 (Kept w w' (fun k_ => P0_ k_)) ∧ Aside0 (Below w0.heap.size w0 w'))
 case atStart => exact ⟨(l0), (a1), (0), rf, rf, H', ⟨Nat.le_refl _⟩, ⟨rq HO0⟩, ⟨by repeat (first | (with_reducible first | exact HK.out | apply Kept.alloc | apply Kept.drewN | apply Kept.drew) | exact HK.out)⟩, ⟨hq HB⟩⟩
 case round =>
  clear H'; obtain ⟨x0_1, x1_1, x5_1, rfl, rfl, HA, HK1, HO_0, HK, HB⟩ := hrel
  cases gk with
  | zero => exact absurd HA.out (by simp [laws_markIntS.l0])
  | succ k1 =>
   have H := HA.out; clear HA; simp only [laws_markIntS.l0] at H
   by_cases c3 : x5_1 < (x0_1.length : Int)
   ·
    rw [if_pos c3] at H; have c3b0 := decide_eq_true c3; clear c3; by_cases c4 : 0 ≤ x5_1
    ·
     rw [if_pos c4] at H; have c4b0 := decide_eq_true c4; clear c4
     obtain ⟨y381, hy381⟩ : ∃ y_ : List Int, y_ = (x0_1.set (x5_1 : Int).toNat x1_1) := ⟨_, rfl⟩
     replace H : (laws_markIntS.l0 k1 y381 (wrap64 (x1_1 + 1)) (wrap64 (x5_1 + 1))) = some (r1, r2) := by first | (rw [hy381]; with_reducible exact H) | (have H2_ := (Option.bind_some _ _).symm.trans H; rw [hy381]; with_reducible exact H2_) | (have H2_ := (Option.bind_some _ _).symm.trans H; with_reducible exact H2_) | with_reducible exact H | (rw [hy381]; exact H) | exact H
     have Ny381 := A_ hy381; clear hy381; have H' := A_ H; clear H; obtain ⟨Ao6, co6, eo6⟩ := Kd.R_slice HO_0.out; subst eo6; have p5 : 0 ≤ (x5_1 : Int) := dq; have q5 : (x5_1 : Int) < ((x0_1.length : Int) : Int) := dq; obtain ⟨go5, co5, eo5, gb5, gl5, cl5, HG5⟩ := Kd.R_form HO_0.out (by omega); (first | cases eo5 | (injection eo5 with ea_ en_ ec_; (first | subst ea_ | (injection ea_ with ea_; subst ea_)); subst ec_; clear en_)); have GB5 := A_ gb5; have GG5 := A_ HG5; clear gb5 gl5 HG5; have HMgo5 := A_ (show (P0_ go5 ∨ w.heap.size ≤ go5) from (HO_0.out.1 _ rfl)); obtain ⟨hx5_0, hf5_0⟩ := Kd.R_celln 0 HO_0.out (x5_1 : Int) p5 q5; replace p5 := eq_true p5; replace q5 := eq_true q5; have HP7 := Kd.R_putg HO_0.out (x5_1 : Int) x1_1; go_wp2_with (first | ((with_reducible refine gate_store (t := 3) (p := 15) rfl ?_); refine store_event (t := 3) (p := 15) (v := ?vo_w8) (w1 := (wr.setCell ⟨go5, (x5_1 : Int).toNat, none⟩ (.int .i64 x1_1))) ?hg ?ho ?hn ?hr ?_; (case ho => rfl); (case hg => rfl); (case hn => rfl); (case hr => first | (go_simp; done) | (go_simp; rfl)); intro w8 hw; have hg : wr.grownBy w8 (some go5) := (by rw [hw]; exact HP7.2); have hp_ : Kd.R (Kd.int .i64) 3 w8 w0.heap.size (fun k_ => (P0_ k_ ∨ w.heap.size ≤ k_)) (.slice (some ⟨go5, 0, none⟩) x0_1.length co6) y381 := (by rw [hw, Ny381.out]; exact HP7.1); clear HP7; replace HB := A_ ((by rw [hw]; exact below_set (HB.out) GB5.out : Below w0.heap.size w0 w8)); replace HK := A_ (Kept.of_grown (S := (fun k_ => P0_ k_)) hg (by repeat (first | (with_reducible first | exact HK.out | apply Kept.alloc | apply Kept.drewN | apply Kept.drew) | exact HK.out)) (fun k_ e_ => (HO_0.out.1 k_ e_))); replace HO_0 := A_ (hp_); clear hg hw hp_))
     go_roundg k1
     case measure => have := HK1.out; omega
     case rel => exact ⟨(y381), (wrap64 (x1_1 + 1)), (wrap64 (x5_1 + 1)), rf, rf, H', ⟨by have := HK1.out; omega⟩, ⟨rq HO_0⟩, ⟨by repeat (first | (with_reducible first | exact HK.out | apply Kept.alloc | apply Kept.drewN | apply Kept.drew) | exact HK.out)⟩, ⟨hq HB⟩⟩
    ·
     rw [if_neg c4] at H; exact absurd H (by simp)
   ·
    rw [if_neg c3] at H; have c3b0 := decide_eq_false c3; clear c3; simp only [Option.some.injEq, Prod.mk.injEq] at H
    obtain ⟨rfl, rfl⟩ := H; obtain ⟨Ao9, co9, eo9⟩ := Kd.R_slice HO_0.out; subst eo9; go_wp2
    go_ret
    exact ⟨rt, rq HO_0, hq HB, by repeat (first | (with_reducible first | exact HK.out | apply Kept.alloc | apply Kept.drewN | apply Kept.drew) | exact HK.out)⟩

end Go.Proofs.Ythgbkekfekcfaaa.PFnExactBestPlans
