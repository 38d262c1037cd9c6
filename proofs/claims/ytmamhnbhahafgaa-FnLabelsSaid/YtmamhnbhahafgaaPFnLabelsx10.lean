-- Printed, and told shorter by this session's program shrink.py.
-- Printed by this session's program myprint.py.
import Derived.Test.YtmamhnbhahafgaaPFnLabelsx0
import Derived.Test.YtmamhnbhahafgaaPFnLabelsx1
import Derived.Test.YtmamhnbhahafgaaPFnLabelsx2
import Derived.Test.YtmamhnbhahafgaaPFnLabelsx6
import Derived.Test.YtmamhnbhahafgaaPFnLabelsx7
import Derived.Test.YtmamhnbhahafgaaPFnLabelsx9
namespace Go.Proofs.Ytmamhnbhahafgaa.PFnLabels
open Go.RowKit Go.Proofs.Ytmamhnbhahafgaa.Own Go.Proofs.YtmamhnbhahafgaaW.PrintWords Go.Proofs.YtmamhnbhahafgaaW.PrintLast Go.Proofs.YtmamhnbhahafgaaW.PrintMore
attribute [local go_sem] max2_int min2_int max_two min_two max_three min_three max_four min_four   -- for this text's walks alone
set_option linter.unusedVariables false
set_option linter.unusedSimpArgs false

/-! ### spec_WorstMeet: function 96 -/
def spec_WorstMeet.f (k : Nat) (a0_0 : Int) (a0_1 : Bool) (a1_0 : Int) (a1_1 : Int) (a1_2 : Int) (l1_3 : List Int) (a2_0 : Int) (a2_1 : Int) (a2_2 : Int) (l2_3 : List Int) : Option (Int × Bool) := (spec_l4Both.f k a0_0 a0_1 a1_0 a1_1 a1_2 l1_3 a2_0 a2_1 a2_2 l2_3).bind fun t423 => (if t423 = true then ((spec_l4Table.f k a0_0 a0_1 a1_0 a1_1 a1_2 l1_3 a2_0 a2_1 a2_2 l2_3).bind fun t424 => ((spec_l4Worst.f k t424).bind fun t427 => (if t427 < 0 then (some (0, false)) else (some (t427, true))))) else (some (0, false)))
theorem spec_WorstMeet.mono : ∀ a0 a1 a2 a3 a4 a5 a6 a7 a8 a9 k, LeO (spec_WorstMeet.f k a0 a1 a2 a3 a4 a5 a6 a7 a8 a9) (spec_WorstMeet.f (k + 1) a0 a1 a2 a3 a4 a5 a6 a7 a8 a9) := by
  intro a0 a1 a2 a3 a4 a5 a6 a7 a8 a9 k
  unfold spec_WorstMeet.f
  repeat' first
      | (with_reducible exact spec_l4Both.mono _ _ _ _ _ _ _ _ _ _ _)
      | (with_reducible exact spec_l4Table.mono _ _ _ _ _ _ _ _ _ _ _)
      | (with_reducible exact spec_l4Worst.mono _ _)
      | (with_reducible exact LeO.refl _)
      | (with_reducible exact LeO.none _)
      | (with_reducible refine LeO.ite ?_ ?_)
      | (with_reducible refine LeO.bind ?_ (fun _ => ?_))
      | exact spec_l4Both.mono _ _ _ _ _ _ _ _ _ _ _
      | exact spec_l4Table.mono _ _ _ _ _ _ _ _ _ _ _
      | exact spec_l4Worst.mono _ _
      | exact LeO.none _
      | refine LeO.ite ?_ ?_
      | refine LeO.bind ?_ (fun _ => ?_)
set_option maxHeartbeats 8000000 in
set_option maxRecDepth 100000 in
theorem spec_WorstMeet.calls (k : Nat) (a0_0 : Int) (a0_1 : Bool) (a1_0 : Int) (a1_1 : Int) (a1_2 : Int) (A1_3 : Option Addr) (c1_3 : Nat) (l1_3 : List Int) (a2_0 : Int) (a2_1 : Int) (a2_2 : Int) (A2_3 : Option Addr) (c2_3 : Nat) (l2_3 : List Int) (r1 : Int) (r2 : Bool) (w : World) (hr1_3 : Kd.C (Kd.int .i64) w A1_3 l1_3.length l1_3) (hc1_3 : l1_3.length ≤ c1_3) (hr2_3 : Kd.C (Kd.int .i64) w A2_3 l2_3.length l2_3) (hc2_3 : l2_3.length ≤ c2_3) (h : spec_WorstMeet.f k a0_0 a0_1 a1_0 a1_1 a1_2 l1_3 a2_0 a2_1 a2_2 l2_3 = some (r1, r2)) :
    Calls Try.prog 96 #[.agg #[.int .i64 a0_0, .bool a0_1], .agg #[.int .i64 a1_0, .int .i64 a1_1, .int .i64 a1_2, .slice A1_3 l1_3.length c1_3], .agg #[.int .i64 a2_0, .int .i64 a2_1, .int .i64 a2_2, .slice A2_3 l2_3.length c2_3]] w fun e w' => e = .returned (.tuple #[.int .i64 r1, .bool r2]) ∧ Below w.heap.size w w' := by
 have hu25 := Try.underlying25
 have hu93 := Try.underlying93
 have HR1_3 := A_ hr1_3
 have HC1_3 := A_ hc1_3
 clear hr1_3 hc1_3
 have HR2_3 := A_ hr2_3
 have HC2_3 := A_ hc2_3
 clear hr2_3 hc2_3
 have HB := A_ (Below.refl w.heap.size w)
 have H : ((spec_l4Both.f k a0_0 a0_1 a1_0 a1_1 a1_2 l1_3 a2_0 a2_1 a2_2 l2_3).bind fun t423 => (if t423 = true then ((spec_l4Table.f k a0_0 a0_1 a1_0 a1_1 a1_2 l1_3 a2_0 a2_1 a2_2 l2_3).bind fun t424 => ((spec_l4Worst.f k t424).bind fun t427 => (if t427 < 0 then (some (0, false)) else (some (t427, true))))) else (some (0, false)))) = some (r1, r2) := h
 clear h
 replace H := Option.bind_eq_some_iff.mp H
 obtain ⟨t423, A40, H⟩ := H
 replace H : (if t423 = true then ((spec_l4Table.f k a0_0 a0_1 a1_0 a1_1 a1_2 l1_3 a2_0 a2_1 a2_2 l2_3).bind fun t424 => ((spec_l4Worst.f k t424).bind fun t427 => (if t427 < 0 then (some (0, false)) else (some (t427, true))))) else (some (0, false))) = some (r1, r2) := H
 have A4 := A_ A40
 clear A40
 by_cases c5 : t423 = true
 ·
  subst c5
  have H1 : ((spec_l4Table.f k a0_0 a0_1 a1_0 a1_1 a1_2 l1_3 a2_0 a2_1 a2_2 l2_3).bind fun t424 => ((spec_l4Worst.f k t424).bind fun t427 => (if t427 < 0 then (some (0, false)) else (some (t427, true))))) = some (r1, r2) := by rw [if_pos rfl] at H; exact H
  clear H
  have H := H1
  clear H1
  replace H := Option.bind_eq_some_iff.mp H
  obtain ⟨t424, A60, H⟩ := H
  replace H : ((spec_l4Worst.f k t424).bind fun t427 => (if t427 < 0 then (some (0, false)) else (some (t427, true)))) = some (r1, r2) := H
  have A6 := A_ A60
  clear A60
  replace H := Option.bind_eq_some_iff.mp H
  obtain ⟨t427, A70, H⟩ := H
  replace H : (if t427 < 0 then (some (0, false)) else (some (t427, true))) = some (r1, r2) := H
  have A7 := A_ A70
  clear A70
  by_cases c8 : t427 < 0
  ·
   rw [if_pos c8] at H
   have c8b0 : decide (t427 < 0) = true := decide_eq_true c8
   clear c8
   simp only [Option.some.injEq, Prod.mk.injEq] at H
   obtain ⟨rfl, rfl⟩ := H
   go_enter Try.func96, Try.ntmps96
   go_wp2_with (first | ((with_reducible refine gate_dst (N := 3) rfl ?_); refine box_event ?hg (N := 3) ?hd (cs := #[.int .i64 a0_0, .bool a0_1]) (t := 25) ?hr ?_; (case hd => rfl); (case hg => rfl); (case hr => first | (go_simp; done) | (go_simp; rfl)); intro gb420 hg w9 hbox hb; have n0_ := A_ (below_step (hq HB) hb); have n1_ := A_ (hbox); have n2_ := A_ ((by rw [hg]; exact (below_size (hq HB)) : w.heap.size ≤ gb420)); have n3_ := A_ ((by rw [hg]; exact (below_size (hq HB)) : w.heap.size ≤ gb420)); clear HB; have HB := n0_; have BK420 := n1_; have GW420 := n2_; have GE420 := n3_; clear n0_ n1_ n2_ n3_; clear hb hbox hg) | ((with_reducible refine gate_dst (N := 4) rfl ?_); refine box_event ?hg (N := 4) ?hd (cs := #[.int .i64 a1_0, .int .i64 a1_1, .int .i64 a1_2, .slice A1_3 l1_3.length c1_3]) (t := 93) ?hr ?_; (case hd => rfl); (case hg => rfl); (case hr => first | (go_simp; done) | (go_simp; rfl)); intro gb421 hg w10 hbox hb; have n0_ := A_ (blk_below (bq BK420) hb); have n1_ := A_ (below_step (hq HB) hb); have n2_ := A_ (hbox); have n3_ := A_ ((by rw [hg]; exact (below_size (hq HB)) : w.heap.size ≤ gb421)); have n4_ := A_ ((by rw [hg]; exact (below_size (hq HB)) : w.heap.size ≤ gb421)); have n5_ := A_ ((by rw [hg]; exact Nat.ne_of_lt (blk_lt (bq BK420)) : gb420 ≠ gb421)); have n6_ := A_ ((by rw [hg]; exact Nat.ne_of_gt (blk_lt (bq BK420)) : gb421 ≠ gb420)); clear BK420; clear HB; have BK420 := n0_; have HB := n1_; have BK421 := n2_; have GW421 := n3_; have GE421 := n4_; have NB420_421 := n5_; have NB421_420 := n6_; clear n0_ n1_ n2_ n3_ n4_ n5_ n6_; clear hb hbox hg) | ((with_reducible refine gate_dst (N := 5) rfl ?_); refine box_event ?hg (N := 5) ?hd (cs := #[.int .i64 a2_0, .int .i64 a2_1, .int .i64 a2_2, .slice A2_3 l2_3.length c2_3]) (t := 93) ?hr ?_; (case hd => rfl); (case hg => rfl); (case hr => first | (go_simp; done) | (go_simp; rfl)); intro gb422 hg w11 hbox hb; have n0_ := A_ (blk_below (bq BK420) hb); have n1_ := A_ (blk_below (bq BK421) hb); have n2_ := A_ (below_step (hq HB) hb); have n3_ := A_ (hbox); have n4_ := A_ ((by rw [hg]; exact (below_size (hq HB)) : w.heap.size ≤ gb422)); have n5_ := A_ ((by rw [hg]; exact (below_size (hq HB)) : w.heap.size ≤ gb422)); have n6_ := A_ ((by rw [hg]; exact Nat.ne_of_lt (blk_lt (bq BK420)) : gb420 ≠ gb422)); have n7_ := A_ ((by rw [hg]; exact Nat.ne_of_gt (blk_lt (bq BK420)) : gb422 ≠ gb420)); have n8_ := A_ ((by rw [hg]; exact Nat.ne_of_lt (blk_lt (bq BK421)) : gb421 ≠ gb422)); have n9_ := A_ ((by rw [hg]; exact Nat.ne_of_gt (blk_lt (bq BK421)) : gb422 ≠ gb421)); clear BK420; clear BK421; clear HB; have BK420 := n0_; have BK421 := n1_; have HB := n2_; have BK422 := n3_; have GW422 := n4_; have GE422 := n5_; have NB420_422 := n6_; have NB422_420 := n7_; have NB421_422 := n8_; have NB422_421 := n9_; clear n0_ n1_ n2_ n3_ n4_ n5_ n6_ n7_ n8_ n9_; clear hb hbox hg; have hnb12 := NB420_421.out; have hnc12 := NB421_420.out; have hnb13 := NB420_422.out; have hnc13 := NB422_420.out; have hcz14_0 : w11.cell? ⟨gb420, 0, none⟩ = some (.int .i64 a0_0) := bc BK420 0; have hcz14_1 : w11.cell? ⟨gb420, 1, none⟩ = some (.bool a0_1) := bc BK420 1; have hfz14_0 := blk_frozen BK420.out 0; have hfz14_1 := blk_frozen BK420.out 1; have hnb15 := NB421_422.out; have hnc15 := NB422_421.out; have hcz16_0 : w11.cell? ⟨gb421, 0, none⟩ = some (.int .i64 a1_0) := bc BK421 0; have hcz16_1 : w11.cell? ⟨gb421, 1, none⟩ = some (.int .i64 a1_1) := bc BK421 1; have hcz16_2 : w11.cell? ⟨gb421, 2, none⟩ = some (.int .i64 a1_2) := bc BK421 2; have hcz16_3 : w11.cell? ⟨gb421, 3, none⟩ = some (.slice A1_3 l1_3.length c1_3) := bc BK421 3; have hfz16_0 := blk_frozen BK421.out 0; have hfz16_1 := blk_frozen BK421.out 1; have hfz16_2 := blk_frozen BK421.out 2; have hfz16_3 := blk_frozen BK421.out 3; have hcz17_0 : w11.cell? ⟨gb422, 0, none⟩ = some (.int .i64 a2_0) := bc BK422 0; have hcz17_1 : w11.cell? ⟨gb422, 1, none⟩ = some (.int .i64 a2_1) := bc BK422 1; have hcz17_2 : w11.cell? ⟨gb422, 2, none⟩ = some (.int .i64 a2_2) := bc BK422 2; have hcz17_3 : w11.cell? ⟨gb422, 3, none⟩ = some (.slice A2_3 l2_3.length c2_3) := bc BK422 3; have hfz17_0 := blk_frozen BK422.out 0; have hfz17_1 := blk_frozen BK422.out 1; have hfz17_2 := blk_frozen BK422.out 2; have hfz17_3 := blk_frozen BK422.out 3) | ((with_reducible refine gate_callee (f := 111) rfl ?_); refine goesL_ (some 12) rfl rfl Try.func111 (by kernel_rfl) rfl #[.agg #[.int .i64 a0_0, .bool a0_1], .agg #[.int .i64 a1_0, .int .i64 a1_1, .int .i64 a1_2, .slice A1_3 l1_3.length c1_3], .agg #[.int .i64 a2_0, .int .i64 a2_1, .int .i64 a2_2, .slice A2_3 l2_3.length c2_3]] rfl gq ?_; (with_reducible refine (spec_l4Both.calls k a0_0 a0_1 a1_0 a1_1 a1_2 _ _ l1_3 a2_0 a2_1 a2_2 _ _ l2_3 true _ ?side1 ?side2 ?side3 ?side4 A4.out).mono ?_); (case side1 => exact cq (Kd.C_below HR1_3.out HB.out)); (case side2 => exact HC1_3.out); (case side3 => exact cq (Kd.C_below HR2_3.out HB.out)); (case side4 => exact HC2_3.out); rintro e w18 ⟨rfl, hb⟩; refine ⟨_, rfl, ?_⟩; have n0_ := A_ (blk_below (bq BK420) hb); have n1_ := A_ (blk_below (bq BK421) hb); have n2_ := A_ (blk_below (bq BK422) hb); have n3_ := A_ (below_step (hq HB) hb); clear BK420; clear BK421; clear BK422; clear HB; have BK420 := n0_; have BK421 := n1_; have BK422 := n2_; have HB := n3_; clear n0_ n1_ n2_ n3_; (try clear hb); (try clear hb2); (try clear hk); (try clear hi); have hcz19_0 : w18.cell? ⟨gb420, 0, none⟩ = some (.int .i64 a0_0) := bc BK420 0; have hcz19_1 : w18.cell? ⟨gb420, 1, none⟩ = some (.bool a0_1) := bc BK420 1; have hfz19_0 := blk_frozen BK420.out 0; have hfz19_1 := blk_frozen BK420.out 1; have hcz20_0 : w18.cell? ⟨gb421, 0, none⟩ = some (.int .i64 a1_0) := bc BK421 0; have hcz20_1 : w18.cell? ⟨gb421, 1, none⟩ = some (.int .i64 a1_1) := bc BK421 1; have hcz20_2 : w18.cell? ⟨gb421, 2, none⟩ = some (.int .i64 a1_2) := bc BK421 2; have hcz20_3 : w18.cell? ⟨gb421, 3, none⟩ = some (.slice A1_3 l1_3.length c1_3) := bc BK421 3; have hfz20_0 := blk_frozen BK421.out 0; have hfz20_1 := blk_frozen BK421.out 1; have hfz20_2 := blk_frozen BK421.out 2; have hfz20_3 := blk_frozen BK421.out 3; have hcz21_0 : w18.cell? ⟨gb422, 0, none⟩ = some (.int .i64 a2_0) := bc BK422 0; have hcz21_1 : w18.cell? ⟨gb422, 1, none⟩ = some (.int .i64 a2_1) := bc BK422 1; have hcz21_2 : w18.cell? ⟨gb422, 2, none⟩ = some (.int .i64 a2_2) := bc BK422 2; have hcz21_3 : w18.cell? ⟨gb422, 3, none⟩ = some (.slice A2_3 l2_3.length c2_3) := bc BK422 3; have hfz21_0 := blk_frozen BK422.out 0; have hfz21_1 := blk_frozen BK422.out 1; have hfz21_2 := blk_frozen BK422.out 2; have hfz21_3 := blk_frozen BK422.out 3) | ((with_reducible refine gate_callee (f := 113) rfl ?_); refine goesL_ (some 17) rfl rfl Try.func113 (by kernel_rfl) rfl #[.agg #[.int .i64 a0_0, .bool a0_1], .agg #[.int .i64 a1_0, .int .i64 a1_1, .int .i64 a1_2, .slice A1_3 l1_3.length c1_3], .agg #[.int .i64 a2_0, .int .i64 a2_1, .int .i64 a2_2, .slice A2_3 l2_3.length c2_3]] rfl gq ?_; (with_reducible refine (spec_l4Table.calls k a0_0 a0_1 a1_0 a1_1 a1_2 _ _ l1_3 a2_0 a2_1 a2_2 _ _ l2_3 t424 _ ?side1 ?side2 ?side3 ?side4 A6.out).mono ?_); (case side1 => exact cq (Kd.C_below HR1_3.out HB.out)); (case side2 => exact HC1_3.out); (case side3 => exact cq (Kd.C_below HR2_3.out HB.out)); (case side4 => exact HC2_3.out); rintro e w22 ⟨v425, rfl, ho0, hb⟩; refine ⟨_, rfl, ?_⟩; have n0_ := A_ (Kd.S_lower ho0 (below_size (hq HB))); have n1_ := A_ (blk_below (bq BK420) hb); have n2_ := A_ (blk_below (bq BK421) hb); have n3_ := A_ (blk_below (bq BK422) hb); have n4_ := A_ (below_step (hq HB) hb); clear BK420; clear BK421; clear BK422; clear HB; have HO426 := n0_; have BK420 := n1_; have BK421 := n2_; have BK422 := n3_; have HB := n4_; clear n0_ n1_ n2_ n3_ n4_; (try clear hb); (try clear hb2); (try clear hk); (try clear hi); (try clear ho0); obtain ⟨Ao23, co23, eo23⟩ := Kd.S_slice HO426.out; subst eo23) | ((with_reducible refine gate_callee (f := 112) rfl ?_); refine goesL_ (some 18) rfl rfl Try.func112 (by kernel_rfl) rfl #[.slice Ao23 t424.length co23] rfl gq ?_; (with_reducible refine (spec_l4Worst.calls k _ _ t424 t427 _ ?side1 ?side2 A7.out).mono ?_); (case side1 => exact cq (Kd.S_reads' HO426.out).2.2); (case side2 => exact (Kd.S_reads' HO426.out).2.1); rintro e w' ⟨rfl, ⟨nd, rfl⟩⟩; refine ⟨_, rfl, ?_⟩))
   go_ret2
   exact ⟨rt, hq HB⟩
  ·
   rw [if_neg c8] at H
   have c8b0 : decide (t427 < 0) = false := decide_eq_false c8
   clear c8
   simp only [Option.some.injEq, Prod.mk.injEq] at H
   obtain ⟨rfl, rfl⟩ := H
   go_enter Try.func96, Try.ntmps96
   go_wp2_with (first | ((with_reducible refine gate_dst (N := 3) rfl ?_); refine box_event ?hg (N := 3) ?hd (cs := #[.int .i64 a0_0, .bool a0_1]) (t := 25) ?hr ?_; (case hd => rfl); (case hg => rfl); (case hr => first | (go_simp; done) | (go_simp; rfl)); intro gb420 hg w24 hbox hb; have n0_ := A_ (below_step (hq HB) hb); have n1_ := A_ (hbox); have n2_ := A_ ((by rw [hg]; exact (below_size (hq HB)) : w.heap.size ≤ gb420)); have n3_ := A_ ((by rw [hg]; exact (below_size (hq HB)) : w.heap.size ≤ gb420)); clear HB; have HB := n0_; have BK420 := n1_; have GW420 := n2_; have GE420 := n3_; clear n0_ n1_ n2_ n3_; clear hb hbox hg) | ((with_reducible refine gate_dst (N := 4) rfl ?_); refine box_event ?hg (N := 4) ?hd (cs := #[.int .i64 a1_0, .int .i64 a1_1, .int .i64 a1_2, .slice A1_3 l1_3.length c1_3]) (t := 93) ?hr ?_; (case hd => rfl); (case hg => rfl); (case hr => first | (go_simp; done) | (go_simp; rfl)); intro gb421 hg w25 hbox hb; have n0_ := A_ (blk_below (bq BK420) hb); have n1_ := A_ (below_step (hq HB) hb); have n2_ := A_ (hbox); have n3_ := A_ ((by rw [hg]; exact (below_size (hq HB)) : w.heap.size ≤ gb421)); have n4_ := A_ ((by rw [hg]; exact (below_size (hq HB)) : w.heap.size ≤ gb421)); have n5_ := A_ ((by rw [hg]; exact Nat.ne_of_lt (blk_lt (bq BK420)) : gb420 ≠ gb421)); have n6_ := A_ ((by rw [hg]; exact Nat.ne_of_gt (blk_lt (bq BK420)) : gb421 ≠ gb420)); clear BK420; clear HB; have BK420 := n0_; have HB := n1_; have BK421 := n2_; have GW421 := n3_; have GE421 := n4_; have NB420_421 := n5_; have NB421_420 := n6_; clear n0_ n1_ n2_ n3_ n4_ n5_ n6_; clear hb hbox hg) | ((with_reducible refine gate_dst (N := 5) rfl ?_); refine box_event ?hg (N := 5) ?hd (cs := #[.int .i64 a2_0, .int .i64 a2_1, .int .i64 a2_2, .slice A2_3 l2_3.length c2_3]) (t := 93) ?hr ?_; (case hd => rfl); (case hg => rfl); (case hr => first | (go_simp; done) | (go_simp; rfl)); intro gb422 hg w26 hbox hb; have n0_ := A_ (blk_below (bq BK420) hb); have n1_ := A_ (blk_below (bq BK421) hb); have n2_ := A_ (below_step (hq HB) hb); have n3_ := A_ (hbox); have n4_ := A_ ((by rw [hg]; exact (below_size (hq HB)) : w.heap.size ≤ gb422)); have n5_ := A_ ((by rw [hg]; exact (below_size (hq HB)) : w.heap.size ≤ gb422)); have n6_ := A_ ((by rw [hg]; exact Nat.ne_of_lt (blk_lt (bq BK420)) : gb420 ≠ gb422)); have n7_ := A_ ((by rw [hg]; exact Nat.ne_of_gt (blk_lt (bq BK420)) : gb422 ≠ gb420)); have n8_ := A_ ((by rw [hg]; exact Nat.ne_of_lt (blk_lt (bq BK421)) : gb421 ≠ gb422)); have n9_ := A_ ((by rw [hg]; exact Nat.ne_of_gt (blk_lt (bq BK421)) : gb422 ≠ gb421)); clear BK420; clear BK421; clear HB; have BK420 := n0_; have BK421 := n1_; have HB := n2_; have BK422 := n3_; have GW422 := n4_; have GE422 := n5_; have NB420_422 := n6_; have NB422_420 := n7_; have NB421_422 := n8_; have NB422_421 := n9_; clear n0_ n1_ n2_ n3_ n4_ n5_ n6_ n7_ n8_ n9_; clear hb hbox hg; have hnb27 := NB420_421.out; have hnc27 := NB421_420.out; have hnb28 := NB420_422.out; have hnc28 := NB422_420.out; have hcz29_0 : w26.cell? ⟨gb420, 0, none⟩ = some (.int .i64 a0_0) := bc BK420 0; have hcz29_1 : w26.cell? ⟨gb420, 1, none⟩ = some (.bool a0_1) := bc BK420 1; have hfz29_0 := blk_frozen BK420.out 0; have hfz29_1 := blk_frozen BK420.out 1; have hnb30 := NB421_422.out; have hnc30 := NB422_421.out; have hcz31_0 : w26.cell? ⟨gb421, 0, none⟩ = some (.int .i64 a1_0) := bc BK421 0; have hcz31_1 : w26.cell? ⟨gb421, 1, none⟩ = some (.int .i64 a1_1) := bc BK421 1; have hcz31_2 : w26.cell? ⟨gb421, 2, none⟩ = some (.int .i64 a1_2) := bc BK421 2; have hcz31_3 : w26.cell? ⟨gb421, 3, none⟩ = some (.slice A1_3 l1_3.length c1_3) := bc BK421 3; have hfz31_0 := blk_frozen BK421.out 0; have hfz31_1 := blk_frozen BK421.out 1; have hfz31_2 := blk_frozen BK421.out 2; have hfz31_3 := blk_frozen BK421.out 3; have hcz32_0 : w26.cell? ⟨gb422, 0, none⟩ = some (.int .i64 a2_0) := bc BK422 0; have hcz32_1 : w26.cell? ⟨gb422, 1, none⟩ = some (.int .i64 a2_1) := bc BK422 1; have hcz32_2 : w26.cell? ⟨gb422, 2, none⟩ = some (.int .i64 a2_2) := bc BK422 2; have hcz32_3 : w26.cell? ⟨gb422, 3, none⟩ = some (.slice A2_3 l2_3.length c2_3) := bc BK422 3; have hfz32_0 := blk_frozen BK422.out 0; have hfz32_1 := blk_frozen BK422.out 1; have hfz32_2 := blk_frozen BK422.out 2; have hfz32_3 := blk_frozen BK422.out 3) | ((with_reducible refine gate_callee (f := 111) rfl ?_); refine goesL_ (some 12) rfl rfl Try.func111 (by kernel_rfl) rfl #[.agg #[.int .i64 a0_0, .bool a0_1], .agg #[.int .i64 a1_0, .int .i64 a1_1, .int .i64 a1_2, .slice A1_3 l1_3.length c1_3], .agg #[.int .i64 a2_0, .int .i64 a2_1, .int .i64 a2_2, .slice A2_3 l2_3.length c2_3]] rfl gq ?_; (with_reducible refine (spec_l4Both.calls k a0_0 a0_1 a1_0 a1_1 a1_2 _ _ l1_3 a2_0 a2_1 a2_2 _ _ l2_3 true _ ?side1 ?side2 ?side3 ?side4 A4.out).mono ?_); (case side1 => exact cq (Kd.C_below HR1_3.out HB.out)); (case side2 => exact HC1_3.out); (case side3 => exact cq (Kd.C_below HR2_3.out HB.out)); (case side4 => exact HC2_3.out); rintro e w33 ⟨rfl, hb⟩; refine ⟨_, rfl, ?_⟩; have n0_ := A_ (blk_below (bq BK420) hb); have n1_ := A_ (blk_below (bq BK421) hb); have n2_ := A_ (blk_below (bq BK422) hb); have n3_ := A_ (below_step (hq HB) hb); clear BK420; clear BK421; clear BK422; clear HB; have BK420 := n0_; have BK421 := n1_; have BK422 := n2_; have HB := n3_; clear n0_ n1_ n2_ n3_; (try clear hb); (try clear hb2); (try clear hk); (try clear hi); have hcz34_0 : w33.cell? ⟨gb420, 0, none⟩ = some (.int .i64 a0_0) := bc BK420 0; have hcz34_1 : w33.cell? ⟨gb420, 1, none⟩ = some (.bool a0_1) := bc BK420 1; have hfz34_0 := blk_frozen BK420.out 0; have hfz34_1 := blk_frozen BK420.out 1; have hcz35_0 : w33.cell? ⟨gb421, 0, none⟩ = some (.int .i64 a1_0) := bc BK421 0; have hcz35_1 : w33.cell? ⟨gb421, 1, none⟩ = some (.int .i64 a1_1) := bc BK421 1; have hcz35_2 : w33.cell? ⟨gb421, 2, none⟩ = some (.int .i64 a1_2) := bc BK421 2; have hcz35_3 : w33.cell? ⟨gb421, 3, none⟩ = some (.slice A1_3 l1_3.length c1_3) := bc BK421 3; have hfz35_0 := blk_frozen BK421.out 0; have hfz35_1 := blk_frozen BK421.out 1; have hfz35_2 := blk_frozen BK421.out 2; have hfz35_3 := blk_frozen BK421.out 3; have hcz36_0 : w33.cell? ⟨gb422, 0, none⟩ = some (.int .i64 a2_0) := bc BK422 0; have hcz36_1 : w33.cell? ⟨gb422, 1, none⟩ = some (.int .i64 a2_1) := bc BK422 1; have hcz36_2 : w33.cell? ⟨gb422, 2, none⟩ = some (.int .i64 a2_2) := bc BK422 2; have hcz36_3 : w33.cell? ⟨gb422, 3, none⟩ = some (.slice A2_3 l2_3.length c2_3) := bc BK422 3; have hfz36_0 := blk_frozen BK422.out 0; have hfz36_1 := blk_frozen BK422.out 1; have hfz36_2 := blk_frozen BK422.out 2; have hfz36_3 := blk_frozen BK422.out 3) | ((with_reducible refine gate_callee (f := 113) rfl ?_); refine goesL_ (some 17) rfl rfl Try.func113 (by kernel_rfl) rfl #[.agg #[.int .i64 a0_0, .bool a0_1], .agg #[.int .i64 a1_0, .int .i64 a1_1, .int .i64 a1_2, .slice A1_3 l1_3.length c1_3], .agg #[.int .i64 a2_0, .int .i64 a2_1, .int .i64 a2_2, .slice A2_3 l2_3.length c2_3]] rfl gq ?_; (with_reducible refine (spec_l4Table.calls k a0_0 a0_1 a1_0 a1_1 a1_2 _ _ l1_3 a2_0 a2_1 a2_2 _ _ l2_3 t424 _ ?side1 ?side2 ?side3 ?side4 A6.out).mono ?_); (case side1 => exact cq (Kd.C_below HR1_3.out HB.out)); (case side2 => exact HC1_3.out); (case side3 => exact cq (Kd.C_below HR2_3.out HB.out)); (case side4 => exact HC2_3.out); rintro e w37 ⟨v425, rfl, ho0, hb⟩; refine ⟨_, rfl, ?_⟩; have n0_ := A_ (Kd.S_lower ho0 (below_size (hq HB))); have n1_ := A_ (blk_below (bq BK420) hb); have n2_ := A_ (blk_below (bq BK421) hb); have n3_ := A_ (blk_below (bq BK422) hb); have n4_ := A_ (below_step (hq HB) hb); clear BK420; clear BK421; clear BK422; clear HB; have HO426 := n0_; have BK420 := n1_; have BK421 := n2_; have BK422 := n3_; have HB := n4_; clear n0_ n1_ n2_ n3_ n4_; (try clear hb); (try clear hb2); (try clear hk); (try clear hi); (try clear ho0); obtain ⟨Ao38, co38, eo38⟩ := Kd.S_slice HO426.out; subst eo38) | ((with_reducible refine gate_callee (f := 112) rfl ?_); refine goesL_ (some 18) rfl rfl Try.func112 (by kernel_rfl) rfl #[.slice Ao38 t424.length co38] rfl gq ?_; (with_reducible refine (spec_l4Worst.calls k _ _ t424 t427 _ ?side1 ?side2 A7.out).mono ?_); (case side1 => exact cq (Kd.S_reads' HO426.out).2.2); (case side2 => exact (Kd.S_reads' HO426.out).2.1); rintro e w' ⟨rfl, ⟨nd, rfl⟩⟩; refine ⟨_, rfl, ?_⟩))
   go_ret2
   exact ⟨rt, hq HB⟩
 ·
  replace c5 := Bool.eq_false_iff.mpr c5
  subst c5
  have H1 : (some (0, false)) = some (r1, r2) := by rw [if_neg (show ¬ (false = true) by decide)] at H; exact H
  clear H
  have H := H1
  clear H1
  simp only [Option.some.injEq, Prod.mk.injEq] at H
  obtain ⟨rfl, rfl⟩ := H
  go_enter Try.func96, Try.ntmps96
  go_wp2_with (first | ((with_reducible refine gate_dst (N := 3) rfl ?_); refine box_event ?hg (N := 3) ?hd (cs := #[.int .i64 a0_0, .bool a0_1]) (t := 25) ?hr ?_; (case hd => rfl); (case hg => rfl); (case hr => first | (go_simp; done) | (go_simp; rfl)); intro gb420 hg w39 hbox hb; have n0_ := A_ (below_step (hq HB) hb); have n1_ := A_ (hbox); have n2_ := A_ ((by rw [hg]; exact (below_size (hq HB)) : w.heap.size ≤ gb420)); have n3_ := A_ ((by rw [hg]; exact (below_size (hq HB)) : w.heap.size ≤ gb420)); clear HB; have HB := n0_; have BK420 := n1_; have GW420 := n2_; have GE420 := n3_; clear n0_ n1_ n2_ n3_; clear hb hbox hg) | ((with_reducible refine gate_dst (N := 4) rfl ?_); refine box_event ?hg (N := 4) ?hd (cs := #[.int .i64 a1_0, .int .i64 a1_1, .int .i64 a1_2, .slice A1_3 l1_3.length c1_3]) (t := 93) ?hr ?_; (case hd => rfl); (case hg => rfl); (case hr => first | (go_simp; done) | (go_simp; rfl)); intro gb421 hg w40 hbox hb; have n0_ := A_ (blk_below (bq BK420) hb); have n1_ := A_ (below_step (hq HB) hb); have n2_ := A_ (hbox); have n3_ := A_ ((by rw [hg]; exact (below_size (hq HB)) : w.heap.size ≤ gb421)); have n4_ := A_ ((by rw [hg]; exact (below_size (hq HB)) : w.heap.size ≤ gb421)); have n5_ := A_ ((by rw [hg]; exact Nat.ne_of_lt (blk_lt (bq BK420)) : gb420 ≠ gb421)); have n6_ := A_ ((by rw [hg]; exact Nat.ne_of_gt (blk_lt (bq BK420)) : gb421 ≠ gb420)); clear BK420; clear HB; have BK420 := n0_; have HB := n1_; have BK421 := n2_; have GW421 := n3_; have GE421 := n4_; have NB420_421 := n5_; have NB421_420 := n6_; clear n0_ n1_ n2_ n3_ n4_ n5_ n6_; clear hb hbox hg) | ((with_reducible refine gate_dst (N := 5) rfl ?_); refine box_event ?hg (N := 5) ?hd (cs := #[.int .i64 a2_0, .int .i64 a2_1, .int .i64 a2_2, .slice A2_3 l2_3.length c2_3]) (t := 93) ?hr ?_; (case hd => rfl); (case hg => rfl); (case hr => first | (go_simp; done) | (go_simp; rfl)); intro gb422 hg w41 hbox hb; have n0_ := A_ (blk_below (bq BK420) hb); have n1_ := A_ (blk_below (bq BK421) hb); have n2_ := A_ (below_step (hq HB) hb); have n3_ := A_ (hbox); have n4_ := A_ ((by rw [hg]; exact (below_size (hq HB)) : w.heap.size ≤ gb422)); have n5_ := A_ ((by rw [hg]; exact (below_size (hq HB)) : w.heap.size ≤ gb422)); have n6_ := A_ ((by rw [hg]; exact Nat.ne_of_lt (blk_lt (bq BK420)) : gb420 ≠ gb422)); have n7_ := A_ ((by rw [hg]; exact Nat.ne_of_gt (blk_lt (bq BK420)) : gb422 ≠ gb420)); have n8_ := A_ ((by rw [hg]; exact Nat.ne_of_lt (blk_lt (bq BK421)) : gb421 ≠ gb422)); have n9_ := A_ ((by rw [hg]; exact Nat.ne_of_gt (blk_lt (bq BK421)) : gb422 ≠ gb421)); clear BK420; clear BK421; clear HB; have BK420 := n0_; have BK421 := n1_; have HB := n2_; have BK422 := n3_; have GW422 := n4_; have GE422 := n5_; have NB420_422 := n6_; have NB422_420 := n7_; have NB421_422 := n8_; have NB422_421 := n9_; clear n0_ n1_ n2_ n3_ n4_ n5_ n6_ n7_ n8_ n9_; clear hb hbox hg; have hnb42 := NB420_421.out; have hnc42 := NB421_420.out; have hnb43 := NB420_422.out; have hnc43 := NB422_420.out; have hcz44_0 : w41.cell? ⟨gb420, 0, none⟩ = some (.int .i64 a0_0) := bc BK420 0; have hcz44_1 : w41.cell? ⟨gb420, 1, none⟩ = some (.bool a0_1) := bc BK420 1; have hfz44_0 := blk_frozen BK420.out 0; have hfz44_1 := blk_frozen BK420.out 1; have hnb45 := NB421_422.out; have hnc45 := NB422_421.out; have hcz46_0 : w41.cell? ⟨gb421, 0, none⟩ = some (.int .i64 a1_0) := bc BK421 0; have hcz46_1 : w41.cell? ⟨gb421, 1, none⟩ = some (.int .i64 a1_1) := bc BK421 1; have hcz46_2 : w41.cell? ⟨gb421, 2, none⟩ = some (.int .i64 a1_2) := bc BK421 2; have hcz46_3 : w41.cell? ⟨gb421, 3, none⟩ = some (.slice A1_3 l1_3.length c1_3) := bc BK421 3; have hfz46_0 := blk_frozen BK421.out 0; have hfz46_1 := blk_frozen BK421.out 1; have hfz46_2 := blk_frozen BK421.out 2; have hfz46_3 := blk_frozen BK421.out 3; have hcz47_0 : w41.cell? ⟨gb422, 0, none⟩ = some (.int .i64 a2_0) := bc BK422 0; have hcz47_1 : w41.cell? ⟨gb422, 1, none⟩ = some (.int .i64 a2_1) := bc BK422 1; have hcz47_2 : w41.cell? ⟨gb422, 2, none⟩ = some (.int .i64 a2_2) := bc BK422 2; have hcz47_3 : w41.cell? ⟨gb422, 3, none⟩ = some (.slice A2_3 l2_3.length c2_3) := bc BK422 3; have hfz47_0 := blk_frozen BK422.out 0; have hfz47_1 := blk_frozen BK422.out 1; have hfz47_2 := blk_frozen BK422.out 2; have hfz47_3 := blk_frozen BK422.out 3) | ((with_reducible refine gate_callee (f := 111) rfl ?_); refine goesL_ (some 12) rfl rfl Try.func111 (by kernel_rfl) rfl #[.agg #[.int .i64 a0_0, .bool a0_1], .agg #[.int .i64 a1_0, .int .i64 a1_1, .int .i64 a1_2, .slice A1_3 l1_3.length c1_3], .agg #[.int .i64 a2_0, .int .i64 a2_1, .int .i64 a2_2, .slice A2_3 l2_3.length c2_3]] rfl gq ?_; (with_reducible refine (spec_l4Both.calls k a0_0 a0_1 a1_0 a1_1 a1_2 _ _ l1_3 a2_0 a2_1 a2_2 _ _ l2_3 false _ ?side1 ?side2 ?side3 ?side4 A4.out).mono ?_); (case side1 => exact cq (Kd.C_below HR1_3.out HB.out)); (case side2 => exact HC1_3.out); (case side3 => exact cq (Kd.C_below HR2_3.out HB.out)); (case side4 => exact HC2_3.out); rintro e w48 ⟨rfl, hb⟩; refine ⟨_, rfl, ?_⟩; have n0_ := A_ (blk_below (bq BK420) hb); have n1_ := A_ (blk_below (bq BK421) hb); have n2_ := A_ (blk_below (bq BK422) hb); have n3_ := A_ (below_step (hq HB) hb); clear BK420; clear BK421; clear BK422; clear HB; have BK420 := n0_; have BK421 := n1_; have BK422 := n2_; have HB := n3_; clear n0_ n1_ n2_ n3_; (try clear hb); (try clear hb2); (try clear hk); (try clear hi)))
  go_ret2
  exact ⟨rt, hq HB⟩

/-! ### spec_LabelTime: function 41 -/
def spec_LabelTime.j0 : Nat → List Int → List Int → Bool → Int → Bool → Option (Int × Bool)
  | 0, _, _, _, _, _ => none
  | k + 1, x1, x2, x42, x429000, x429001 => if x42 = true then (some (0, false)) else ((spec_l4Told.f k x1 x429000).bind fun t432 => ((spec_l4Told.f k x2 x429000).bind fun t436 => ((spec_WorstMeet.f k x429000 x429001 0 1 0 t432 0 1 0 t436).bind fun bt440 => (some (bt440.1, bt440.2)))))
def spec_LabelTime.f (k : Nat) (a0_0 : Int) (a0_1 : Bool) (l1 : List Int) (l2 : List Int) : Option (Int × Bool) := (spec_l2Road.f a0_0 a0_1).bind fun t429 => (if t429 = true then (if a0_1 = true then ((spec_l4Bits.f k l1).bind fun t430 => (if t430 = true then ((spec_l4Bits.f k l2).bind fun t431 => (if t431 = true then (if (l1.length : Int) = (l2.length : Int) then (spec_LabelTime.j0 k l1 l2 (decide ((wrap64 (a0_0 * (l1.length : Int))) > 24)) a0_0 a0_1) else (spec_LabelTime.j0 k l1 l2 true a0_0 a0_1)) else (spec_LabelTime.j0 k l1 l2 true a0_0 a0_1))) else (spec_LabelTime.j0 k l1 l2 true a0_0 a0_1))) else (spec_LabelTime.j0 k l1 l2 true a0_0 a0_1)) else (spec_LabelTime.j0 k l1 l2 true a0_0 a0_1))
theorem spec_LabelTime.mono_l : ∀ k, (∀ y0 y1 y2 y3 y4, LeO (spec_LabelTime.j0 k y0 y1 y2 y3 y4) (spec_LabelTime.j0 (k + 1) y0 y1 y2 y3 y4))
  | 0 => fun _ _ _ _ _ r h => by simp [spec_LabelTime.j0] at h
  | k + 1 => by
    have ih0 := spec_LabelTime.mono_l k
    · intro y0 y1 y2 y3 y4
      unfold spec_LabelTime.j0
      repeat' first
      | (with_reducible exact ih0 _ _ _ _ _)
      | (with_reducible exact spec_WorstMeet.mono _ _ _ _ _ _ _ _ _ _ _)
      | (with_reducible exact spec_l4Bits.mono _ _)
      | (with_reducible exact spec_l4Told.mono _ _ _)
      | (with_reducible exact LeO.refl _)
      | (with_reducible exact LeO.none _)
      | (with_reducible refine LeO.ite ?_ ?_)
      | (with_reducible refine LeO.bind ?_ (fun _ => ?_))
      | exact ih0 _ _ _ _ _
      | exact spec_WorstMeet.mono _ _ _ _ _ _ _ _ _ _ _
      | exact spec_l4Bits.mono _ _
      | exact spec_l4Told.mono _ _ _
      | exact LeO.none _
      | refine LeO.ite ?_ ?_
      | refine LeO.bind ?_ (fun _ => ?_)
theorem spec_LabelTime.mono : ∀ a0 a1 a2 a3 k, LeO (spec_LabelTime.f k a0 a1 a2 a3) (spec_LabelTime.f (k + 1) a0 a1 a2 a3) := by
  intro a0 a1 a2 a3 k
  have ih0 := spec_LabelTime.mono_l k
  unfold spec_LabelTime.f
  repeat' first
      | (with_reducible exact ih0 _ _ _ _ _)
      | (with_reducible exact spec_WorstMeet.mono _ _ _ _ _ _ _ _ _ _ _)
      | (with_reducible exact spec_l4Bits.mono _ _)
      | (with_reducible exact spec_l4Told.mono _ _ _)
      | (with_reducible exact LeO.refl _)
      | (with_reducible exact LeO.none _)
      | (with_reducible refine LeO.ite ?_ ?_)
      | (with_reducible refine LeO.bind ?_ (fun _ => ?_))
      | exact ih0 _ _ _ _ _
      | exact spec_WorstMeet.mono _ _ _ _ _ _ _ _ _ _ _
      | exact spec_l4Bits.mono _ _
      | exact spec_l4Told.mono _ _ _
      | exact LeO.none _
      | refine LeO.ite ?_ ?_
      | refine LeO.bind ?_ (fun _ => ?_)
set_option maxHeartbeats 8000000 in
set_option maxRecDepth 100000 in
theorem spec_LabelTime.calls (k : Nat) (a0_0 : Int) (a0_1 : Bool) (A1 : Option Addr) (c1 : Nat) (l1 : List Int) (A2 : Option Addr) (c2 : Nat) (l2 : List Int) (r1 : Int) (r2 : Bool) (w : World) (hr1 : Kd.C (Kd.int .i64) w A1 l1.length l1) (hc1 : l1.length ≤ c1) (hr2 : Kd.C (Kd.int .i64) w A2 l2.length l2) (hc2 : l2.length ≤ c2) (h : spec_LabelTime.f k a0_0 a0_1 l1 l2 = some (r1, r2)) :
    Calls Try.prog 41 #[.agg #[.int .i64 a0_0, .bool a0_1], .slice A1 l1.length c1, .slice A2 l2.length c2] w fun e w' => e = .returned (.tuple #[.int .i64 r1, .bool r2]) ∧ Below w.heap.size w w' := by
 have hu25 := Try.underlying25
 have hu93 := Try.underlying93
 have HR1 := A_ hr1
 have HC1 := A_ hc1
 clear hr1 hc1
 have HR2 := A_ hr2
 have HC2 := A_ hc2
 clear hr2 hc2
 have HB := A_ (Below.refl w.heap.size w)
 have H : ((spec_l2Road.f a0_0 a0_1).bind fun t429 => (if t429 = true then (if a0_1 = true then ((spec_l4Bits.f k l1).bind fun t430 => (if t430 = true then ((spec_l4Bits.f k l2).bind fun t431 => (if t431 = true then (if (l1.length : Int) = (l2.length : Int) then (spec_LabelTime.j0 k l1 l2 (decide ((wrap64 (a0_0 * (l1.length : Int))) > 24)) a0_0 a0_1) else (spec_LabelTime.j0 k l1 l2 true a0_0 a0_1)) else (spec_LabelTime.j0 k l1 l2 true a0_0 a0_1))) else (spec_LabelTime.j0 k l1 l2 true a0_0 a0_1))) else (spec_LabelTime.j0 k l1 l2 true a0_0 a0_1)) else (spec_LabelTime.j0 k l1 l2 true a0_0 a0_1))) = some (r1, r2) := h
 clear h
 have HC4 := A_ H
 clear H
 go_enter Try.func41, Try.ntmps41
 go_upto_region 1 with (first | ((with_reducible refine gate_dst (N := 3) rfl ?_); (try (refine gate_guard (by rfl) ?_; dsimp only)); refine box_event ?hg (N := 3) ?hd (cs := #[.int .i64 a0_0, .bool a0_1]) (t := 25) ?hr ?_; (case hd => rfl); (case hg => rfl); (case hr => first | (go_simp; done) | (go_simp; rfl)); intro gb428 hg w5 hbox hb; have n0_ := A_ (below_step (hq HB) hb); have n1_ := A_ (hbox); have n2_ := A_ ((by rw [hg]; exact (below_size (hq HB)) : w.heap.size ≤ gb428)); have n3_ := A_ ((by rw [hg]; exact (below_size (hq HB)) : w.heap.size ≤ gb428)); clear HB; have HB := n0_; have BK428 := n1_; have GW428 := n2_; have GE428 := n3_; clear n0_ n1_ n2_ n3_; clear hb hbox hg))
 (try simp only [Act.put, List.setIfInBounds_toArray, List.set_cons_zero, List.set_cons_succ])
 go_cut [42] (fun v42 wc => ∃ (kq : Nat) (x42_3 : Bool), v42 = .bool x42_3 ∧ Aside0 (spec_LabelTime.j0 kq l1 l2 x42_3 a0_0 a0_1 = some (r1, r2)) ∧ Aside0 (kq ≤ k) ∧ Aside0 (wc.heap[gb428]? = some (.cells #[.int .i64 a0_0, .bool a0_1] 25 (0, 0))) ∧ Aside0 (Below w.heap.size w wc))
 case first =>
  have H := HC4.out
  clear HC4
  replace H := Option.bind_eq_some_iff.mp H
  obtain ⟨t429, A60, H⟩ := H
  replace H : (if t429 = true then (if a0_1 = true then ((spec_l4Bits.f k l1).bind fun t430 => (if t430 = true then ((spec_l4Bits.f k l2).bind fun t431 => (if t431 = true then (if (l1.length : Int) = (l2.length : Int) then (spec_LabelTime.j0 k l1 l2 (decide ((wrap64 (a0_0 * (l1.length : Int))) > 24)) a0_0 a0_1) else (spec_LabelTime.j0 k l1 l2 true a0_0 a0_1)) else (spec_LabelTime.j0 k l1 l2 true a0_0 a0_1))) else (spec_LabelTime.j0 k l1 l2 true a0_0 a0_1))) else (spec_LabelTime.j0 k l1 l2 true a0_0 a0_1)) else (spec_LabelTime.j0 k l1 l2 true a0_0 a0_1)) = some (r1, r2) := H
  have A6 := A_ A60
  clear A60
  by_cases c7 : t429 = true
  ·
   subst c7
   have H1 : (if a0_1 = true then ((spec_l4Bits.f k l1).bind fun t430 => (if t430 = true then ((spec_l4Bits.f k l2).bind fun t431 => (if t431 = true then (if (l1.length : Int) = (l2.length : Int) then (spec_LabelTime.j0 k l1 l2 (decide ((wrap64 (a0_0 * (l1.length : Int))) > 24)) a0_0 a0_1) else (spec_LabelTime.j0 k l1 l2 true a0_0 a0_1)) else (spec_LabelTime.j0 k l1 l2 true a0_0 a0_1))) else (spec_LabelTime.j0 k l1 l2 true a0_0 a0_1))) else (spec_LabelTime.j0 k l1 l2 true a0_0 a0_1)) = some (r1, r2) := by rw [if_pos rfl] at H; exact H
   clear H
   have H := H1
   clear H1
   by_cases c8 : a0_1 = true
   ·
    subst c8
    have H1 : ((spec_l4Bits.f k l1).bind fun t430 => (if t430 = true then ((spec_l4Bits.f k l2).bind fun t431 => (if t431 = true then (if (l1.length : Int) = (l2.length : Int) then (spec_LabelTime.j0 k l1 l2 (decide ((wrap64 (a0_0 * (l1.length : Int))) > 24)) a0_0 true) else (spec_LabelTime.j0 k l1 l2 true a0_0 true)) else (spec_LabelTime.j0 k l1 l2 true a0_0 true))) else (spec_LabelTime.j0 k l1 l2 true a0_0 true))) = some (r1, r2) := by rw [if_pos rfl] at H; exact H
    clear H
    have H := H1
    clear H1
    replace H := Option.bind_eq_some_iff.mp H
    obtain ⟨t430, A90, H⟩ := H
    replace H : (if t430 = true then ((spec_l4Bits.f k l2).bind fun t431 => (if t431 = true then (if (l1.length : Int) = (l2.length : Int) then (spec_LabelTime.j0 k l1 l2 (decide ((wrap64 (a0_0 * (l1.length : Int))) > 24)) a0_0 true) else (spec_LabelTime.j0 k l1 l2 true a0_0 true)) else (spec_LabelTime.j0 k l1 l2 true a0_0 true))) else (spec_LabelTime.j0 k l1 l2 true a0_0 true)) = some (r1, r2) := H
    have A9 := A_ A90
    clear A90
    by_cases c10 : t430 = true
    ·
     subst c10
     have H1 : ((spec_l4Bits.f k l2).bind fun t431 => (if t431 = true then (if (l1.length : Int) = (l2.length : Int) then (spec_LabelTime.j0 k l1 l2 (decide ((wrap64 (a0_0 * (l1.length : Int))) > 24)) a0_0 true) else (spec_LabelTime.j0 k l1 l2 true a0_0 true)) else (spec_LabelTime.j0 k l1 l2 true a0_0 true))) = some (r1, r2) := by rw [if_pos rfl] at H; exact H
     clear H
     have H := H1
     clear H1
     replace H := Option.bind_eq_some_iff.mp H
     obtain ⟨t431, A110, H⟩ := H
     replace H : (if t431 = true then (if (l1.length : Int) = (l2.length : Int) then (spec_LabelTime.j0 k l1 l2 (decide ((wrap64 (a0_0 * (l1.length : Int))) > 24)) a0_0 true) else (spec_LabelTime.j0 k l1 l2 true a0_0 true)) else (spec_LabelTime.j0 k l1 l2 true a0_0 true)) = some (r1, r2) := H
     have A11 := A_ A110
     clear A110
     by_cases c12 : t431 = true
     ·
      subst c12
      have H1 : (if (l1.length : Int) = (l2.length : Int) then (spec_LabelTime.j0 k l1 l2 (decide ((wrap64 (a0_0 * (l1.length : Int))) > 24)) a0_0 true) else (spec_LabelTime.j0 k l1 l2 true a0_0 true)) = some (r1, r2) := by rw [if_pos rfl] at H; exact H
      clear H
      have H := H1
      clear H1
      by_cases c13 : (l1.length : Int) = (l2.length : Int)
      ·
       rw [if_pos c13] at H
       have c13b0 : ((l1.length : Int) == (l2.length : Int)) = true := beq_iff_eq.mpr c13
       have c13b1 : ((l1.length : Int) != (l2.length : Int)) = false := bne_eq_false_iff_eq.mpr c13
       have c13b2 : (l1.length == l2.length) = true := by first | simpa using c13 | (simp at c13 ⊢; omega)
       clear c13
       (first | rw [c13b0] | (simp only [i64_w, i32_w]; rw [c13b0]) | skip)
       have H' := A_ H
       clear H
       have hcz14_0 : w5.cell? ⟨gb428, 0, none⟩ = some (.int .i64 a0_0) := bc BK428 0
       have hcz14_1 : w5.cell? ⟨gb428, 1, none⟩ = some (.bool true) := bc BK428 1
       have hfz14_0 := blk_frozen BK428.out 0
       have hfz14_1 := blk_frozen BK428.out 1
       go_wp2_with (first | ((with_reducible refine gate_callee (f := 56) rfl ?_); refine goesL_ (some 11) rfl rfl Try.func56 (by kernel_rfl) rfl #[.agg #[.int .i64 a0_0, .bool true]] rfl gq ?_; (with_reducible refine (spec_l2Road.calls a0_0 true true _ A6.out).mono ?_); rintro e w15 ⟨rfl, hb⟩; refine ⟨_, rfl, ?_⟩; have n0_ := A_ (blk_below (bq BK428) hb); have n1_ := A_ (below_step (hq HB) hb); clear BK428; clear HB; have BK428 := n0_; have HB := n1_; clear n0_ n1_; (try clear hb); (try clear hb2); (try clear hk); (try clear hi); have hcz16_0 : w15.cell? ⟨gb428, 0, none⟩ = some (.int .i64 a0_0) := bc BK428 0; have hcz16_1 : w15.cell? ⟨gb428, 1, none⟩ = some (.bool true) := bc BK428 1; have hfz16_0 := blk_frozen BK428.out 0; have hfz16_1 := blk_frozen BK428.out 1) | (go_at_call 94; (with_reducible refine (spec_l4Bits.calls k _ _ l1 true _ ?side1 ?side2 A9.out).mono ?_); (case side1 => exact cq (Kd.C_below HR1.out HB.out)); (case side2 => exact HC1.out); rintro e w' ⟨rfl, ⟨nd, rfl⟩⟩) | (go_at_call 94; (with_reducible refine (spec_l4Bits.calls k _ _ l2 true _ ?side1 ?side2 A11.out).mono ?_); (case side1 => exact cq (Kd.C_below HR2.out (hq HB))); (case side2 => exact HC2.out); rintro e w' ⟨rfl, ⟨nd, rfl⟩⟩))
       go_meet
       case rel => exact ⟨_, (decide ((wrap64 (a0_0 * (l1.length : Int))) > 24)), (by first | rfl | (simp; done) | (simp [*]; done)), H', ⟨by first | omega | exact Nat.le_refl _⟩, ⟨bq BK428⟩, ⟨hq HB⟩⟩
      ·
       rw [if_neg c13] at H
       have c13b0 : ((l1.length : Int) == (l2.length : Int)) = false := beq_eq_false_iff_ne.mpr c13
       have c13b1 : ((l1.length : Int) != (l2.length : Int)) = true := bne_iff_ne.mpr c13
       have c13b2 : (l1.length == l2.length) = false := by first | simpa using c13 | (simp at c13 ⊢; omega)
       (first | rw [c13b0] | (simp only [i64_w, i32_w]; rw [c13b0]) | skip)
       have H' := A_ H
       clear H
       have hcz17_0 : w5.cell? ⟨gb428, 0, none⟩ = some (.int .i64 a0_0) := bc BK428 0
       have hcz17_1 : w5.cell? ⟨gb428, 1, none⟩ = some (.bool true) := bc BK428 1
       have hfz17_0 := blk_frozen BK428.out 0
       have hfz17_1 := blk_frozen BK428.out 1
       go_wp2_with (first | ((with_reducible refine gate_callee (f := 56) rfl ?_); refine goesL_ (some 11) rfl rfl Try.func56 (by kernel_rfl) rfl #[.agg #[.int .i64 a0_0, .bool true]] rfl gq ?_; (with_reducible refine (spec_l2Road.calls a0_0 true true _ A6.out).mono ?_); rintro e w18 ⟨rfl, hb⟩; refine ⟨_, rfl, ?_⟩; have n0_ := A_ (blk_below (bq BK428) hb); have n1_ := A_ (below_step (hq HB) hb); clear BK428; clear HB; have BK428 := n0_; have HB := n1_; clear n0_ n1_; (try clear hb); (try clear hb2); (try clear hk); (try clear hi); have hcz19_0 : w18.cell? ⟨gb428, 0, none⟩ = some (.int .i64 a0_0) := bc BK428 0; have hcz19_1 : w18.cell? ⟨gb428, 1, none⟩ = some (.bool true) := bc BK428 1; have hfz19_0 := blk_frozen BK428.out 0; have hfz19_1 := blk_frozen BK428.out 1) | (go_at_call 94; (with_reducible refine (spec_l4Bits.calls k _ _ l1 true _ ?side1 ?side2 A9.out).mono ?_); (case side1 => exact cq (Kd.C_below HR1.out HB.out)); (case side2 => exact HC1.out); rintro e w' ⟨rfl, ⟨nd, rfl⟩⟩) | (go_at_call 94; (with_reducible refine (spec_l4Bits.calls k _ _ l2 true _ ?side1 ?side2 A11.out).mono ?_); (case side1 => exact cq (Kd.C_below HR2.out (hq HB))); (case side2 => exact HC2.out); rintro e w' ⟨rfl, ⟨nd, rfl⟩⟩))
       go_meet
       case rel => exact ⟨_, (true), (by first | rfl | (simp; done) | (simp [*]; done)), H', ⟨by first | omega | exact Nat.le_refl _⟩, ⟨bq BK428⟩, ⟨hq HB⟩⟩
     ·
      replace c12 := Bool.eq_false_iff.mpr c12
      subst c12
      have H1 : (spec_LabelTime.j0 k l1 l2 true a0_0 true) = some (r1, r2) := by rw [if_neg (show ¬ (false = true) by decide)] at H; exact H
      clear H
      have H := H1
      clear H1
      have H' := A_ H
      clear H
      have hcz20_0 : w5.cell? ⟨gb428, 0, none⟩ = some (.int .i64 a0_0) := bc BK428 0
      have hcz20_1 : w5.cell? ⟨gb428, 1, none⟩ = some (.bool true) := bc BK428 1
      have hfz20_0 := blk_frozen BK428.out 0
      have hfz20_1 := blk_frozen BK428.out 1
      go_wp2_with (first | ((with_reducible refine gate_callee (f := 56) rfl ?_); refine goesL_ (some 11) rfl rfl Try.func56 (by kernel_rfl) rfl #[.agg #[.int .i64 a0_0, .bool true]] rfl gq ?_; (with_reducible refine (spec_l2Road.calls a0_0 true true _ A6.out).mono ?_); rintro e w21 ⟨rfl, hb⟩; refine ⟨_, rfl, ?_⟩; have n0_ := A_ (blk_below (bq BK428) hb); have n1_ := A_ (below_step (hq HB) hb); clear BK428; clear HB; have BK428 := n0_; have HB := n1_; clear n0_ n1_; (try clear hb); (try clear hb2); (try clear hk); (try clear hi); have hcz22_0 : w21.cell? ⟨gb428, 0, none⟩ = some (.int .i64 a0_0) := bc BK428 0; have hcz22_1 : w21.cell? ⟨gb428, 1, none⟩ = some (.bool true) := bc BK428 1; have hfz22_0 := blk_frozen BK428.out 0; have hfz22_1 := blk_frozen BK428.out 1) | (go_at_call 94; (with_reducible refine (spec_l4Bits.calls k _ _ l1 true _ ?side1 ?side2 A9.out).mono ?_); (case side1 => exact cq (Kd.C_below HR1.out HB.out)); (case side2 => exact HC1.out); rintro e w' ⟨rfl, ⟨nd, rfl⟩⟩) | (go_at_call 94; (with_reducible refine (spec_l4Bits.calls k _ _ l2 false _ ?side1 ?side2 A11.out).mono ?_); (case side1 => exact cq (Kd.C_below HR2.out (hq HB))); (case side2 => exact HC2.out); rintro e w' ⟨rfl, ⟨nd, rfl⟩⟩))
      go_meet
      case rel => exact ⟨_, (true), (by first | rfl | (simp; done) | (simp [*]; done)), H', ⟨by first | omega | exact Nat.le_refl _⟩, ⟨bq BK428⟩, ⟨hq HB⟩⟩
    ·
     replace c10 := Bool.eq_false_iff.mpr c10
     subst c10
     have H1 : (spec_LabelTime.j0 k l1 l2 true a0_0 true) = some (r1, r2) := by rw [if_neg (show ¬ (false = true) by decide)] at H; exact H
     clear H
     have H := H1
     clear H1
     have H' := A_ H
     clear H
     have hcz23_0 : w5.cell? ⟨gb428, 0, none⟩ = some (.int .i64 a0_0) := bc BK428 0
     have hcz23_1 : w5.cell? ⟨gb428, 1, none⟩ = some (.bool true) := bc BK428 1
     have hfz23_0 := blk_frozen BK428.out 0
     have hfz23_1 := blk_frozen BK428.out 1
     go_wp2_with (first | ((with_reducible refine gate_callee (f := 56) rfl ?_); refine goesL_ (some 11) rfl rfl Try.func56 (by kernel_rfl) rfl #[.agg #[.int .i64 a0_0, .bool true]] rfl gq ?_; (with_reducible refine (spec_l2Road.calls a0_0 true true _ A6.out).mono ?_); rintro e w24 ⟨rfl, hb⟩; refine ⟨_, rfl, ?_⟩; have n0_ := A_ (blk_below (bq BK428) hb); have n1_ := A_ (below_step (hq HB) hb); clear BK428; clear HB; have BK428 := n0_; have HB := n1_; clear n0_ n1_; (try clear hb); (try clear hb2); (try clear hk); (try clear hi); have hcz25_0 : w24.cell? ⟨gb428, 0, none⟩ = some (.int .i64 a0_0) := bc BK428 0; have hcz25_1 : w24.cell? ⟨gb428, 1, none⟩ = some (.bool true) := bc BK428 1; have hfz25_0 := blk_frozen BK428.out 0; have hfz25_1 := blk_frozen BK428.out 1) | (go_at_call 94; (with_reducible refine (spec_l4Bits.calls k _ _ l1 false _ ?side1 ?side2 A9.out).mono ?_); (case side1 => exact cq (Kd.C_below HR1.out HB.out)); (case side2 => exact HC1.out); rintro e w' ⟨rfl, ⟨nd, rfl⟩⟩))
     go_meet
     case rel => exact ⟨_, (true), (by first | rfl | (simp; done) | (simp [*]; done)), H', ⟨by first | omega | exact Nat.le_refl _⟩, ⟨bq BK428⟩, ⟨hq HB⟩⟩
   ·
    replace c8 := Bool.eq_false_iff.mpr c8
    subst c8
    have H1 : (spec_LabelTime.j0 k l1 l2 true a0_0 false) = some (r1, r2) := by rw [if_neg (show ¬ (false = true) by decide)] at H; exact H
    clear H
    have H := H1
    clear H1
    have H' := A_ H
    clear H
    have hcz26_0 : w5.cell? ⟨gb428, 0, none⟩ = some (.int .i64 a0_0) := bc BK428 0
    have hcz26_1 : w5.cell? ⟨gb428, 1, none⟩ = some (.bool false) := bc BK428 1
    have hfz26_0 := blk_frozen BK428.out 0
    have hfz26_1 := blk_frozen BK428.out 1
    go_wp2_with (first | ((with_reducible refine gate_callee (f := 56) rfl ?_); refine goesL_ (some 11) rfl rfl Try.func56 (by kernel_rfl) rfl #[.agg #[.int .i64 a0_0, .bool false]] rfl gq ?_; (with_reducible refine (spec_l2Road.calls a0_0 false true _ A6.out).mono ?_); rintro e w27 ⟨rfl, hb⟩; refine ⟨_, rfl, ?_⟩; have n0_ := A_ (blk_below (bq BK428) hb); have n1_ := A_ (below_step (hq HB) hb); clear BK428; clear HB; have BK428 := n0_; have HB := n1_; clear n0_ n1_; (try clear hb); (try clear hb2); (try clear hk); (try clear hi); have hcz28_0 : w27.cell? ⟨gb428, 0, none⟩ = some (.int .i64 a0_0) := bc BK428 0; have hcz28_1 : w27.cell? ⟨gb428, 1, none⟩ = some (.bool false) := bc BK428 1; have hfz28_0 := blk_frozen BK428.out 0; have hfz28_1 := blk_frozen BK428.out 1))
    go_meet
    case rel => exact ⟨_, (true), (by first | rfl | (simp; done) | (simp [*]; done)), H', ⟨by first | omega | exact Nat.le_refl _⟩, ⟨bq BK428⟩, ⟨hq HB⟩⟩
  ·
   replace c7 := Bool.eq_false_iff.mpr c7
   subst c7
   have H1 : (spec_LabelTime.j0 k l1 l2 true a0_0 a0_1) = some (r1, r2) := by rw [if_neg (show ¬ (false = true) by decide)] at H; exact H
   clear H
   have H := H1
   clear H1
   have H' := A_ H
   clear H
   have hcz29_0 : w5.cell? ⟨gb428, 0, none⟩ = some (.int .i64 a0_0) := bc BK428 0
   have hcz29_1 : w5.cell? ⟨gb428, 1, none⟩ = some (.bool a0_1) := bc BK428 1
   have hfz29_0 := blk_frozen BK428.out 0
   have hfz29_1 := blk_frozen BK428.out 1
   go_wp2_with (first | ((with_reducible refine gate_callee (f := 56) rfl ?_); refine goesL_ (some 11) rfl rfl Try.func56 (by kernel_rfl) rfl #[.agg #[.int .i64 a0_0, .bool a0_1]] rfl gq ?_; (with_reducible refine (spec_l2Road.calls a0_0 a0_1 false _ A6.out).mono ?_); rintro e w30 ⟨rfl, hb⟩; refine ⟨_, rfl, ?_⟩; have n0_ := A_ (blk_below (bq BK428) hb); have n1_ := A_ (below_step (hq HB) hb); clear BK428; clear HB; have BK428 := n0_; have HB := n1_; clear n0_ n1_; (try clear hb); (try clear hb2); (try clear hk); (try clear hi)))
   go_meet
   case rel => exact ⟨_, (true), (by first | rfl | (simp; done) | (simp [*]; done)), H', ⟨by first | omega | exact Nat.le_refl _⟩, ⟨bq BK428⟩, ⟨hq HB⟩⟩
 case rest =>
  clear HC4
  try clear c1
  try clear c2
  try clear p2
  try clear c4
  try clear c5
  try clear p6
  try clear c7
  try clear c8
  try clear c10
  try clear c12
  try clear c13
  try clear c13b0
  try clear c13b1
  try clear c13b2
  try clear hcz14_0
  try clear hcz14_1
  try clear hcz16_0
  try clear hcz16_1
  try clear hcz17_0
  try clear hcz17_1
  try clear hcz19_0
  try clear hcz19_1
  try clear hcz20_0
  try clear hcz20_1
  try clear hcz22_0
  try clear hcz22_1
  try clear hcz23_0
  try clear hcz23_1
  try clear hcz25_0
  try clear hcz25_1
  try clear hcz26_0
  try clear hcz26_1
  try clear hcz28_0
  try clear hcz28_1
  try clear hcz29_0
  try clear hcz29_1
  try clear hfz14_0
  try clear hfz14_1
  try clear hfz16_0
  try clear hfz16_1
  try clear hfz17_0
  try clear hfz17_1
  try clear hfz19_0
  try clear hfz19_1
  try clear hfz20_0
  try clear hfz20_1
  try clear hfz22_0
  try clear hfz22_1
  try clear hfz23_0
  try clear hfz23_1
  try clear hfz25_0
  try clear hfz25_1
  try clear hfz26_0
  try clear hfz26_1
  try clear hfz28_0
  try clear hfz28_1
  try clear hfz29_0
  try clear hfz29_1
  obtain ⟨kq, x42_3, rfl, HA, HJ3, BK428, HB⟩ := hcut
  cases kq with
  | zero => exact absurd HA.out (by simp [spec_LabelTime.j0])
  | succ kj3 =>
   have H := HA.out
   clear HA
   simp only [spec_LabelTime.j0] at H
   by_cases c31 : x42_3 = true
   ·
    subst c31
    have H1 : (some (0, false)) = some (r1, r2) := by rw [if_pos rfl] at H; exact H
    clear H
    have H := H1
    clear H1
    simp only [Option.some.injEq, Prod.mk.injEq] at H
    obtain ⟨rfl, rfl⟩ := H
    go_wp2
    go_ret2
    exact ⟨rt, hq HB⟩
   ·
    replace c31 := Bool.eq_false_iff.mpr c31
    subst c31
    have H1 : ((spec_l4Told.f kj3 l1 a0_0).bind fun t432 => ((spec_l4Told.f kj3 l2 a0_0).bind fun t436 => ((spec_WorstMeet.f kj3 a0_0 a0_1 0 1 0 t432 0 1 0 t436).bind fun bt440 => (some (bt440.1, bt440.2))))) = some (r1, r2) := by rw [if_neg (show ¬ (false = true) by decide)] at H; exact H
    clear H
    have H := H1
    clear H1
    replace H := Option.bind_eq_some_iff.mp H
    obtain ⟨t432, A320, H⟩ := H
    replace H : ((spec_l4Told.f kj3 l2 a0_0).bind fun t436 => ((spec_WorstMeet.f kj3 a0_0 a0_1 0 1 0 t432 0 1 0 t436).bind fun bt440 => (some (bt440.1, bt440.2)))) = some (r1, r2) := H
    have A32 := A_ A320
    clear A320
    replace H := Option.bind_eq_some_iff.mp H
    obtain ⟨t436, A330, H⟩ := H
    replace H : ((spec_WorstMeet.f kj3 a0_0 a0_1 0 1 0 t432 0 1 0 t436).bind fun bt440 => (some (bt440.1, bt440.2))) = some (r1, r2) := H
    have A33 := A_ A330
    clear A330
    replace H := Option.bind_eq_some_iff.mp H
    obtain ⟨⟨t440, t441⟩, A340, H⟩ := H
    replace H : (some (t440, t441)) = some (r1, r2) := H
    have A34 := A_ A340
    clear A340
    simp only [Option.some.injEq, Prod.mk.injEq] at H
    obtain ⟨rfl, rfl⟩ := H
    have hcz35_0 : wc.cell? ⟨gb428, 0, none⟩ = some (.int .i64 a0_0) := bc BK428 0
    have hcz35_1 : wc.cell? ⟨gb428, 1, none⟩ = some (.bool a0_1) := bc BK428 1
    have hfz35_0 := blk_frozen BK428.out 0
    have hfz35_1 := blk_frozen BK428.out 1
    go_wp2_with (first | ((with_reducible refine gate_callee (f := 95) rfl ?_); refine goesL_ (some 46) rfl rfl Try.func95 (by kernel_rfl) rfl #[.slice A1 l1.length c1, .int .i64 a0_0] rfl gq ?_; (with_reducible refine (spec_l4Told.calls kj3 _ _ l1 a0_0 t432 _ ?side1 ?side2 A32.out).mono ?_); (case side1 => exact cq (Kd.C_below HR1.out HB.out)); (case side2 => exact HC1.out); rintro e w36 ⟨v433, rfl, ho0, hb⟩; refine ⟨_, rfl, ?_⟩; have n0_ := A_ (Kd.R_lower ho0 (below_size (hq HB))); have n1_ := A_ (blk_below (bq BK428) hb); have n2_ := A_ (below_step (hq HB) hb); clear BK428; clear HB; have HO434 := n0_; have BK428 := n1_; have HB := n2_; clear n0_ n1_ n2_; (try clear hb); (try clear hb2); (try clear hk); (try clear hi); (try clear ho0); obtain ⟨Ao37, co37, eo37⟩ := Kd.R_slice HO434.out; subst eo37) | ((with_reducible refine gate_dst (N := 8) rfl ?_); (try (refine gate_guard (by rfl) ?_; dsimp only)); refine box_event ?hg (N := 8) ?hd (cs := #[.int .i64 0, .int .i64 0, .int .i64 0, .slice none 0 0]) (t := 93) ?hr ?_; (case hd => rfl); (case hg => rfl); (case hr => first | (go_simp; done) | (go_simp; rfl)); intro gb435 hg w38 hbox hb; have n0_ := A_ (Kd.R_below (rq HO434) hb); have n1_ := A_ (blk_below (bq BK428) hb); have n2_ := A_ (below_step (hq HB) hb); have n3_ := A_ (hbox); have n4_ := A_ ((by rw [hg]; exact (below_size (hq HB)) : w.heap.size ≤ gb435)); have n5_ := A_ ((by rw [hg]; exact (below_size (hq HB)) : w.heap.size ≤ gb435)); have n6_ := A_ ((by rw [hg]; exact Nat.ne_of_lt (blk_lt (bq BK428)) : gb428 ≠ gb435)); have n7_ := A_ ((by rw [hg]; exact Nat.ne_of_gt (blk_lt (bq BK428)) : gb435 ≠ gb428)); clear HO434; clear BK428; clear HB; have HO434 := n0_; have BK428 := n1_; have HB := n2_; have BK435 := n3_; have GW435 := n4_; have GE435 := n5_; have NB428_435 := n6_; have NB435_428 := n7_; clear n0_ n1_ n2_ n3_ n4_ n5_ n6_ n7_; clear hb hbox hg; have hnb39 := NB435_428.out; have hnc39 := NB428_435.out; have hcz40_0 : w38.cell? ⟨gb435, 0, none⟩ = some (.int .i64 0) := bc BK435 0; have hcz40_1 : w38.cell? ⟨gb435, 1, none⟩ = some (.int .i64 0) := bc BK435 1; have hcz40_2 : w38.cell? ⟨gb435, 2, none⟩ = some (.int .i64 0) := bc BK435 2; have hcz40_3 : w38.cell? ⟨gb435, 3, none⟩ = some (.slice none 0 0) := bc BK435 3; have hfz40_0 := blk_frozen BK435.out 0; have hfz40_1 := blk_frozen BK435.out 1; have hfz40_2 := blk_frozen BK435.out 2; have hfz40_3 := blk_frozen BK435.out 3; have hcz41_0 : w38.cell? ⟨gb428, 0, none⟩ = some (.int .i64 a0_0) := bc BK428 0; have hcz41_1 : w38.cell? ⟨gb428, 1, none⟩ = some (.bool a0_1) := bc BK428 1; have hfz41_0 := blk_frozen BK428.out 0; have hfz41_1 := blk_frozen BK428.out 1) | ((with_reducible refine gate_callee (f := 95) rfl ?_); refine goesL_ (some 51) rfl rfl Try.func95 (by kernel_rfl) rfl #[.slice A2 l2.length c2, .int .i64 a0_0] rfl gq ?_; (with_reducible refine (spec_l4Told.calls kj3 _ _ l2 a0_0 t436 _ ?side1 ?side2 A33.out).mono ?_); (case side1 => exact Kd.C_below HR2.out (hq HB)); (case side2 => exact HC2.out); rintro e w42 ⟨v437, rfl, ho0, hb⟩; refine ⟨_, rfl, ?_⟩; have n0_ := A_ (Kd.R_elder' (by (with_reducible repeat (first | apply Kd.R_alloc | apply Kd.R_drewN | apply Kd.R_drew)); exact (Kd.R_mono (Kd.R_far (p := ⟨gb435, 3, none⟩) (Kd.R_far (p := ⟨gb435, 2, none⟩) (Kd.R_far (p := ⟨gb435, 1, none⟩) (Kd.R_far (p := ⟨gb435, 0, none⟩) (Kd.R_types HO434.out BK435.out (by decide)) (fun _ => cj) (.int .i64 0)) (fun _ => cj) (.int .i64 1)) (fun _ => cj) (.int .i64 0)) (fun _ => cj) (.slice Ao37 t432.length co37)) (fun _ h_ => h_.1))) (Kd.R_base ho0) hb); have n1_ := A_ (Kd.R_lower (Kd.R_new' ho0 (Kd.R_lt (by (with_reducible repeat (first | apply Kd.R_alloc | apply Kd.R_drewN | apply Kd.R_drew)); exact (Kd.R_mono (Kd.R_far (p := ⟨gb435, 3, none⟩) (Kd.R_far (p := ⟨gb435, 2, none⟩) (Kd.R_far (p := ⟨gb435, 1, none⟩) (Kd.R_far (p := ⟨gb435, 0, none⟩) (Kd.R_types HO434.out BK435.out (by decide)) (fun _ => cj) (.int .i64 0)) (fun _ => cj) (.int .i64 1)) (fun _ => cj) (.int .i64 0)) (fun _ => cj) (.slice Ao37 t432.length co37)) (fun _ h_ => h_.1))))) (below_size (hq HB))); have n2_ := A_ (blk_below (g := gb428) (o := .cells #[.int .i64 a0_0, .bool a0_1] 25 (0, 0)) (by (with_reducible repeat (first | refine blk_drewN ?_ _ | refine blk_drew ?_ | refine blk_alloc ?_ _)); refine blk_far ?_ NB428_435.out _; (with_reducible repeat (first | refine blk_drewN ?_ _ | refine blk_drew ?_ | refine blk_alloc ?_ _)); refine blk_far ?_ NB428_435.out _; (with_reducible repeat (first | refine blk_drewN ?_ _ | refine blk_drew ?_ | refine blk_alloc ?_ _)); refine blk_far ?_ NB428_435.out _; (with_reducible repeat (first | refine blk_drewN ?_ _ | refine blk_drew ?_ | refine blk_alloc ?_ _)); refine blk_far ?_ NB428_435.out _; (with_reducible repeat (first | refine blk_drewN ?_ _ | refine blk_drew ?_ | refine blk_alloc ?_ _)); exact BK428.out) hb); have n3_ := A_ (blk_below (g := gb435) (o := .cells #[.int .i64 0, .int .i64 1, .int .i64 0, .slice Ao37 t432.length co37] 93 (0, 0)) (by (with_reducible repeat (first | refine blk_drewN ?_ _ | refine blk_drew ?_ | refine blk_alloc ?_ _)); refine blk_put (cs := #[.int .i64 0, .int .i64 1, .int .i64 0, .slice none 0 0]) ?_ 3 _ rfl; (with_reducible repeat (first | refine blk_drewN ?_ _ | refine blk_drew ?_ | refine blk_alloc ?_ _)); refine blk_put (cs := #[.int .i64 0, .int .i64 1, .int .i64 0, .slice none 0 0]) ?_ 2 _ rfl; (with_reducible repeat (first | refine blk_drewN ?_ _ | refine blk_drew ?_ | refine blk_alloc ?_ _)); refine blk_put (cs := #[.int .i64 0, .int .i64 0, .int .i64 0, .slice none 0 0]) ?_ 1 _ rfl; (with_reducible repeat (first | refine blk_drewN ?_ _ | refine blk_drew ?_ | refine blk_alloc ?_ _)); refine blk_put (cs := #[.int .i64 0, .int .i64 0, .int .i64 0, .slice none 0 0]) ?_ 0 _ rfl; (with_reducible repeat (first | refine blk_drewN ?_ _ | refine blk_drew ?_ | refine blk_alloc ?_ _)); exact BK435.out) hb); have n4_ := A_ (below_step (hq HB) hb); clear HO434; clear BK428; clear BK435; clear HB; have HO434 := n0_; have HO438 := n1_; have BK428 := n2_; have BK435 := n3_; have HB := n4_; clear n0_ n1_ n2_ n3_ n4_; (try clear hb); (try clear hb2); (try clear hk); (try clear hi); (try clear ho0); obtain ⟨Ao43, co43, eo43⟩ := Kd.R_slice HO438.out; subst eo43) | ((with_reducible refine gate_dst (N := 9) rfl ?_); (try (refine gate_guard (by rfl) ?_; dsimp only)); refine box_event ?hg (N := 9) ?hd (cs := #[.int .i64 0, .int .i64 0, .int .i64 0, .slice none 0 0]) (t := 93) ?hr ?_; (case hd => rfl); (case hg => rfl); (case hr => first | (go_simp; done) | (go_simp; rfl)); intro gb439 hg w44 hbox hb; have n0_ := A_ (Kd.R_below (rq HO434) hb); have n1_ := A_ (Kd.R_below (rq HO438) hb); have n2_ := A_ (blk_below (bq BK428) hb); have n3_ := A_ (blk_below (bq BK435) hb); have n4_ := A_ (below_step (hq HB) hb); have n5_ := A_ (hbox); have n6_ := A_ ((by rw [hg]; exact (below_size (hq HB)) : w.heap.size ≤ gb439)); have n7_ := A_ ((by rw [hg]; exact (below_size (hq HB)) : w.heap.size ≤ gb439)); have n8_ := A_ ((by rw [hg]; exact Nat.ne_of_lt (blk_lt (bq BK428)) : gb428 ≠ gb439)); have n9_ := A_ ((by rw [hg]; exact Nat.ne_of_gt (blk_lt (bq BK428)) : gb439 ≠ gb428)); have n10_ := A_ ((by rw [hg]; exact Nat.ne_of_lt (blk_lt (bq BK435)) : gb435 ≠ gb439)); have n11_ := A_ ((by rw [hg]; exact Nat.ne_of_gt (blk_lt (bq BK435)) : gb439 ≠ gb435)); clear HO434; clear HO438; clear BK428; clear BK435; clear HB; have HO434 := n0_; have HO438 := n1_; have BK428 := n2_; have BK435 := n3_; have HB := n4_; have BK439 := n5_; have GW439 := n6_; have GE439 := n7_; have NB428_439 := n8_; have NB439_428 := n9_; have NB435_439 := n10_; have NB439_435 := n11_; clear n0_ n1_ n2_ n3_ n4_ n5_ n6_ n7_ n8_ n9_ n10_ n11_; clear hb hbox hg; have hnb45 := NB439_428.out; have hnc45 := NB428_439.out; have hnb46 := NB439_435.out; have hnc46 := NB435_439.out; have hcz47_0 : w44.cell? ⟨gb439, 0, none⟩ = some (.int .i64 0) := bc BK439 0; have hcz47_1 : w44.cell? ⟨gb439, 1, none⟩ = some (.int .i64 0) := bc BK439 1; have hcz47_2 : w44.cell? ⟨gb439, 2, none⟩ = some (.int .i64 0) := bc BK439 2; have hcz47_3 : w44.cell? ⟨gb439, 3, none⟩ = some (.slice none 0 0) := bc BK439 3; have hfz47_0 := blk_frozen BK439.out 0; have hfz47_1 := blk_frozen BK439.out 1; have hfz47_2 := blk_frozen BK439.out 2; have hfz47_3 := blk_frozen BK439.out 3; have hcz48_0 : w44.cell? ⟨gb428, 0, none⟩ = some (.int .i64 a0_0) := bc BK428 0; have hcz48_1 : w44.cell? ⟨gb428, 1, none⟩ = some (.bool a0_1) := bc BK428 1; have hfz48_0 := blk_frozen BK428.out 0; have hfz48_1 := blk_frozen BK428.out 1; have hcz49_0 : w44.cell? ⟨gb435, 0, none⟩ = some (.int .i64 0) := bc BK435 0; have hcz49_1 : w44.cell? ⟨gb435, 1, none⟩ = some (.int .i64 1) := bc BK435 1; have hcz49_2 : w44.cell? ⟨gb435, 2, none⟩ = some (.int .i64 0) := bc BK435 2; have hcz49_3 : w44.cell? ⟨gb435, 3, none⟩ = some (.slice Ao37 t432.length co37) := bc BK435 3; have hfz49_0 := blk_frozen BK435.out 0; have hfz49_1 := blk_frozen BK435.out 1; have hfz49_2 := blk_frozen BK435.out 2; have hfz49_3 := blk_frozen BK435.out 3) | ((with_reducible refine gate_callee (f := 96) rfl ?_); refine goesL_ (some 56) rfl rfl Try.func96 (by kernel_rfl) rfl #[.agg #[.int .i64 a0_0, .bool a0_1], .agg #[.int .i64 0, .int .i64 1, .int .i64 0, .slice Ao37 t432.length co37], .agg #[.int .i64 0, .int .i64 1, .int .i64 0, .slice Ao43 t436.length co43]] rfl gq ?_; (with_reducible refine (spec_WorstMeet.calls kj3 a0_0 a0_1 0 1 0 _ _ t432 0 1 0 _ _ t436 t440 t441 _ ?side1 ?side2 ?side3 ?side4 A34.out).mono ?_); (case side1 => refine (Kd.R_reads' (e := 3) (base := w.heap.size) (ok := fun k_ => (True ∧ some k_ ≠ (.slice Ao43 t436.length co43 : Value).ownBlock)) (n := t432.length) (c := co37) ?_).2.2; exact (by (with_reducible repeat (first | apply Kd.R_alloc | apply Kd.R_drewN | apply Kd.R_drew)); exact (Kd.R_mono (Kd.R_far (p := ⟨gb439, 3, none⟩) (Kd.R_far (p := ⟨gb439, 2, none⟩) (Kd.R_far (p := ⟨gb439, 1, none⟩) (Kd.R_far (p := ⟨gb439, 0, none⟩) (Kd.R_types HO434.out BK439.out (by decide)) (fun _ => cj) (.int .i64 0)) (fun _ => cj) (.int .i64 1)) (fun _ => cj) (.int .i64 0)) (fun _ => cj) (.slice Ao43 t436.length co43)) (fun _ h_ => h_.1)))); (case side2 => exact (Kd.R_reads' HO434.out).2.1); (case side3 => refine (Kd.R_reads' (e := 3) (base := w.heap.size) (ok := fun k_ => (True ∧ some k_ ≠ (.slice Ao37 t432.length co37 : Value).ownBlock)) (n := t436.length) (c := co43) ?_).2.2; exact (by (with_reducible repeat (first | apply Kd.R_alloc | apply Kd.R_drewN | apply Kd.R_drew)); exact (Kd.R_mono (Kd.R_far (p := ⟨gb439, 3, none⟩) (Kd.R_far (p := ⟨gb439, 2, none⟩) (Kd.R_far (p := ⟨gb439, 1, none⟩) (Kd.R_far (p := ⟨gb439, 0, none⟩) (Kd.R_types HO438.out BK439.out (by decide)) (fun _ => cj) (.int .i64 0)) (fun _ => cj) (.int .i64 1)) (fun _ => cj) (.int .i64 0)) (fun _ => cj) (.slice Ao43 t436.length co43)) (fun _ h_ => h_.1)))); (case side4 => exact (Kd.R_reads' HO438.out).2.1); rintro e w50 ⟨rfl, hb⟩; refine ⟨_, rfl, ?_⟩; have n0_ := A_ (Kd.R_below (by (with_reducible repeat (first | apply Kd.R_alloc | apply Kd.R_drewN | apply Kd.R_drew)); exact (Kd.R_mono (Kd.R_far (p := ⟨gb439, 3, none⟩) (Kd.R_far (p := ⟨gb439, 2, none⟩) (Kd.R_far (p := ⟨gb439, 1, none⟩) (Kd.R_far (p := ⟨gb439, 0, none⟩) (Kd.R_types HO434.out BK439.out (by decide)) (fun _ => cj) (.int .i64 0)) (fun _ => cj) (.int .i64 1)) (fun _ => cj) (.int .i64 0)) (fun _ => cj) (.slice Ao43 t436.length co43)) (fun _ h_ => h_.1))) hb); have n1_ := A_ (Kd.R_below (by (with_reducible repeat (first | apply Kd.R_alloc | apply Kd.R_drewN | apply Kd.R_drew)); exact (Kd.R_mono (Kd.R_far (p := ⟨gb439, 3, none⟩) (Kd.R_far (p := ⟨gb439, 2, none⟩) (Kd.R_far (p := ⟨gb439, 1, none⟩) (Kd.R_far (p := ⟨gb439, 0, none⟩) (Kd.R_types HO438.out BK439.out (by decide)) (fun _ => cj) (.int .i64 0)) (fun _ => cj) (.int .i64 1)) (fun _ => cj) (.int .i64 0)) (fun _ => cj) (.slice Ao43 t436.length co43)) (fun _ h_ => h_.1))) hb); have n2_ := A_ (blk_below (g := gb428) (o := .cells #[.int .i64 a0_0, .bool a0_1] 25 (0, 0)) (by (with_reducible repeat (first | refine blk_drewN ?_ _ | refine blk_drew ?_ | refine blk_alloc ?_ _)); refine blk_far ?_ NB428_439.out _; (with_reducible repeat (first | refine blk_drewN ?_ _ | refine blk_drew ?_ | refine blk_alloc ?_ _)); refine blk_far ?_ NB428_439.out _; (with_reducible repeat (first | refine blk_drewN ?_ _ | refine blk_drew ?_ | refine blk_alloc ?_ _)); refine blk_far ?_ NB428_439.out _; (with_reducible repeat (first | refine blk_drewN ?_ _ | refine blk_drew ?_ | refine blk_alloc ?_ _)); refine blk_far ?_ NB428_439.out _; (with_reducible repeat (first | refine blk_drewN ?_ _ | refine blk_drew ?_ | refine blk_alloc ?_ _)); exact BK428.out) hb); have n3_ := A_ (blk_below (g := gb435) (o := .cells #[.int .i64 0, .int .i64 1, .int .i64 0, .slice Ao37 t432.length co37] 93 (0, 0)) (by (with_reducible repeat (first | refine blk_drewN ?_ _ | refine blk_drew ?_ | refine blk_alloc ?_ _)); refine blk_far ?_ NB435_439.out _; (with_reducible repeat (first | refine blk_drewN ?_ _ | refine blk_drew ?_ | refine blk_alloc ?_ _)); refine blk_far ?_ NB435_439.out _; (with_reducible repeat (first | refine blk_drewN ?_ _ | refine blk_drew ?_ | refine blk_alloc ?_ _)); refine blk_far ?_ NB435_439.out _; (with_reducible repeat (first | refine blk_drewN ?_ _ | refine blk_drew ?_ | refine blk_alloc ?_ _)); refine blk_far ?_ NB435_439.out _; (with_reducible repeat (first | refine blk_drewN ?_ _ | refine blk_drew ?_ | refine blk_alloc ?_ _)); exact BK435.out) hb); have n4_ := A_ (blk_below (g := gb439) (o := .cells #[.int .i64 0, .int .i64 1, .int .i64 0, .slice Ao43 t436.length co43] 93 (0, 0)) (by (with_reducible repeat (first | refine blk_drewN ?_ _ | refine blk_drew ?_ | refine blk_alloc ?_ _)); refine blk_put (cs := #[.int .i64 0, .int .i64 1, .int .i64 0, .slice none 0 0]) ?_ 3 _ rfl; (with_reducible repeat (first | refine blk_drewN ?_ _ | refine blk_drew ?_ | refine blk_alloc ?_ _)); refine blk_put (cs := #[.int .i64 0, .int .i64 1, .int .i64 0, .slice none 0 0]) ?_ 2 _ rfl; (with_reducible repeat (first | refine blk_drewN ?_ _ | refine blk_drew ?_ | refine blk_alloc ?_ _)); refine blk_put (cs := #[.int .i64 0, .int .i64 0, .int .i64 0, .slice none 0 0]) ?_ 1 _ rfl; (with_reducible repeat (first | refine blk_drewN ?_ _ | refine blk_drew ?_ | refine blk_alloc ?_ _)); refine blk_put (cs := #[.int .i64 0, .int .i64 0, .int .i64 0, .slice none 0 0]) ?_ 0 _ rfl; (with_reducible repeat (first | refine blk_drewN ?_ _ | refine blk_drew ?_ | refine blk_alloc ?_ _)); exact BK439.out) hb); have n5_ := A_ (below_step (hq HB) hb); clear HO434; clear HO438; clear BK428; clear BK435; clear BK439; clear HB; have HO434 := n0_; have HO438 := n1_; have BK428 := n2_; have BK435 := n3_; have BK439 := n4_; have HB := n5_; clear n0_ n1_ n2_ n3_ n4_ n5_; (try clear hb); (try clear hb2); (try clear hk); (try clear hi)))
    go_ret2
    exact ⟨rt, hq HB⟩

/-! ### spec_DrawLabelMoves: function 42 -/
def spec_DrawLabelMoves.f (k : Nat) (l0 : List Int) : Option (List Int × Int) := (spec_l1Cur_among.f l0 0 0 (([3, 4, 6, 7] : List Int))).bind fun bt446 => ((spec_l1Cur_label.f k l0 bt446.2.1 bt446.2.2 bt446.1).bind fun bt449 => ((spec_l1Cur_among.f l0 bt449.2.1 bt449.2.2 (([4, 3, 6, 8, 1, 12, 24, 25, 0, (-1)] : List Int))).bind fun bt457 => (some (bt449.1, bt457.1))))
theorem spec_DrawLabelMoves.mono : ∀ a0 k, LeO (spec_DrawLabelMoves.f k a0) (spec_DrawLabelMoves.f (k + 1) a0) := by
  intro a0 k
  unfold spec_DrawLabelMoves.f
  repeat' first
      | (with_reducible exact spec_l1Cur_label.mono _ _ _ _ _)
      | (with_reducible exact LeO.refl _)
      | (with_reducible exact LeO.none _)
      | (with_reducible refine LeO.ite ?_ ?_)
      | (with_reducible refine LeO.bind ?_ (fun _ => ?_))
      | exact spec_l1Cur_label.mono _ _ _ _ _
      | exact LeO.none _
      | refine LeO.ite ?_ ?_
      | refine LeO.bind ?_ (fun _ => ?_)
set_option maxHeartbeats 8000000 in
set_option maxRecDepth 100000 in
theorem spec_DrawLabelMoves.calls (k : Nat) (A0 : Option Addr) (c0 : Nat) (l0 : List Int) (r1 : List Int) (r2 : Int) (w : World) (hr0 : Kd.C (Kd.int .u8) w A0 l0.length l0) (hc0 : l0.length ≤ c0) (h : spec_DrawLabelMoves.f k l0 = some (r1, r2)) :
    Calls Try.prog 42 #[.slice A0 l0.length c0] w fun e w' => ∃ v0_ : Value, e = .returned (.tuple #[v0_, .int .i64 r2]) ∧ Kd.R (Kd.int .i64) 3 w' w.heap.size (fun _ => True) v0_ r1 ∧ Below w.heap.size w w' := by
 have hu73 := Try.underlying73
 have HR0 := A_ hr0
 have HC0 := A_ hc0
 clear hr0 hc0
 have HB := A_ (Below.refl w.heap.size w)
 have H : ((spec_l1Cur_among.f l0 0 0 (([3, 4, 6, 7] : List Int))).bind fun bt446 => ((spec_l1Cur_label.f k l0 bt446.2.1 bt446.2.2 bt446.1).bind fun bt449 => ((spec_l1Cur_among.f l0 bt449.2.1 bt449.2.2 (([4, 3, 6, 8, 1, 12, 24, 25, 0, (-1)] : List Int))).bind fun bt457 => (some (bt449.1, bt457.1))))) = some (r1, r2) := h
 clear h
 obtain ⟨y443, hy443⟩ : ∃ y_ : List Int, y_ = (([3, 4, 6, 7] : List Int)) := ⟨_, rfl⟩
 replace H : ((spec_l1Cur_among.f l0 0 0 y443).bind fun bt446 => ((spec_l1Cur_label.f k l0 bt446.2.1 bt446.2.2 bt446.1).bind fun bt449 => ((spec_l1Cur_among.f l0 bt449.2.1 bt449.2.2 (([4, 3, 6, 8, 1, 12, 24, 25, 0, (-1)] : List Int))).bind fun bt457 => (some (bt449.1, bt457.1))))) = some (r1, r2) := by first | (rw [hy443]; with_reducible exact H) | (have H2_ := (Option.bind_some _ _).symm.trans H; rw [hy443]; with_reducible exact H2_) | (have H2_ := (Option.bind_some _ _).symm.trans H; with_reducible exact H2_) | with_reducible exact H | (rw [hy443]; exact H) | exact H
 have Ny443 := A_ hy443
 clear hy443
 replace H := Option.bind_eq_some_iff.mp H
 obtain ⟨⟨t446, t447, t448⟩, A20, H⟩ := H
 replace H : ((spec_l1Cur_label.f k l0 t447 t448 t446).bind fun bt449 => ((spec_l1Cur_among.f l0 bt449.2.1 bt449.2.2 (([4, 3, 6, 8, 1, 12, 24, 25, 0, (-1)] : List Int))).bind fun bt457 => (some (bt449.1, bt457.1)))) = some (r1, r2) := H
 have A2 := A_ A20
 clear A20
 replace H := Option.bind_eq_some_iff.mp H
 obtain ⟨⟨t449, t452, t453⟩, A30, H⟩ := H
 replace H : ((spec_l1Cur_among.f l0 t452 t453 (([4, 3, 6, 8, 1, 12, 24, 25, 0, (-1)] : List Int))).bind fun bt457 => (some (t449, bt457.1))) = some (r1, r2) := H
 have A3 := A_ A30
 clear A30
 obtain ⟨y454, hy454⟩ : ∃ y_ : List Int, y_ = (([4, 3, 6, 8, 1, 12, 24, 25, 0, (-1)] : List Int)) := ⟨_, rfl⟩
 replace H : ((spec_l1Cur_among.f l0 t452 t453 y454).bind fun bt457 => (some (t449, bt457.1))) = some (r1, r2) := by first | (rw [hy454]; with_reducible exact H) | (have H2_ := (Option.bind_some _ _).symm.trans H; rw [hy454]; with_reducible exact H2_) | (have H2_ := (Option.bind_some _ _).symm.trans H; with_reducible exact H2_) | with_reducible exact H | (rw [hy454]; exact H) | exact H
 have Ny454 := A_ hy454
 clear hy454
 replace H := Option.bind_eq_some_iff.mp H
 obtain ⟨⟨t457, t458, t459⟩, A40, H⟩ := H
 replace H : (some (t449, t457)) = some (r1, r2) := H
 have A4 := A_ A40
 clear A40
 simp only [Option.some.injEq, Prod.mk.injEq] at H
 obtain ⟨rfl, rfl⟩ := H
 go_enter Try.func42, Try.ntmps42
 go_wp2_with (first | ((with_reducible refine gate_dst (N := 7) rfl ?_); refine box_event ?hg (N := 7) ?hd (cs := #[.slice A0 l0.length c0, .int .i64 0, .int .u64 0]) (t := 73) ?hr ?_; (case hd => rfl); (case hg => rfl); (case hr => first | (go_simp; done) | (go_simp; rfl)); intro gb442 hg w5 hbox hb; have n0_ := A_ (below_step (hq HB) hb); have n1_ := A_ ((by rw [hg]; exact (below_size (hq HB)) : w.heap.size ≤ gb442)); have n2_ := A_ ((by rw [hg]; exact (below_size (hq HB)) : w.heap.size ≤ gb442)); have n3_ := A_ ((⟨_, _, hbox, by rw [hg]; exact (below_size (hq HB)), HR0.out⟩ : IsS73 w w5 gb442 l0 0 0)); clear HB; have HB := n0_; have GW442 := n1_; have GE442 := n2_; have HI442 := n3_; clear n0_ n1_ n2_ n3_; clear hb hbox hg) | ((with_reducible refine gate_dst (N := 10) rfl ?_); refine Kd.R_lit (Kd.int .i64) _ 3 ?hg (N := 10) ?hd (xs := ([3, 4, 6, 7] : List Int)) (inner := [.int .i64 3, .int .i64 4, .int .i64 6, .int .i64 7]) (ok := fun _ => True) (okp := fun _ => True) ?hr ?hp (fun _ hk => hk) trivial (Below.refl _ _) (Nat.le_refl _) (by simp) ?_; (case hd => rfl); (case hg => rfl); (case hr => first | (go_simp; done) | (go_simp; rfl)); (case hp => exact (Reps.one (show Kd.M (Kd.int .i64) _ _ _ 3 [.int .i64 3] from rfl) (Reps.one (show Kd.M (Kd.int .i64) _ _ _ 4 [.int .i64 4] from rfl) (Reps.one (show Kd.M (Kd.int .i64) _ _ _ 6 [.int .i64 6] from rfl) (Reps.one (show Kd.M (Kd.int .i64) _ _ _ 7 [.int .i64 7] from rfl) (Reps.none _ _)))))); intro v444 w6 ho7 hb hg_ hnew_; clear hg_ hnew_; (first | rw [← Ny443.out] at ho7 | (simp only [Int.reduceToNat] at ho7; rw [← Ny443.out] at ho7)); have n0_ := A_ (Kd.R_lower ho7 (below_size (by repeat (first | (with_reducible first | exact HB.out | apply below_alloc | apply pw_below_drewN | apply below_drew1 | refine below_set ?_ (IsS73.ge HI442.out)) | exact HB.out)))); have n1_ := A_ (IsS73.below (by repeat (first | (with_reducible first | exact HI442.out | apply IsS73.alloc | apply IsS73.drewN | apply IsS73.drew | apply IsS73.set_1 | apply IsS73.set_2) | exact HI442.out)) hb); have n2_ := A_ (below_step (by repeat (first | (with_reducible first | exact HB.out | apply below_alloc | apply pw_below_drewN | apply below_drew1 | refine below_set ?_ (IsS73.ge HI442.out)) | exact HB.out)) hb); clear HI442; clear HB; have HO445 := n0_; have HI442 := n1_; have HB := n2_; clear n0_ n1_ n2_; clear hb ho7; obtain ⟨Ao8, co8, eo8⟩ := Kd.R_slice HO445.out; subst eo8) | ((with_reducible refine gate_callee (f := 76) rfl ?_); refine goesL_ (some 11) rfl rfl Try.func76 (by kernel_rfl) rfl #[.pointer (some ⟨gb442, 0, none⟩), .slice Ao8 y443.length co8] rfl gq ?_; (with_reducible refine (spec_l1Cur_among.calls gb442 l0 0 0 _ _ y443 t446 t447 t448 w _ ?side1 ?side2 ?side3 ?side4 ?side5 A2.out).mono ?_); (case side1 => repeat (first | (with_reducible first | exact HI442.out | apply IsS73.alloc | apply IsS73.drewN | apply IsS73.drew | apply IsS73.set_1 | apply IsS73.set_2) | exact HI442.out)); (case side2 => repeat (first | (with_reducible first | exact HB.out | apply below_alloc | apply pw_below_drewN | apply below_drew1 | refine below_set ?_ (IsS73.ge HI442.out)) | exact HB.out)); (case side3 => exact cq (Kd.R_reads' HO445.out).2.2); (case side4 => exact (Kd.R_reads' HO445.out).2.1); (case side5 => exact far_slice (IsS73.own_ne HI442.out HO445.out (by decide))); rintro e w9 ⟨rfl, hi, hb, hk⟩; refine ⟨_, rfl, ?_⟩; have n0_ := A_ (Kd.R_mono (Kd.R_keep (IsS73.apart (show IsS73 w _ gb442 l0 0 0 from by repeat (first | (with_reducible first | exact HI442.out | apply IsS73.alloc | apply IsS73.drewN | apply IsS73.drew | apply IsS73.set_1 | apply IsS73.set_2) | exact HI442.out)) (rq HO445) (by decide)) hk (fun _ h => h.2)) (fun _ h => h.1)); have n1_ := A_ (hb); have n2_ := A_ (hi); clear HO445; clear HB; clear HI442; have HO445 := n0_; have HB := n1_; have HI442 := n2_; clear n0_ n1_ n2_; (try clear hb); (try clear hb2); (try clear hk); (try clear hi)) | ((with_reducible refine gate_callee (f := 89) rfl ?_); refine goesL_ (some 12) rfl rfl Try.func89 (by kernel_rfl) rfl #[.pointer (some ⟨gb442, 0, none⟩), .int .i64 t446] rfl gq ?_; (with_reducible refine (spec_l1Cur_label.calls k gb442 l0 t447 t448 t446 t449 t452 t453 w _ ?side1 ?side2 A3.out).mono ?_); (case side1 => repeat (first | (with_reducible first | exact HI442.out | apply IsS73.alloc | apply IsS73.drewN | apply IsS73.drew | apply IsS73.set_1 | apply IsS73.set_2) | exact HI442.out)); (case side2 => repeat (first | (with_reducible first | exact HB.out | apply below_alloc | apply pw_below_drewN | apply below_drew1 | refine below_set ?_ (IsS73.ge HI442.out)) | exact HB.out)); rintro e w10 ⟨v450, rfl, ho0, hi, hb, hk⟩; refine ⟨_, rfl, ?_⟩; have n0_ := A_ (Kd.R_mono (Kd.R_told (Kd.R_oldK (IsS73.apart (show IsS73 w _ gb442 l0 t447 t448 from by repeat (first | (with_reducible first | exact HI442.out | apply IsS73.alloc | apply IsS73.drewN | apply IsS73.drew | apply IsS73.set_1 | apply IsS73.set_2) | exact HI442.out)) (rq HO445) (by decide)) hk) (Kd.R_base ho0)) (fun _ h_ => h_.1)); have n1_ := A_ (Kd.R_lower (Kd.R_new' ho0 (Kd.R_lt (rq HO445))) (below_size (by repeat (first | (with_reducible first | exact HB.out | apply below_alloc | apply pw_below_drewN | apply below_drew1 | refine below_set ?_ (IsS73.ge HI442.out)) | exact HB.out)))); have n2_ := A_ (hb); have n3_ := A_ (hi); clear HO445; clear HB; clear HI442; have HO445 := n0_; have HO451 := n1_; have HB := n2_; have HI442 := n3_; clear n0_ n1_ n2_ n3_; (try clear hb); (try clear hb2); (try clear hk); (try clear hi); (try clear ho0)) | ((with_reducible refine gate_dst (N := 14) rfl ?_); refine Kd.R_lit (Kd.int .i64) _ 3 ?hg (N := 14) ?hd (xs := ([4, 3, 6, 8, 1, 12, 24, 25, 0, (-1)] : List Int)) (inner := [.int .i64 4, .int .i64 3, .int .i64 6, .int .i64 8, .int .i64 1, .int .i64 12, .int .i64 24, .int .i64 25, .int .i64 0, .int .i64 (-1)]) (ok := fun _ => True) (okp := fun _ => True) ?hr ?hp (fun _ hk => hk) trivial (Below.refl _ _) (Nat.le_refl _) (by simp) ?_; (case hd => rfl); (case hg => rfl); (case hr => first | (go_simp; done) | (go_simp; rfl)); (case hp => exact (Reps.one (show Kd.M (Kd.int .i64) _ _ _ 4 [.int .i64 4] from rfl) (Reps.one (show Kd.M (Kd.int .i64) _ _ _ 3 [.int .i64 3] from rfl) (Reps.one (show Kd.M (Kd.int .i64) _ _ _ 6 [.int .i64 6] from rfl) (Reps.one (show Kd.M (Kd.int .i64) _ _ _ 8 [.int .i64 8] from rfl) (Reps.one (show Kd.M (Kd.int .i64) _ _ _ 1 [.int .i64 1] from rfl) (Reps.one (show Kd.M (Kd.int .i64) _ _ _ 12 [.int .i64 12] from rfl) (Reps.one (show Kd.M (Kd.int .i64) _ _ _ 24 [.int .i64 24] from rfl) (Reps.one (show Kd.M (Kd.int .i64) _ _ _ 25 [.int .i64 25] from rfl) (Reps.one (show Kd.M (Kd.int .i64) _ _ _ 0 [.int .i64 0] from rfl) (Reps.one (show Kd.M (Kd.int .i64) _ _ _ (-1) [.int .i64 (-1)] from rfl) (Reps.none _ _)))))))))))); intro v455 w11 ho12 hb hg_ hnew_; clear hg_ hnew_; (first | rw [← Ny454.out] at ho12 | (simp only [Int.reduceToNat] at ho12; rw [← Ny454.out] at ho12)); have n0_ := A_ (Kd.R_elder' (rq HO445) (Kd.R_base ho12) hb); have n1_ := A_ (Kd.R_elder' (rq HO451) (Kd.R_base ho12) hb); have n2_ := A_ (Kd.R_lower (Kd.R_new' (Kd.R_new' ho12 (Kd.R_lt (rq HO445))) (Kd.R_lt (rq HO451))) (below_size (by repeat (first | (with_reducible first | exact HB.out | apply below_alloc | apply pw_below_drewN | apply below_drew1 | refine below_set ?_ (IsS73.ge HI442.out)) | exact HB.out)))); have n3_ := A_ (IsS73.below (by repeat (first | (with_reducible first | exact HI442.out | apply IsS73.alloc | apply IsS73.drewN | apply IsS73.drew | apply IsS73.set_1 | apply IsS73.set_2) | exact HI442.out)) hb); have n4_ := A_ (below_step (by repeat (first | (with_reducible first | exact HB.out | apply below_alloc | apply pw_below_drewN | apply below_drew1 | refine below_set ?_ (IsS73.ge HI442.out)) | exact HB.out)) hb); clear HO445; clear HO451; clear HI442; clear HB; have HO445 := n0_; have HO451 := n1_; have HO456 := n2_; have HI442 := n3_; have HB := n4_; clear n0_ n1_ n2_ n3_ n4_; clear hb ho12; obtain ⟨Ao13, co13, eo13⟩ := Kd.R_slice HO456.out; subst eo13) | ((with_reducible refine gate_callee (f := 76) rfl ?_); refine goesL_ (some 15) rfl rfl Try.func76 (by kernel_rfl) rfl #[.pointer (some ⟨gb442, 0, none⟩), .slice Ao13 y454.length co13] rfl gq ?_; (with_reducible refine (spec_l1Cur_among.calls gb442 l0 t452 t453 _ _ y454 t457 t458 t459 w _ ?side1 ?side2 ?side3 ?side4 ?side5 A4.out).mono ?_); (case side1 => repeat (first | (with_reducible first | exact HI442.out | apply IsS73.alloc | apply IsS73.drewN | apply IsS73.drew | apply IsS73.set_1 | apply IsS73.set_2) | exact HI442.out)); (case side2 => repeat (first | (with_reducible first | exact HB.out | apply below_alloc | apply pw_below_drewN | apply below_drew1 | refine below_set ?_ (IsS73.ge HI442.out)) | exact HB.out)); (case side3 => exact cq (Kd.R_reads' HO456.out).2.2); (case side4 => exact (Kd.R_reads' HO456.out).2.1); (case side5 => exact far_slice (IsS73.own_ne HI442.out HO456.out (by decide))); rintro e w14 ⟨rfl, hi, hb, hk⟩; refine ⟨_, rfl, ?_⟩; have n0_ := A_ (Kd.R_mono (Kd.R_keep (IsS73.apart (show IsS73 w _ gb442 l0 t452 t453 from by repeat (first | (with_reducible first | exact HI442.out | apply IsS73.alloc | apply IsS73.drewN | apply IsS73.drew | apply IsS73.set_1 | apply IsS73.set_2) | exact HI442.out)) (rq HO445) (by decide)) hk (fun _ h => h.2)) (fun _ h => h.1)); have n1_ := A_ (Kd.R_mono (Kd.R_keep (IsS73.apart (show IsS73 w _ gb442 l0 t452 t453 from by repeat (first | (with_reducible first | exact HI442.out | apply IsS73.alloc | apply IsS73.drewN | apply IsS73.drew | apply IsS73.set_1 | apply IsS73.set_2) | exact HI442.out)) (rq HO451) (by decide)) hk (fun _ h => h.2)) (fun _ h => h.1)); have n2_ := A_ (Kd.R_mono (Kd.R_keep (IsS73.apart (show IsS73 w _ gb442 l0 t452 t453 from by repeat (first | (with_reducible first | exact HI442.out | apply IsS73.alloc | apply IsS73.drewN | apply IsS73.drew | apply IsS73.set_1 | apply IsS73.set_2) | exact HI442.out)) (rq HO456) (by decide)) hk (fun _ h => h.2)) (fun _ h => h.1)); have n3_ := A_ (hb); have n4_ := A_ (hi); clear HO445; clear HO451; clear HO456; clear HB; clear HI442; have HO445 := n0_; have HO451 := n1_; have HO456 := n2_; have HB := n3_; have HI442 := n4_; clear n0_ n1_ n2_ n3_ n4_; (try clear hb); (try clear hb2); (try clear hk); (try clear hi)))
 go_ret2
 exact ⟨_, rt, by (with_reducible repeat (first | apply Kd.R_alloc | apply Kd.R_drewN | apply Kd.R_drew)); exact Kd.R_mono HO451.out (fun _ hk => trivial), by repeat (first | (with_reducible first | exact HB.out | apply below_alloc | apply pw_below_drewN | apply below_drew1 | refine below_set ?_ (IsS73.ge HI442.out)) | exact HB.out)⟩

/-! ### spec_LabelMoves: function 44 -/
def spec_LabelMoves.f (k : Nat) (l0 : List Int) (a1 : Int) : Option (List Int × Bool) := (spec_l4Bits.f k l0).bind fun t460 => (if t460 = true then ((spec_l1In.f a1 1 24).bind fun t461 => (if t461 = true then (if (wrap64 (a1 * (l0.length : Int))) > 24 then (some ((([] : List Int)), false)) else ((spec_l4Told.f k l0 a1).bind fun t465 => (some (t465, true)))) else (some ((([] : List Int)), false)))) else (some ((([] : List Int)), false)))
theorem spec_LabelMoves.mono : ∀ a0 a1 k, LeO (spec_LabelMoves.f k a0 a1) (spec_LabelMoves.f (k + 1) a0 a1) := by
  intro a0 a1 k
  unfold spec_LabelMoves.f
  repeat' first
      | (with_reducible exact spec_l4Bits.mono _ _)
      | (with_reducible exact spec_l4Told.mono _ _ _)
      | (with_reducible exact LeO.refl _)
      | (with_reducible exact LeO.none _)
      | (with_reducible refine LeO.ite ?_ ?_)
      | (with_reducible refine LeO.bind ?_ (fun _ => ?_))
      | exact spec_l4Bits.mono _ _
      | exact spec_l4Told.mono _ _ _
      | exact LeO.none _
      | refine LeO.ite ?_ ?_
      | refine LeO.bind ?_ (fun _ => ?_)
set_option maxHeartbeats 8000000 in
set_option maxRecDepth 100000 in
theorem spec_LabelMoves.calls (k : Nat) (A0 : Option Addr) (c0 : Nat) (l0 : List Int) (a1 : Int) (r1 : List Int) (r2 : Bool) (w : World) (hr0 : Kd.C (Kd.int .i64) w A0 l0.length l0) (hc0 : l0.length ≤ c0) (h : spec_LabelMoves.f k l0 a1 = some (r1, r2)) :
    Calls Try.prog 44 #[.slice A0 l0.length c0, .int .i64 a1] w fun e w' => ∃ v0_ : Value, e = .returned (.tuple #[v0_, .bool r2]) ∧ Kd.R (Kd.int .i64) 3 w' w.heap.size (fun _ => True) v0_ r1 ∧ Below w.heap.size w w' := by
 have HR0 := A_ hr0
 have HC0 := A_ hc0
 clear hr0 hc0
 have HB := A_ (Below.refl w.heap.size w)
 have H : ((spec_l4Bits.f k l0).bind fun t460 => (if t460 = true then ((spec_l1In.f a1 1 24).bind fun t461 => (if t461 = true then (if (wrap64 (a1 * (l0.length : Int))) > 24 then (some ((([] : List Int)), false)) else ((spec_l4Told.f k l0 a1).bind fun t465 => (some (t465, true)))) else (some ((([] : List Int)), false)))) else (some ((([] : List Int)), false)))) = some (r1, r2) := h
 clear h
 replace H := Option.bind_eq_some_iff.mp H
 obtain ⟨t460, A30, H⟩ := H
 replace H : (if t460 = true then ((spec_l1In.f a1 1 24).bind fun t461 => (if t461 = true then (if (wrap64 (a1 * (l0.length : Int))) > 24 then (some ((([] : List Int)), false)) else ((spec_l4Told.f k l0 a1).bind fun t465 => (some (t465, true)))) else (some ((([] : List Int)), false)))) else (some ((([] : List Int)), false))) = some (r1, r2) := H
 have A3 := A_ A30
 clear A30
 by_cases c4 : t460 = true
 ·
  subst c4
  have H1 : ((spec_l1In.f a1 1 24).bind fun t461 => (if t461 = true then (if (wrap64 (a1 * (l0.length : Int))) > 24 then (some ((([] : List Int)), false)) else ((spec_l4Told.f k l0 a1).bind fun t465 => (some (t465, true)))) else (some ((([] : List Int)), false)))) = some (r1, r2) := by rw [if_pos rfl] at H; exact H
  clear H
  have H := H1
  clear H1
  replace H := Option.bind_eq_some_iff.mp H
  obtain ⟨t461, A50, H⟩ := H
  replace H : (if t461 = true then (if (wrap64 (a1 * (l0.length : Int))) > 24 then (some ((([] : List Int)), false)) else ((spec_l4Told.f k l0 a1).bind fun t465 => (some (t465, true)))) else (some ((([] : List Int)), false))) = some (r1, r2) := H
  have A5 := A_ A50
  clear A50
  by_cases c6 : t461 = true
  ·
   subst c6
   have H1 : (if (wrap64 (a1 * (l0.length : Int))) > 24 then (some ((([] : List Int)), false)) else ((spec_l4Told.f k l0 a1).bind fun t465 => (some (t465, true)))) = some (r1, r2) := by rw [if_pos rfl] at H; exact H
   clear H
   have H := H1
   clear H1
   by_cases c7 : (wrap64 (a1 * (l0.length : Int))) > 24
   ·
    rw [if_pos c7] at H
    have c7b0 : decide (24 < (wrap64 (a1 * (l0.length : Int)))) = true := decide_eq_true c7
    clear c7
    obtain ⟨y462, hy462⟩ : ∃ y_ : List Int, y_ = (([] : List Int)) := ⟨_, rfl⟩
    replace H : (some (y462, false)) = some (r1, r2) := by first | (rw [hy462]; with_reducible exact H) | (have H2_ := (Option.bind_some _ _).symm.trans H; rw [hy462]; with_reducible exact H2_) | (have H2_ := (Option.bind_some _ _).symm.trans H; with_reducible exact H2_) | with_reducible exact H | (rw [hy462]; exact H) | exact H
    have Ny462 := A_ hy462
    clear hy462
    simp only [Option.some.injEq, Prod.mk.injEq] at H
    obtain ⟨rfl, rfl⟩ := H
    go_enter Try.func44, Try.ntmps44
    go_wp2_with (first | ((with_reducible refine gate_callee (f := 94) rfl ?_); refine goesL_ (some 7) rfl rfl Try.func94 (by kernel_rfl) rfl #[.slice A0 l0.length c0] rfl gq ?_; (with_reducible refine (spec_l4Bits.calls k _ _ l0 true _ ?side1 ?side2 A3.out).mono ?_); (case side1 => exact cq HR0.out); (case side2 => exact HC0.out); rintro e w' ⟨rfl, ⟨nd, rfl⟩⟩; refine ⟨_, rfl, ?_⟩) | (go_at_call 75; (with_reducible refine (spec_l1In.calls a1 1 24 true _ A5.out).mono ?_); rintro e w' ⟨rfl, ⟨nd, rfl⟩⟩) | ((with_reducible refine gate_dst (N := 21) rfl ?_); (try (refine gate_guard (by rfl) ?_; dsimp only)); refine Kd.R_lit (Kd.int .i64) _ 3 ?hg (N := 21) ?hd (xs := ([] : List Int)) (inner := []) (ok := fun _ => True) (okp := fun _ => True) ?hr ?hp (fun _ hk => hk) trivial (Below.refl _ _) (Nat.le_refl _) (by simp) ?_; (case hd => rfl); (case hg => rfl); (case hr => first | (go_simp; done) | (go_simp; rfl)); (case hp => exact (Reps.none _ _)); intro v463 w8 ho9 hb hg_ hnew_; clear hg_ hnew_; (first | rw [← Ny462.out] at ho9 | (simp only [Int.reduceToNat] at ho9; rw [← Ny462.out] at ho9)); have n0_ := A_ (Kd.R_lower ho9 (below_size (hq HB))); have n1_ := A_ (below_step (hq HB) hb); clear HB; have HO464 := n0_; have HB := n1_; clear n0_ n1_; clear hb ho9))
    go_ret2
    exact ⟨_, rt, rq HO464, hq HB⟩
   ·
    rw [if_neg c7] at H
    have c7b0 : decide (24 < (wrap64 (a1 * (l0.length : Int)))) = false := decide_eq_false c7
    clear c7
    replace H := Option.bind_eq_some_iff.mp H
    obtain ⟨t465, A100, H⟩ := H
    replace H : (some (t465, true)) = some (r1, r2) := H
    have A10 := A_ A100
    clear A100
    simp only [Option.some.injEq, Prod.mk.injEq] at H
    obtain ⟨rfl, rfl⟩ := H
    go_enter Try.func44, Try.ntmps44
    go_wp2_with (first | ((with_reducible refine gate_callee (f := 94) rfl ?_); refine goesL_ (some 7) rfl rfl Try.func94 (by kernel_rfl) rfl #[.slice A0 l0.length c0] rfl gq ?_; (with_reducible refine (spec_l4Bits.calls k _ _ l0 true _ ?side1 ?side2 A3.out).mono ?_); (case side1 => exact cq HR0.out); (case side2 => exact HC0.out); rintro e w' ⟨rfl, ⟨nd, rfl⟩⟩; refine ⟨_, rfl, ?_⟩) | (go_at_call 75; (with_reducible refine (spec_l1In.calls a1 1 24 true _ A5.out).mono ?_); rintro e w' ⟨rfl, ⟨nd, rfl⟩⟩) | ((with_reducible refine gate_callee (f := 95) rfl ?_); refine goesL_ (some 24) rfl rfl Try.func95 (by kernel_rfl) rfl #[.slice A0 l0.length c0, .int .i64 a1] rfl gq ?_; (with_reducible refine (spec_l4Told.calls k _ _ l0 a1 t465 _ ?side1 ?side2 A10.out).mono ?_); (case side1 => exact cq HR0.out); (case side2 => exact HC0.out); rintro e w11 ⟨v466, rfl, ho0, hb⟩; refine ⟨_, rfl, ?_⟩; have n0_ := A_ (Kd.R_lower ho0 (below_size (hq HB))); have n1_ := A_ (below_step (hq HB) hb); clear HB; have HO467 := n0_; have HB := n1_; clear n0_ n1_; (try clear hb); (try clear hb2); (try clear hk); (try clear hi); (try clear ho0)))
    go_ret2
    exact ⟨_, rt, rq HO467, hq HB⟩
  ·
   replace c6 := Bool.eq_false_iff.mpr c6
   subst c6
   have H1 : (some ((([] : List Int)), false)) = some (r1, r2) := by rw [if_neg (show ¬ (false = true) by decide)] at H; exact H
   clear H
   have H := H1
   clear H1
   obtain ⟨y468, hy468⟩ : ∃ y_ : List Int, y_ = (([] : List Int)) := ⟨_, rfl⟩
   replace H : (some (y468, false)) = some (r1, r2) := by first | (rw [hy468]; with_reducible exact H) | (have H2_ := (Option.bind_some _ _).symm.trans H; rw [hy468]; with_reducible exact H2_) | (have H2_ := (Option.bind_some _ _).symm.trans H; with_reducible exact H2_) | with_reducible exact H | (rw [hy468]; exact H) | exact H
   have Ny468 := A_ hy468
   clear hy468
   simp only [Option.some.injEq, Prod.mk.injEq] at H
   obtain ⟨rfl, rfl⟩ := H
   go_enter Try.func44, Try.ntmps44
   go_wp2_with (first | ((with_reducible refine gate_callee (f := 94) rfl ?_); refine goesL_ (some 7) rfl rfl Try.func94 (by kernel_rfl) rfl #[.slice A0 l0.length c0] rfl gq ?_; (with_reducible refine (spec_l4Bits.calls k _ _ l0 true _ ?side1 ?side2 A3.out).mono ?_); (case side1 => exact cq HR0.out); (case side2 => exact HC0.out); rintro e w' ⟨rfl, ⟨nd, rfl⟩⟩; refine ⟨_, rfl, ?_⟩) | (go_at_call 75; (with_reducible refine (spec_l1In.calls a1 1 24 false _ A5.out).mono ?_); rintro e w' ⟨rfl, ⟨nd, rfl⟩⟩) | ((with_reducible refine gate_dst (N := 21) rfl ?_); (try (refine gate_guard (by rfl) ?_; dsimp only)); refine Kd.R_lit (Kd.int .i64) _ 3 ?hg (N := 21) ?hd (xs := ([] : List Int)) (inner := []) (ok := fun _ => True) (okp := fun _ => True) ?hr ?hp (fun _ hk => hk) trivial (Below.refl _ _) (Nat.le_refl _) (by simp) ?_; (case hd => rfl); (case hg => rfl); (case hr => first | (go_simp; done) | (go_simp; rfl)); (case hp => exact (Reps.none _ _)); intro v469 w12 ho13 hb hg_ hnew_; clear hg_ hnew_; (first | rw [← Ny468.out] at ho13 | (simp only [Int.reduceToNat] at ho13; rw [← Ny468.out] at ho13)); have n0_ := A_ (Kd.R_lower ho13 (below_size (hq HB))); have n1_ := A_ (below_step (hq HB) hb); clear HB; have HO470 := n0_; have HB := n1_; clear n0_ n1_; clear hb ho13))
   go_ret2
   exact ⟨_, rt, rq HO470, hq HB⟩
 ·
  replace c4 := Bool.eq_false_iff.mpr c4
  subst c4
  have H1 : (some ((([] : List Int)), false)) = some (r1, r2) := by rw [if_neg (show ¬ (false = true) by decide)] at H; exact H
  clear H
  have H := H1
  clear H1
  obtain ⟨y471, hy471⟩ : ∃ y_ : List Int, y_ = (([] : List Int)) := ⟨_, rfl⟩
  replace H : (some (y471, false)) = some (r1, r2) := by first | (rw [hy471]; with_reducible exact H) | (have H2_ := (Option.bind_some _ _).symm.trans H; rw [hy471]; with_reducible exact H2_) | (have H2_ := (Option.bind_some _ _).symm.trans H; with_reducible exact H2_) | with_reducible exact H | (rw [hy471]; exact H) | exact H
  have Ny471 := A_ hy471
  clear hy471
  simp only [Option.some.injEq, Prod.mk.injEq] at H
  obtain ⟨rfl, rfl⟩ := H
  go_enter Try.func44, Try.ntmps44
  go_wp2_with (first | ((with_reducible refine gate_callee (f := 94) rfl ?_); refine goesL_ (some 7) rfl rfl Try.func94 (by kernel_rfl) rfl #[.slice A0 l0.length c0] rfl gq ?_; (with_reducible refine (spec_l4Bits.calls k _ _ l0 false _ ?side1 ?side2 A3.out).mono ?_); (case side1 => exact cq HR0.out); (case side2 => exact HC0.out); rintro e w' ⟨rfl, ⟨nd, rfl⟩⟩; refine ⟨_, rfl, ?_⟩) | ((with_reducible refine gate_dst (N := 21) rfl ?_); (try (refine gate_guard (by rfl) ?_; dsimp only)); refine Kd.R_lit (Kd.int .i64) _ 3 ?hg (N := 21) ?hd (xs := ([] : List Int)) (inner := []) (ok := fun _ => True) (okp := fun _ => True) ?hr ?hp (fun _ hk => hk) trivial (Below.refl _ _) (Nat.le_refl _) (by simp) ?_; (case hd => rfl); (case hg => rfl); (case hr => first | (go_simp; done) | (go_simp; rfl)); (case hp => exact (Reps.none _ _)); intro v472 w14 ho15 hb hg_ hnew_; clear hg_ hnew_; (first | rw [← Ny471.out] at ho15 | (simp only [Int.reduceToNat] at ho15; rw [← Ny471.out] at ho15)); have n0_ := A_ (Kd.R_lower ho15 (below_size (hq HB))); have n1_ := A_ (below_step (hq HB) hb); clear HB; have HO473 := n0_; have HB := n1_; clear n0_ n1_; clear hb ho15))
  go_ret2
  exact ⟨_, rt, rq HO473, hq HB⟩

/-! ### spec_DrawDoubleLabel: function 45 -/
def spec_DrawDoubleLabel.f (k : Nat) (l0 : List Int) : Option (List Int) := (spec_l1Cur_among.f l0 0 0 (([2, 2, 3, 6] : List Int))).bind fun bt478 => ((spec_l1Cur_label.f k l0 bt478.2.1 bt478.2.2 bt478.1).bind fun bt481 => (some bt481.1))
theorem spec_DrawDoubleLabel.mono : ∀ a0 k, LeO (spec_DrawDoubleLabel.f k a0) (spec_DrawDoubleLabel.f (k + 1) a0) := by
  intro a0 k
  unfold spec_DrawDoubleLabel.f
  repeat' first
      | (with_reducible exact spec_l1Cur_label.mono _ _ _ _ _)
      | (with_reducible exact LeO.refl _)
      | (with_reducible exact LeO.none _)
      | (with_reducible refine LeO.ite ?_ ?_)
      | (with_reducible refine LeO.bind ?_ (fun _ => ?_))
      | exact spec_l1Cur_label.mono _ _ _ _ _
      | exact LeO.none _
      | refine LeO.ite ?_ ?_
      | refine LeO.bind ?_ (fun _ => ?_)
set_option maxHeartbeats 8000000 in
set_option maxRecDepth 100000 in
theorem spec_DrawDoubleLabel.calls (k : Nat) (A0 : Option Addr) (c0 : Nat) (l0 : List Int) (r : List Int) (w : World) (hr0 : Kd.C (Kd.int .u8) w A0 l0.length l0) (hc0 : l0.length ≤ c0) (h : spec_DrawDoubleLabel.f k l0 = some r) :
    Calls Try.prog 45 #[.slice A0 l0.length c0] w fun e w' => ∃ v0_ : Value, e = .returned (v0_) ∧ Kd.R (Kd.int .i64) 3 w' w.heap.size (fun _ => True) v0_ r ∧ Below w.heap.size w w' := by
 have hu73 := Try.underlying73
 have HR0 := A_ hr0
 have HC0 := A_ hc0
 clear hr0 hc0
 have HB := A_ (Below.refl w.heap.size w)
 have H : ((spec_l1Cur_among.f l0 0 0 (([2, 2, 3, 6] : List Int))).bind fun bt478 => ((spec_l1Cur_label.f k l0 bt478.2.1 bt478.2.2 bt478.1).bind fun bt481 => (some bt481.1))) = some r := h
 clear h
 obtain ⟨y475, hy475⟩ : ∃ y_ : List Int, y_ = (([2, 2, 3, 6] : List Int)) := ⟨_, rfl⟩
 replace H : ((spec_l1Cur_among.f l0 0 0 y475).bind fun bt478 => ((spec_l1Cur_label.f k l0 bt478.2.1 bt478.2.2 bt478.1).bind fun bt481 => (some bt481.1))) = some r := by first | (rw [hy475]; with_reducible exact H) | (have H2_ := (Option.bind_some _ _).symm.trans H; rw [hy475]; with_reducible exact H2_) | (have H2_ := (Option.bind_some _ _).symm.trans H; with_reducible exact H2_) | with_reducible exact H | (rw [hy475]; exact H) | exact H
 have Ny475 := A_ hy475
 clear hy475
 replace H := Option.bind_eq_some_iff.mp H
 obtain ⟨⟨t478, t479, t480⟩, A20, H⟩ := H
 replace H : ((spec_l1Cur_label.f k l0 t479 t480 t478).bind fun bt481 => (some bt481.1)) = some r := H
 have A2 := A_ A20
 clear A20
 replace H := Option.bind_eq_some_iff.mp H
 obtain ⟨⟨t481, t484, t485⟩, A30, H⟩ := H
 replace H : (some t481) = some r := H
 have A3 := A_ A30
 clear A30
 obtain rfl := Option.some.inj H
 go_enter Try.func45, Try.ntmps45
 go_wp2_with (first | ((with_reducible refine gate_dst (N := 6) rfl ?_); refine box_event ?hg (N := 6) ?hd (cs := #[.slice A0 l0.length c0, .int .i64 0, .int .u64 0]) (t := 73) ?hr ?_; (case hd => rfl); (case hg => rfl); (case hr => first | (go_simp; done) | (go_simp; rfl)); intro gb474 hg w4 hbox hb; have n0_ := A_ (below_step (hq HB) hb); have n1_ := A_ ((by rw [hg]; exact (below_size (hq HB)) : w.heap.size ≤ gb474)); have n2_ := A_ ((by rw [hg]; exact (below_size (hq HB)) : w.heap.size ≤ gb474)); have n3_ := A_ ((⟨_, _, hbox, by rw [hg]; exact (below_size (hq HB)), HR0.out⟩ : IsS73 w w4 gb474 l0 0 0)); clear HB; have HB := n0_; have GW474 := n1_; have GE474 := n2_; have HI474 := n3_; clear n0_ n1_ n2_ n3_; clear hb hbox hg) | ((with_reducible refine gate_dst (N := 9) rfl ?_); refine Kd.R_lit (Kd.int .i64) _ 3 ?hg (N := 9) ?hd (xs := ([2, 2, 3, 6] : List Int)) (inner := [.int .i64 2, .int .i64 2, .int .i64 3, .int .i64 6]) (ok := fun _ => True) (okp := fun _ => True) ?hr ?hp (fun _ hk => hk) trivial (Below.refl _ _) (Nat.le_refl _) (by simp) ?_; (case hd => rfl); (case hg => rfl); (case hr => first | (go_simp; done) | (go_simp; rfl)); (case hp => exact (Reps.one (show Kd.M (Kd.int .i64) _ _ _ 2 [.int .i64 2] from rfl) (Reps.one (show Kd.M (Kd.int .i64) _ _ _ 2 [.int .i64 2] from rfl) (Reps.one (show Kd.M (Kd.int .i64) _ _ _ 3 [.int .i64 3] from rfl) (Reps.one (show Kd.M (Kd.int .i64) _ _ _ 6 [.int .i64 6] from rfl) (Reps.none _ _)))))); intro v476 w5 ho6 hb hg_ hnew_; clear hg_ hnew_; (first | rw [← Ny475.out] at ho6 | (simp only [Int.reduceToNat] at ho6; rw [← Ny475.out] at ho6)); have n0_ := A_ (Kd.R_lower ho6 (below_size (by repeat (first | (with_reducible first | exact HB.out | apply below_alloc | apply pw_below_drewN | apply below_drew1 | refine below_set ?_ (IsS73.ge HI474.out)) | exact HB.out)))); have n1_ := A_ (IsS73.below (by repeat (first | (with_reducible first | exact HI474.out | apply IsS73.alloc | apply IsS73.drewN | apply IsS73.drew | apply IsS73.set_1 | apply IsS73.set_2) | exact HI474.out)) hb); have n2_ := A_ (below_step (by repeat (first | (with_reducible first | exact HB.out | apply below_alloc | apply pw_below_drewN | apply below_drew1 | refine below_set ?_ (IsS73.ge HI474.out)) | exact HB.out)) hb); clear HI474; clear HB; have HO477 := n0_; have HI474 := n1_; have HB := n2_; clear n0_ n1_ n2_; clear hb ho6; obtain ⟨Ao7, co7, eo7⟩ := Kd.R_slice HO477.out; subst eo7) | ((with_reducible refine gate_callee (f := 76) rfl ?_); refine goesL_ (some 10) rfl rfl Try.func76 (by kernel_rfl) rfl #[.pointer (some ⟨gb474, 0, none⟩), .slice Ao7 y475.length co7] rfl gq ?_; (with_reducible refine (spec_l1Cur_among.calls gb474 l0 0 0 _ _ y475 t478 t479 t480 w _ ?side1 ?side2 ?side3 ?side4 ?side5 A2.out).mono ?_); (case side1 => repeat (first | (with_reducible first | exact HI474.out | apply IsS73.alloc | apply IsS73.drewN | apply IsS73.drew | apply IsS73.set_1 | apply IsS73.set_2) | exact HI474.out)); (case side2 => repeat (first | (with_reducible first | exact HB.out | apply below_alloc | apply pw_below_drewN | apply below_drew1 | refine below_set ?_ (IsS73.ge HI474.out)) | exact HB.out)); (case side3 => exact cq (Kd.R_reads' HO477.out).2.2); (case side4 => exact (Kd.R_reads' HO477.out).2.1); (case side5 => exact far_slice (IsS73.own_ne HI474.out HO477.out (by decide))); rintro e w8 ⟨rfl, hi, hb, hk⟩; refine ⟨_, rfl, ?_⟩; have n0_ := A_ (Kd.R_mono (Kd.R_keep (IsS73.apart (show IsS73 w _ gb474 l0 0 0 from by repeat (first | (with_reducible first | exact HI474.out | apply IsS73.alloc | apply IsS73.drewN | apply IsS73.drew | apply IsS73.set_1 | apply IsS73.set_2) | exact HI474.out)) (rq HO477) (by decide)) hk (fun _ h => h.2)) (fun _ h => h.1)); have n1_ := A_ (hb); have n2_ := A_ (hi); clear HO477; clear HB; clear HI474; have HO477 := n0_; have HB := n1_; have HI474 := n2_; clear n0_ n1_ n2_; (try clear hb); (try clear hb2); (try clear hk); (try clear hi)) | ((with_reducible refine gate_callee (f := 89) rfl ?_); refine goesL_ (some 11) rfl rfl Try.func89 (by kernel_rfl) rfl #[.pointer (some ⟨gb474, 0, none⟩), .int .i64 t478] rfl gq ?_; (with_reducible refine (spec_l1Cur_label.calls k gb474 l0 t479 t480 t478 t481 t484 t485 w _ ?side1 ?side2 A3.out).mono ?_); (case side1 => repeat (first | (with_reducible first | exact HI474.out | apply IsS73.alloc | apply IsS73.drewN | apply IsS73.drew | apply IsS73.set_1 | apply IsS73.set_2) | exact HI474.out)); (case side2 => repeat (first | (with_reducible first | exact HB.out | apply below_alloc | apply pw_below_drewN | apply below_drew1 | refine below_set ?_ (IsS73.ge HI474.out)) | exact HB.out)); rintro e w9 ⟨v482, rfl, ho0, hi, hb, hk⟩; refine ⟨_, rfl, ?_⟩; have n0_ := A_ (Kd.R_mono (Kd.R_told (Kd.R_oldK (IsS73.apart (show IsS73 w _ gb474 l0 t479 t480 from by repeat (first | (with_reducible first | exact HI474.out | apply IsS73.alloc | apply IsS73.drewN | apply IsS73.drew | apply IsS73.set_1 | apply IsS73.set_2) | exact HI474.out)) (rq HO477) (by decide)) hk) (Kd.R_base ho0)) (fun _ h_ => h_.1)); have n1_ := A_ (Kd.R_lower (Kd.R_new' ho0 (Kd.R_lt (rq HO477))) (below_size (by repeat (first | (with_reducible first | exact HB.out | apply below_alloc | apply pw_below_drewN | apply below_drew1 | refine below_set ?_ (IsS73.ge HI474.out)) | exact HB.out)))); have n2_ := A_ (hb); have n3_ := A_ (hi); clear HO477; clear HB; clear HI474; have HO477 := n0_; have HO483 := n1_; have HB := n2_; have HI474 := n3_; clear n0_ n1_ n2_ n3_; (try clear hb); (try clear hb2); (try clear hk); (try clear hi); (try clear ho0)))
 go_ret
 exact ⟨_, rt, by (with_reducible repeat (first | apply Kd.R_alloc | apply Kd.R_drewN | apply Kd.R_drew)); exact Kd.R_mono HO483.out (fun _ hk => trivial), by repeat (first | (with_reducible first | exact HB.out | apply below_alloc | apply pw_below_drewN | apply below_drew1 | refine below_set ?_ (IsS73.ge HI474.out)) | exact HB.out)⟩

/-! ### impl_DoubleLabel: function 46 -/
mutual
def impl_DoubleLabel.j0 : Nat → List Int → Bool → Option (List Int × Bool)
  | 0, _, _ => none
  | k + 1, x0, x16 => if x16 = true then (some (([] : List Int), false)) else (impl_DoubleLabel.l0 k (([] : List Int)) x0 (x0.length : Int) 0)
def impl_DoubleLabel.l0 : Nat → List Int → List Int → Int → Int → Option (List Int × Bool)
  | 0, _, _, _, _ => none
  | k + 1, x4, x18, x19, x20 => if x20 < x19 then (if 0 ≤ x20 then (if x20 < (x18.length : Int) then ((some (([rd x18 x20, rd x18 x20] : List Int) : List Int)).bind fun y491 => (if x4.length + y491.length < 17592186044416 then (impl_DoubleLabel.l0 k (x4 ++ y491) x18 x19 (wrap64 (x20 + 1))) else (none))) else (none)) else (none)) else ((some (([0, 1] : List Int) : List Int)).bind fun y497 => (if x4.length + y497.length < 17592186044416 then (some ((x4 ++ y497), true)) else (none)))
end
def impl_DoubleLabel.f (k : Nat) (l0 : List Int) : Option (List Int × Bool) := (impl_isLabel.f k l0).bind fun t486 => (if t486 = true then (impl_DoubleLabel.j0 k l0 (decide ((wrap64 ((wrap64 (2 * (l0.length : Int))) + 2)) > 6))) else (impl_DoubleLabel.j0 k l0 true))
theorem impl_DoubleLabel.mono_l : ∀ k, (∀ y0 y1, LeO (impl_DoubleLabel.j0 k y0 y1) (impl_DoubleLabel.j0 (k + 1) y0 y1)) ∧ (∀ y0 y1 y2 y3, LeO (impl_DoubleLabel.l0 k y0 y1 y2 y3) (impl_DoubleLabel.l0 (k + 1) y0 y1 y2 y3))
  | 0 => ⟨fun _ _ r h => by simp [impl_DoubleLabel.j0] at h, fun _ _ _ _ r h => by simp [impl_DoubleLabel.l0] at h⟩
  | k + 1 => by
    obtain ⟨ih0, ih1⟩ := impl_DoubleLabel.mono_l k
    refine ⟨?_, ?_⟩
    · intro y0 y1
      unfold impl_DoubleLabel.j0
      repeat' first
      | (with_reducible exact ih0 _ _)
      | (with_reducible exact ih1 _ _ _ _)
      | (with_reducible exact impl_isLabel.mono _ _)
      | (with_reducible exact LeO.refl _)
      | (with_reducible exact LeO.none _)
      | (with_reducible refine LeO.ite ?_ ?_)
      | (with_reducible refine LeO.bind ?_ (fun _ => ?_))
      | exact ih0 _ _
      | exact ih1 _ _ _ _
      | exact impl_isLabel.mono _ _
      | exact LeO.none _
      | refine LeO.ite ?_ ?_
      | refine LeO.bind ?_ (fun _ => ?_)
    · intro y0 y1 y2 y3
      unfold impl_DoubleLabel.l0
      repeat' first
      | (with_reducible exact ih0 _ _)
      | (with_reducible exact ih1 _ _ _ _)
      | (with_reducible exact impl_isLabel.mono _ _)
      | (with_reducible exact LeO.refl _)
      | (with_reducible exact LeO.none _)
      | (with_reducible refine LeO.ite ?_ ?_)
      | (with_reducible refine LeO.bind ?_ (fun _ => ?_))
      | exact ih0 _ _
      | exact ih1 _ _ _ _
      | exact impl_isLabel.mono _ _
      | exact LeO.none _
      | refine LeO.ite ?_ ?_
      | refine LeO.bind ?_ (fun _ => ?_)
theorem impl_DoubleLabel.mono : ∀ a0 k, LeO (impl_DoubleLabel.f k a0) (impl_DoubleLabel.f (k + 1) a0) := by
  intro a0 k
  obtain ⟨ih0, ih1⟩ := impl_DoubleLabel.mono_l k
  unfold impl_DoubleLabel.f
  repeat' first
      | (with_reducible exact ih0 _ _)
      | (with_reducible exact ih1 _ _ _ _)
      | (with_reducible exact impl_isLabel.mono _ _)
      | (with_reducible exact LeO.refl _)
      | (with_reducible exact LeO.none _)
      | (with_reducible refine LeO.ite ?_ ?_)
      | (with_reducible refine LeO.bind ?_ (fun _ => ?_))
      | exact ih0 _ _
      | exact ih1 _ _ _ _
      | exact impl_isLabel.mono _ _
      | exact LeO.none _
      | refine LeO.ite ?_ ?_
      | refine LeO.bind ?_ (fun _ => ?_)
set_option maxHeartbeats 8000000 in
set_option maxRecDepth 100000 in
theorem impl_DoubleLabel.calls (k : Nat) (A0 : Option Addr) (c0 : Nat) (l0 : List Int) (r1 : List Int) (r2 : Bool) (w : World) (hr0 : Kd.C (Kd.int .i64) w A0 l0.length l0) (hc0 : l0.length ≤ c0) (h : impl_DoubleLabel.f k l0 = some (r1, r2)) :
    Calls Try.prog 46 #[.slice A0 l0.length c0] w fun e w' => ∃ v0_ : Value, e = .returned (.tuple #[v0_, .bool r2]) ∧ Kd.R (Kd.int .i64) 3 w' w.heap.size (fun _ => True) v0_ r1 ∧ Below w.heap.size w w' := by
 have HR0 := A_ hr0
 have HC0 := A_ hc0
 clear hr0 hc0
 have HB := A_ (Below.refl w.heap.size w)
 have H : ((impl_isLabel.f k l0).bind fun t486 => (if t486 = true then (impl_DoubleLabel.j0 k l0 (decide ((wrap64 ((wrap64 (2 * (l0.length : Int))) + 2)) > 6))) else (impl_DoubleLabel.j0 k l0 true))) = some (r1, r2) := h
 clear h
 have HC2 := A_ H
 clear H
 go_enter Try.func46, Try.ntmps46
 go_upto_region 1 with (fail)
 go_cut [16] (fun v16 wc => ∃ (kq : Nat) (x16_1 : Bool), v16 = .bool x16_1 ∧ Aside0 (impl_DoubleLabel.j0 kq l0 x16_1 = some (r1, r2)) ∧ Aside0 (kq ≤ k) ∧ Aside0 (Below w.heap.size w wc))
 case first =>
  have H := HC2.out
  clear HC2
  replace H := Option.bind_eq_some_iff.mp H
  obtain ⟨t486, A30, H⟩ := H
  replace H : (if t486 = true then (impl_DoubleLabel.j0 k l0 (decide ((wrap64 ((wrap64 (2 * (l0.length : Int))) + 2)) > 6))) else (impl_DoubleLabel.j0 k l0 true)) = some (r1, r2) := H
  have A3 := A_ A30
  clear A30
  by_cases c4 : t486 = true
  ·
   subst c4
   have H1 : (impl_DoubleLabel.j0 k l0 (decide ((wrap64 ((wrap64 (2 * (l0.length : Int))) + 2)) > 6))) = some (r1, r2) := by rw [if_pos rfl] at H; exact H
   clear H
   have H := H1
   clear H1
   have H' := A_ H
   clear H
   go_wp2_with (first | ((with_reducible refine gate_callee (f := 97) rfl ?_); refine goesL_ (some 8) rfl rfl Try.func97 (by kernel_rfl) rfl #[.slice A0 l0.length c0] rfl gq ?_; (with_reducible refine (impl_isLabel.calls k _ _ l0 true _ ?side1 ?side2 A3.out).mono ?_); (case side1 => exact cq (Kd.C_below HR0.out HB.out)); (case side2 => exact HC0.out); rintro e w' ⟨rfl, ⟨nd, rfl⟩⟩; refine ⟨_, rfl, ?_⟩))
   go_meet
   case rel => exact ⟨_, (decide ((wrap64 ((wrap64 (2 * (l0.length : Int))) + 2)) > 6)), (by first | rfl | (simp; done) | (simp [*]; done)), H', ⟨by first | omega | exact Nat.le_refl _⟩, ⟨hq HB⟩⟩
  ·
   replace c4 := Bool.eq_false_iff.mpr c4
   subst c4
   have H1 : (impl_DoubleLabel.j0 k l0 true) = some (r1, r2) := by rw [if_neg (show ¬ (false = true) by decide)] at H; exact H
   clear H
   have H := H1
   clear H1
   have H' := A_ H
   clear H
   go_wp2_with (first | ((with_reducible refine gate_callee (f := 97) rfl ?_); refine goesL_ (some 8) rfl rfl Try.func97 (by kernel_rfl) rfl #[.slice A0 l0.length c0] rfl gq ?_; (with_reducible refine (impl_isLabel.calls k _ _ l0 false _ ?side1 ?side2 A3.out).mono ?_); (case side1 => exact cq (Kd.C_below HR0.out HB.out)); (case side2 => exact HC0.out); rintro e w' ⟨rfl, ⟨nd, rfl⟩⟩; refine ⟨_, rfl, ?_⟩))
   go_meet
   case rel => exact ⟨_, (true), (by first | rfl | (simp; done) | (simp [*]; done)), H', ⟨by first | omega | exact Nat.le_refl _⟩, ⟨hq HB⟩⟩
 case rest =>
  clear HC2
  try clear p2
  try clear c4
  obtain ⟨kq, x16_1, rfl, HA, HJ1, HB⟩ := hcut
  cases kq with
  | zero => exact absurd HA.out (by simp [impl_DoubleLabel.j0])
  | succ kj1 =>
   have H := HA.out
   clear HA
   simp only [impl_DoubleLabel.j0] at H
   by_cases c5 : x16_1 = true
   ·
    subst c5
    have H1 : (some (([] : List Int), false)) = some (r1, r2) := by rw [if_pos rfl] at H; exact H
    clear H
    have H := H1
    clear H1
    simp only [Option.some.injEq, Prod.mk.injEq] at H
    obtain ⟨rfl, rfl⟩ := H
    go_wp2
    go_ret2
    exact ⟨_, rt, by first | exact Kd.R_nil _ _ _ _ _ | exact Kd.N_nil _ _ _ _ _ | exact Kd.V_nil _ _ _ _ _ | exact Kd.Q_nil _ _ _ _ _ | exact Kd.S_nil _ _ _ _ _, hq HB⟩
   ·
    replace c5 := Bool.eq_false_iff.mpr c5
    subst c5
    have H1 : (impl_DoubleLabel.l0 kj1 (([] : List Int)) l0 (l0.length : Int) 0) = some (r1, r2) := by rw [if_neg (show ¬ (false = true) by decide)] at H; exact H
    clear H
    have H := H1
    clear H1
    obtain ⟨y487, hy487⟩ : ∃ y_ : List Int, y_ = (([] : List Int)) := ⟨_, rfl⟩
    replace H : (impl_DoubleLabel.l0 kj1 y487 l0 (l0.length : Int) 0) = some (r1, r2) := by first | (rw [hy487]; with_reducible exact H) | (have H2_ := (Option.bind_some _ _).symm.trans H; rw [hy487]; with_reducible exact H2_) | (have H2_ := (Option.bind_some _ _).symm.trans H; with_reducible exact H2_) | with_reducible exact H | (rw [hy487]; exact H) | exact H
    have Ny487 := A_ hy487
    clear hy487
    have H' := A_ H
    clear H
    go_wp2_with (first | ((with_reducible refine gate_dst (N := 17) rfl ?_); (try (refine gate_guard (by rfl) ?_; dsimp only)); refine Kd.R_lit (Kd.int .i64) _ 3 ?hg (N := 17) ?hd (xs := ([] : List Int)) (inner := []) (ok := fun _ => True) (okp := fun _ => True) ?hr ?hp (fun _ hk => hk) trivial (Below.refl _ _) (Nat.le_refl _) (by simp) ?_; (case hd => rfl); (case hg => rfl); (case hr => first | (go_simp; done) | (go_simp; rfl)); (case hp => exact (Reps.none _ _)); intro v488 w6 ho7 hb hg_ hnew_; clear hg_ hnew_; (first | rw [← Ny487.out] at ho7 | (simp only [Int.reduceToNat] at ho7; rw [← Ny487.out] at ho7)); have n0_ := A_ (Kd.R_lower ho7 (below_size (hq HB))); have n1_ := A_ (below_step (hq HB) hb); clear HB; have HO489 := n0_; have HB := n1_; clear n0_ n1_; clear hb ho7))
    go_loopg [4, 20] kj1 (fun kq v4 v20 w' => ∃ (x4_2 : List Int) (x20_2 : Int), v20 = .int .i64 x20_2 ∧ Aside0 (impl_DoubleLabel.l0 kq x4_2 l0 (l0.length : Int) x20_2 = some (r1, r2)) ∧ Aside0 (kq ≤ kj1) ∧ Aside0 (Kd.R (Kd.int .i64) 3 w' w.heap.size (fun _ => True) v4 x4_2) ∧ Aside0 (Below w.heap.size w w'))
    case atStart => exact ⟨(y487), (0), (by first | rfl | (simp; done) | (simp [*]; done)), H', ⟨Nat.le_refl _⟩, ⟨rq HO489⟩, ⟨hq HB⟩⟩
    case round =>
     clear H'
     try clear p2
     try clear c4
     try clear c5
     try clear p6
     try clear p2
     obtain ⟨x4_2, x20_2, rfl, HA, HK2, HO_4, HB⟩ := hrel
     cases gk with
     | zero => exact absurd HA.out (by simp [impl_DoubleLabel.l0])
     | succ k2 =>
      have H := HA.out
      clear HA
      simp only [impl_DoubleLabel.l0] at H
      by_cases c8 : x20_2 < (l0.length : Int)
      ·
       rw [if_pos c8] at H
       have c8b0 : decide (x20_2 < (l0.length : Int)) = true := decide_eq_true c8
       clear c8
       by_cases c9 : 0 ≤ x20_2
       ·
        rw [if_pos c9] at H
        have c9b0 : decide (0 ≤ x20_2) = true := decide_eq_true c9
        clear c9
        by_cases c10 : x20_2 < (l0.length : Int)
        ·
         rw [if_pos c10] at H
         have c10b0 : decide (x20_2 < (l0.length : Int)) = true := decide_eq_true c10
         clear c10
         obtain ⟨y491, hy491⟩ : ∃ y_ : List Int, y_ = (([rd l0 x20_2, rd l0 x20_2] : List Int)) := ⟨_, rfl⟩
         replace H : (if x4_2.length + y491.length < 17592186044416 then (impl_DoubleLabel.l0 k2 (x4_2 ++ y491) l0 (l0.length : Int) (wrap64 (x20_2 + 1))) else (none)) = some (r1, r2) := by first | (rw [hy491]; with_reducible exact H) | (have H2_ := (Option.bind_some _ _).symm.trans H; rw [hy491]; with_reducible exact H2_) | (have H2_ := (Option.bind_some _ _).symm.trans H; with_reducible exact H2_) | with_reducible exact H | (rw [hy491]; exact H) | exact H
         have Ny491 := A_ hy491
         clear hy491
         by_cases c11 : x4_2.length + y491.length < 17592186044416
         ·
          rw [if_pos c11] at H
          have LMc11 := A_ c11
          clear c11
          obtain ⟨y494, hy494⟩ : ∃ y_ : List Int, y_ = (x4_2 ++ y491) := ⟨_, rfl⟩
          replace H : (impl_DoubleLabel.l0 k2 y494 l0 (l0.length : Int) (wrap64 (x20_2 + 1))) = some (r1, r2) := by first | (rw [hy494]; with_reducible exact H) | (have H2_ := (Option.bind_some _ _).symm.trans H; rw [hy494]; with_reducible exact H2_) | (have H2_ := (Option.bind_some _ _).symm.trans H; with_reducible exact H2_) | with_reducible exact H | (rw [hy494]; exact H) | exact H
          have Ny494 := A_ hy494
          clear hy494
          have H' := A_ H
          clear H
          have p490 : 0 ≤ (x20_2 : Int) := of_decide_eq_true (by first | (with_reducible assumption) | assumption)
          have q490 : x20_2 < (l0.length : Int) := of_decide_eq_true (by first | (with_reducible assumption) | assumption)
          obtain ⟨ad490, e490, hx490_0⟩ := Kd.at_int HR0.out x20_2 p490 q490
          cases e490
          replace hx490_0 := (HB.out.cell (World.block_lt_of_cell? w _ hx490_0)).trans hx490_0
          replace p490 := eq_true p490
          replace q490 := eq_true q490
          go_wp2_with (first | ((with_reducible refine gate_dst (N := 27) rfl ?_); (try (refine gate_guard (by rfl) ?_; dsimp only)); refine Kd.R_lit (Kd.int .i64) _ 3 ?hg (N := 27) ?hd (xs := ([rd l0 x20_2, rd l0 x20_2] : List Int)) (inner := [.int .i64 (rd l0 x20_2), .int .i64 (rd l0 x20_2)]) (ok := fun _ => True) (okp := fun _ => True) ?hr ?hp (fun _ hk => hk) trivial (Below.refl _ _) (Nat.le_refl _) (by simp) ?_; (case hd => rfl); (case hg => rfl); (case hr => first | (go_simp; done) | (go_simp; rfl)); (case hp => exact (Reps.one (show Kd.M (Kd.int .i64) _ _ _ (rd l0 x20_2) [.int .i64 (rd l0 x20_2)] from rfl) (Reps.one (show Kd.M (Kd.int .i64) _ _ _ (rd l0 x20_2) [.int .i64 (rd l0 x20_2)] from rfl) (Reps.none _ _)))); intro v492 w12 ho13 hb hg_ hnew_; clear hg_ hnew_; (first | rw [← Ny491.out] at ho13 | (simp only [Int.reduceToNat] at ho13; rw [← Ny491.out] at ho13)); have n0_ := A_ (Kd.R_elder' (rq HO_4) (Kd.R_base ho13) hb); have n1_ := A_ (Kd.R_lower (Kd.R_new' ho13 (Kd.R_lt (rq HO_4))) (below_size (hq HB))); have n2_ := A_ (below_step (hq HB) hb); clear HO_4; clear HB; have HO_4 := n0_; have HO493 := n1_; have HB := n2_; clear n0_ n1_ n2_; clear hb ho13; obtain ⟨Ao15, co15, eo15⟩ := Kd.R_slice HO493.out; subst eo15) | ((with_reducible refine gate_builtin (b := .append) (xs := #[.tmp 24, .tmp 27]) rfl ?_); (try (refine gate_guard (by rfl) ?_; dsimp only)); at_builtin; refine Kd.R_append_rows (Kd.int .i64) (w0 := w) w.heap.size rfl (.tmp 24) (.tmp 27) 26 3 (.int .i64 0) 8 rfl Try.underlying26 info3 rfl (by decide) (by omega) u4 x4_2 y491 _ _ _ (fun k_ => some k_ ≠ (.slice Ao15 y491.length co15 : Value).ownBlock) (fun _ => False) rfl rfl ?aO ?aR (fun _ _ h => h) (fun _ h => h.elim) ?aF ?aB ?aS ?aL ?_; (case aR => repeat (first | exact (Kd.R_reads' HO493.out).2.2 | (with_reducible refine Kd.C_alloc ?_ _) | (with_reducible refine Kd.C_drewN ?_ _) | (with_reducible refine Kd.C_drew ?_))); (case aB => exact (hq HB)); (case aF => exact (fun k_ hk => Kd.fresh' (Kd.R_lt (rq HO493)) k_ hk)); (case aO => exact (by (with_reducible repeat (first | apply Kd.R_alloc | apply Kd.R_drewN | apply Kd.R_drew)); exact Kd.R_mono HO_4.out (fun _ => cj))); (case aS => exact (below_size (hq HB))); (case aL => have := LMc11.out; omega); intro v495 w14 ho hb hg hat; rw [← Ny494.out] at ho; have n0_ := A_ (Kd.R_after (ok := (fun _ => True)) (rq HO493) hg hat); have n1_ := A_ (hb); have n2_ := A_ (ho); clear HO493; clear HB; clear HO_4; have HO493 := n0_; have HB := n1_; have HO496 := n2_; clear n0_ n1_ n2_; clear ho hb hg hat))
          go_roundg k2
          case measure => have := HJ1.out; have := HK2.out; omega
          case rel => exact ⟨(y494), (wrap64 (x20_2 + 1)), (by first | rfl | (simp; done) | (simp [*]; done)), H', ⟨by have := HJ1.out; have := HK2.out; omega⟩, ⟨by (with_reducible repeat (first | apply Kd.R_alloc | apply Kd.R_drewN | apply Kd.R_drew)); exact Kd.R_mono HO496.out (fun _ hk => trivial)⟩, ⟨hq HB⟩⟩
         ·
          rw [if_neg c11] at H
          exact absurd H (by simp)
        ·
         rw [if_neg c10] at H
         exact absurd H (by simp)
       ·
        rw [if_neg c9] at H
        exact absurd H (by simp)
      ·
       rw [if_neg c8] at H
       have c8b0 : decide (x20_2 < (l0.length : Int)) = false := decide_eq_false c8
       clear c8
       obtain ⟨y497, hy497⟩ : ∃ y_ : List Int, y_ = (([0, 1] : List Int)) := ⟨_, rfl⟩
       replace H : (if x4_2.length + y497.length < 17592186044416 then (some ((x4_2 ++ y497), true)) else (none)) = some (r1, r2) := by first | (rw [hy497]; with_reducible exact H) | (have H2_ := (Option.bind_some _ _).symm.trans H; rw [hy497]; with_reducible exact H2_) | (have H2_ := (Option.bind_some _ _).symm.trans H; with_reducible exact H2_) | with_reducible exact H | (rw [hy497]; exact H) | exact H
       have Ny497 := A_ hy497
       clear hy497
       by_cases c16 : x4_2.length + y497.length < 17592186044416
       ·
        rw [if_pos c16] at H
        have LMc16 := A_ c16
        clear c16
        obtain ⟨y500, hy500⟩ : ∃ y_ : List Int, y_ = (x4_2 ++ y497) := ⟨_, rfl⟩
        replace H : (some (y500, true)) = some (r1, r2) := by first | (rw [hy500]; with_reducible exact H) | (have H2_ := (Option.bind_some _ _).symm.trans H; rw [hy500]; with_reducible exact H2_) | (have H2_ := (Option.bind_some _ _).symm.trans H; with_reducible exact H2_) | with_reducible exact H | (rw [hy500]; exact H) | exact H
        have Ny500 := A_ hy500
        clear hy500
        simp only [Option.some.injEq, Prod.mk.injEq] at H
        obtain ⟨rfl, rfl⟩ := H
        go_wp2_with (first | ((with_reducible refine gate_dst (N := 31) rfl ?_); (try (refine gate_guard (by rfl) ?_; dsimp only)); refine Kd.R_lit (Kd.int .i64) _ 3 ?hg (N := 31) ?hd (xs := ([0, 1] : List Int)) (inner := [.int .i64 0, .int .i64 1]) (ok := fun _ => True) (okp := fun _ => True) ?hr ?hp (fun _ hk => hk) trivial (Below.refl _ _) (Nat.le_refl _) (by simp) ?_; (case hd => rfl); (case hg => rfl); (case hr => first | (go_simp; done) | (go_simp; rfl)); (case hp => exact (Reps.one (show Kd.M (Kd.int .i64) _ _ _ 0 [.int .i64 0] from rfl) (Reps.one (show Kd.M (Kd.int .i64) _ _ _ 1 [.int .i64 1] from rfl) (Reps.none _ _)))); intro v498 w17 ho18 hb hg_ hnew_; clear hg_ hnew_; (first | rw [← Ny497.out] at ho18 | (simp only [Int.reduceToNat] at ho18; rw [← Ny497.out] at ho18)); have n0_ := A_ (Kd.R_elder' (rq HO_4) (Kd.R_base ho18) hb); have n1_ := A_ (Kd.R_lower (Kd.R_new' ho18 (Kd.R_lt (rq HO_4))) (below_size (hq HB))); have n2_ := A_ (below_step (hq HB) hb); clear HO_4; clear HB; have HO_4 := n0_; have HO499 := n1_; have HB := n2_; clear n0_ n1_ n2_; clear hb ho18; obtain ⟨Ao20, co20, eo20⟩ := Kd.R_slice HO499.out; subst eo20) | ((with_reducible refine gate_builtin (b := .append) (xs := #[.tmp 30, .tmp 31]) rfl ?_); (try (refine gate_guard (by rfl) ?_; dsimp only)); at_builtin; refine Kd.R_append_rows (Kd.int .i64) (w0 := w) w.heap.size rfl (.tmp 30) (.tmp 31) 26 3 (.int .i64 0) 8 rfl Try.underlying26 info3 rfl (by decide) (by omega) u4 x4_2 y497 _ _ _ (fun k_ => some k_ ≠ (.slice Ao20 y497.length co20 : Value).ownBlock) (fun _ => False) rfl rfl ?aO ?aR (fun _ _ h => h) (fun _ h => h.elim) ?aF ?aB ?aS ?aL ?_; (case aR => repeat (first | exact (Kd.R_reads' HO499.out).2.2 | (with_reducible refine Kd.C_alloc ?_ _) | (with_reducible refine Kd.C_drewN ?_ _) | (with_reducible refine Kd.C_drew ?_))); (case aB => exact (hq HB)); (case aF => exact (fun k_ hk => Kd.fresh' (Kd.R_lt (rq HO499)) k_ hk)); (case aO => exact (by (with_reducible repeat (first | apply Kd.R_alloc | apply Kd.R_drewN | apply Kd.R_drew)); exact Kd.R_mono HO_4.out (fun _ => cj))); (case aS => exact (below_size (hq HB))); (case aL => have := LMc16.out; omega); intro v501 w19 ho hb hg hat; rw [← Ny500.out] at ho; have n0_ := A_ (Kd.R_after (ok := (fun _ => True)) (rq HO499) hg hat); have n1_ := A_ (hb); have n2_ := A_ (ho); clear HO499; clear HB; clear HO_4; have HO499 := n0_; have HB := n1_; have HO502 := n2_; clear n0_ n1_ n2_; clear ho hb hg hat))
        go_ret2
        exact ⟨_, rt, by (with_reducible repeat (first | apply Kd.R_alloc | apply Kd.R_drewN | apply Kd.R_drew)); exact Kd.R_mono HO502.out (fun _ hk => trivial), hq HB⟩
       ·
        rw [if_neg c16] at H
        exact absurd H (by simp)

end Go.Proofs.Ytmamhnbhahafgaa.PFnLabels
