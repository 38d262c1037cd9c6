-- Printed, and told shorter by this session's program shrink.py.
-- Printed by this session's program myprint.py.
import Derived.Test.YthnaghigpgfchaaPFnExactReturnTimex0
import Derived.Test.YthnaghigpgfchaaPFnExactReturnTimex12
import Derived.Test.YthnaghigpgfchaaPFnExactReturnTimex14
namespace Go.Proofs.Ythnaghigpgfchaa.PFnExactReturnTime
open Go.RowKit Go.Proofs.Ythnaghigpgfchaa.Own Go.Proofs.YthnaghigpgfchaaW.PrintWords Go.Proofs.YthnaghigpgfchaaW.PrintLast Go.Proofs.YthnaghigpgfchaaW.PrintMore
attribute [local go_sem] max2_int min2_int max_two min_two max_three min_three max_four min_four   -- for this text's walks alone
set_option linter.unusedVariables false
set_option linter.unusedSimpArgs false

/-! ### impl_leastBudget: function 36 -/
mutual
def impl_leastBudget.j0 : Nat → List Int → Bool → Bool → Int → Bool → Option (Int × Bool)
  | 0, _, _, _, _, _ => none
  | k + 1, x1, x2, x21, x379000, x379001 => if x21 = true then (some (0, false)) else ((impl_newRuns.f k x379000 x379001 x1 x2).bind fun bt381 => (impl_leastBudget.l0 k x1 0 bt381.1 bt381.2.1 bt381.2.2))
def impl_leastBudget.l0 : Nat → List Int → Int → Int → Bool → List (List (List Int)) → Option (Int × Bool)
  | 0, _, _, _, _, _ => none
  | k + 1, x1, x9, x387000, x387001, x387002 => (slices_Repeat_int_int.f k (([x9] : List Int)) (x1.length : Int)).bind fun t390 => ((impl_runs_firstOrder.f k x387000 x387001 x387002 t390).bind fun bt393 => (if bt393.2.2 = true then (some (x9, true)) else (impl_leastBudget.l0 k x1 (wrap64 (x9 + 1)) x387000 x387001 x387002)))
end
def impl_leastBudget.f (k : Nat) (a0_0 : Int) (a0_1 : Bool) (l1 : List Int) (a2 : Bool) : Option (Int × Bool) := (impl_IsRoad.f a0_0 a0_1).bind fun t379 => (if t379 = true then ((impl_Road_areExplorers.f k a0_0 a0_1 l1).bind fun t380 => (impl_leastBudget.j0 k l1 a2 (!t380) a0_0 a0_1)) else (impl_leastBudget.j0 k l1 a2 true a0_0 a0_1))
theorem impl_leastBudget.mono_l : ∀ k, (∀ y0 y1 y2 y3 y4, LeO (impl_leastBudget.j0 k y0 y1 y2 y3 y4) (impl_leastBudget.j0 (k + 1) y0 y1 y2 y3 y4)) ∧ (∀ y0 y1 y2 y3 y4, LeO (impl_leastBudget.l0 k y0 y1 y2 y3 y4) (impl_leastBudget.l0 (k + 1) y0 y1 y2 y3 y4))
  | 0 => ⟨fun _ _ _ _ _ r h => by simp [impl_leastBudget.j0] at h, fun _ _ _ _ _ r h => by simp [impl_leastBudget.l0] at h⟩
  | k + 1 => by
    obtain ⟨ih0, ih1⟩ := impl_leastBudget.mono_l k
    refine ⟨?_, ?_⟩
    · intro y0 y1 y2 y3 y4
      unfold impl_leastBudget.j0
      repeat' first
      | (with_reducible exact ih0 _ _ _ _ _)
      | (with_reducible exact ih1 _ _ _ _ _)
      | (with_reducible exact impl_Road_areExplorers.mono _ _ _ _)
      | (with_reducible exact impl_newRuns.mono _ _ _ _ _)
      | (with_reducible exact impl_runs_firstOrder.mono _ _ _ _ _)
      | (with_reducible exact slices_Repeat_int_int.mono _ _ _)
      | (with_reducible exact LeO.refl _)
      | (with_reducible exact LeO.none _)
      | (with_reducible refine LeO.ite ?_ ?_)
      | (with_reducible refine LeO.bind ?_ (fun _ => ?_))
      | exact ih0 _ _ _ _ _
      | exact ih1 _ _ _ _ _
      | exact impl_Road_areExplorers.mono _ _ _ _
      | exact impl_newRuns.mono _ _ _ _ _
      | exact impl_runs_firstOrder.mono _ _ _ _ _
      | exact slices_Repeat_int_int.mono _ _ _
      | exact LeO.none _
      | refine LeO.ite ?_ ?_
      | refine LeO.bind ?_ (fun _ => ?_)
    · intro y0 y1 y2 y3 y4
      unfold impl_leastBudget.l0
      repeat' first
      | (with_reducible exact ih0 _ _ _ _ _)
      | (with_reducible exact ih1 _ _ _ _ _)
      | (with_reducible exact impl_Road_areExplorers.mono _ _ _ _)
      | (with_reducible exact impl_newRuns.mono _ _ _ _ _)
      | (with_reducible exact impl_runs_firstOrder.mono _ _ _ _ _)
      | (with_reducible exact slices_Repeat_int_int.mono _ _ _)
      | (with_reducible exact LeO.refl _)
      | (with_reducible exact LeO.none _)
      | (with_reducible refine LeO.ite ?_ ?_)
      | (with_reducible refine LeO.bind ?_ (fun _ => ?_))
      | exact ih0 _ _ _ _ _
      | exact ih1 _ _ _ _ _
      | exact impl_Road_areExplorers.mono _ _ _ _
      | exact impl_newRuns.mono _ _ _ _ _
      | exact impl_runs_firstOrder.mono _ _ _ _ _
      | exact slices_Repeat_int_int.mono _ _ _
      | exact LeO.none _
      | refine LeO.ite ?_ ?_
      | refine LeO.bind ?_ (fun _ => ?_)
theorem impl_leastBudget.mono : ∀ a0 a1 a2 a3 k, LeO (impl_leastBudget.f k a0 a1 a2 a3) (impl_leastBudget.f (k + 1) a0 a1 a2 a3) := by
  intro a0 a1 a2 a3 k
  obtain ⟨ih0, ih1⟩ := impl_leastBudget.mono_l k
  unfold impl_leastBudget.f
  repeat' first
      | (with_reducible exact ih0 _ _ _ _ _)
      | (with_reducible exact ih1 _ _ _ _ _)
      | (with_reducible exact impl_Road_areExplorers.mono _ _ _ _)
      | (with_reducible exact impl_newRuns.mono _ _ _ _ _)
      | (with_reducible exact impl_runs_firstOrder.mono _ _ _ _ _)
      | (with_reducible exact slices_Repeat_int_int.mono _ _ _)
      | (with_reducible exact LeO.refl _)
      | (with_reducible exact LeO.none _)
      | (with_reducible refine LeO.ite ?_ ?_)
      | (with_reducible refine LeO.bind ?_ (fun _ => ?_))
      | exact ih0 _ _ _ _ _
      | exact ih1 _ _ _ _ _
      | exact impl_Road_areExplorers.mono _ _ _ _
      | exact impl_newRuns.mono _ _ _ _ _
      | exact impl_runs_firstOrder.mono _ _ _ _ _
      | exact slices_Repeat_int_int.mono _ _ _
      | exact LeO.none _
      | refine LeO.ite ?_ ?_
      | refine LeO.bind ?_ (fun _ => ?_)
def impl_leastBudget.T6 : Bool × List (List Nat × List Nat) := (true, [([], []), ([], []), ([1], [1]), ([], []), ([3], [3]), ([2, 4], [2, 4]), ([0, 5, 5], [0, 5]), ([6], [6]), ([7], [7]), ([7], [7]), ([7], [7]), ([8, 6, 0, 1, 2, 3, 4, 5, 6, 7, 8], [8]), ([9, 11, 0, 1, 2, 3, 4, 5, 6, 7, 8, 9, 11], [9]), ([10, 12, 0, 1, 2, 3, 4, 5, 6, 7, 8, 9, 10, 11, 12], [10])])
def impl_leastBudget.B6 : List Nat := [0, 0, 2, 0, 8, 30, 63, 127, 255, 255, 255, 511, 3071, 8191]
theorem impl_leastBudget.tab6 : rtab .any (opsOf Try.f36 6) = impl_leastBudget.T6 := by kernel_rfl
theorem impl_leastBudget.bits6 : waitsOk impl_leastBudget.T6.2 impl_leastBudget.B6 = true := by kernel_rfl
set_option maxHeartbeats 8000000 in
set_option maxRecDepth 100000 in
theorem impl_leastBudget.calls (k : Nat) (a0_0 : Int) (a0_1 : Bool) (A1 : Option Addr) (c1 : Nat) (l1 : List Int) (a2 : Bool) (r1 : Int) (r2 : Bool) (w : World) (hr1 : Kd.C (Kd.int .i64) w A1 l1.length l1) (hc1 : l1.length ≤ c1) (h : impl_leastBudget.f k a0_0 a0_1 l1 a2 = some (r1, r2)) :
    Calls Try.prog 36 #[.agg #[.int .i64 a0_0, .bool a0_1], .slice A1 l1.length c1, .bool a2] w fun e w' => e = .returned (.tuple #[.int .i64 r1, .bool r2]) ∧ Below w.heap.size w w' := by
 have hu27 := Try.underlying27
 have hu53 := Try.underlying53
 have HR1 := A_ hr1
 have HC1 := A_ hc1
 clear hr1 hc1
 have HB := A_ (Below.refl w.heap.size w)
 have H : ((impl_IsRoad.f a0_0 a0_1).bind fun t379 => (if t379 = true then ((impl_Road_areExplorers.f k a0_0 a0_1 l1).bind fun t380 => (impl_leastBudget.j0 k l1 a2 (!t380) a0_0 a0_1)) else (impl_leastBudget.j0 k l1 a2 true a0_0 a0_1))) = some (r1, r2) := h
 clear h
 have HC4 := A_ H
 clear H
 go_enter Try.func36, Try.ntmps36
 go_upto_region 1 with (first | ((with_reducible refine gate_dst (N := 3) rfl ?_); refine box_event ?hg (N := 3) ?hd (cs := #[.int .i64 a0_0, .bool a0_1]) (t := 27) ?hr ?_; (case hd => rfl); (case hg => rfl); (case hr => first | (go_simp; done) | (go_simp; rfl)); intro gb378 hg w5 hbox hb; have n0_ := A_ (below_step (hq HB) hb); have n1_ := A_ (hbox); have n2_ := A_ ((by rw [hg]; exact (below_size (hq HB)) : w.heap.size ≤ gb378)); have n3_ := A_ ((by rw [hg]; exact (below_size (hq HB)) : w.heap.size ≤ gb378)); clear HB; have HB := n0_; have BK378 := n1_; have GW378 := n2_; have GE378 := n3_; clear n0_ n1_ n2_ n3_; clear hb hbox hg))
 (try simp only [Act.put, List.setIfInBounds_toArray, List.set_cons_zero, List.set_cons_succ])
 go_cut [21] (fun v21 wc => ∃ (kq : Nat) (x21_3 : Bool), v21 = .bool x21_3 ∧ Aside0 (impl_leastBudget.j0 kq l1 a2 x21_3 a0_0 a0_1 = some (r1, r2)) ∧ Aside0 (kq ≤ k) ∧ Aside0 (wc.heap[gb378]? = some (.cells #[.int .i64 a0_0, .bool a0_1] 27 (0, 0))) ∧ Aside0 (Below w.heap.size w wc))
 case first =>
  have H := HC4.out
  clear HC4
  replace H := Option.bind_eq_some_iff.mp H
  obtain ⟨t379, A60, H⟩ := H
  replace H : (if t379 = true then ((impl_Road_areExplorers.f k a0_0 a0_1 l1).bind fun t380 => (impl_leastBudget.j0 k l1 a2 (!t380) a0_0 a0_1)) else (impl_leastBudget.j0 k l1 a2 true a0_0 a0_1)) = some (r1, r2) := H
  have A6 := A_ A60
  clear A60
  by_cases c7 : t379 = true
  ·
   subst c7
   have H1 : ((impl_Road_areExplorers.f k a0_0 a0_1 l1).bind fun t380 => (impl_leastBudget.j0 k l1 a2 (!t380) a0_0 a0_1)) = some (r1, r2) := by rw [if_pos rfl] at H; exact H
   clear H
   have H := H1
   clear H1
   replace H := Option.bind_eq_some_iff.mp H
   obtain ⟨t380, A80, H⟩ := H
   replace H : (impl_leastBudget.j0 k l1 a2 (!t380) a0_0 a0_1) = some (r1, r2) := H
   have A8 := A_ A80
   clear A80
   have H' := A_ H
   clear H
   have hcz9_0 : w5.cell? ⟨gb378, 0, none⟩ = some (.int .i64 a0_0) := bc BK378 0
   have hcz9_1 : w5.cell? ⟨gb378, 1, none⟩ = some (.bool a0_1) := bc BK378 1
   have hfz9_0 := blk_frozen BK378.out 0
   have hfz9_1 := blk_frozen BK378.out 1
   go_wp2_with (first | ((with_reducible refine gate_callee (f := 41) rfl ?_); refine goesL_ (some 14) rfl rfl Try.func41 (by kernel_rfl) rfl #[.agg #[.int .i64 a0_0, .bool a0_1]] rfl gq ?_; (with_reducible refine (impl_IsRoad.calls a0_0 a0_1 true _ A6.out).mono ?_); rintro e w10 ⟨rfl, hb⟩; refine ⟨_, rfl, ?_⟩; have n0_ := A_ (blk_below (bq BK378) hb); have n1_ := A_ (below_step (hq HB) hb); clear BK378; clear HB; have BK378 := n0_; have HB := n1_; clear n0_ n1_; (try clear hb); (try clear hb2); (try clear hk); (try clear hi); have hcz11_0 : w10.cell? ⟨gb378, 0, none⟩ = some (.int .i64 a0_0) := bc BK378 0; have hcz11_1 : w10.cell? ⟨gb378, 1, none⟩ = some (.bool a0_1) := bc BK378 1; have hfz11_0 := blk_frozen BK378.out 0; have hfz11_1 := blk_frozen BK378.out 1) | (go_at_call 42; (with_reducible refine (impl_Road_areExplorers.calls k a0_0 a0_1 _ _ l1 t380 _ ?side1 ?side2 A8.out).mono ?_); (case side1 => exact cq (Kd.C_below HR1.out HB.out)); (case side2 => exact HC1.out); rintro e w12 ⟨rfl, hb⟩; have n0_ := A_ (blk_below (bq BK378) hb); have n1_ := A_ (below_step (hq HB) hb); clear BK378; clear HB; have BK378 := n0_; have HB := n1_; clear n0_ n1_; (try clear hb); (try clear hb2); (try clear hk); (try clear hi)))
   go_meet
   case rel => exact ⟨_, (!t380), (by first | rfl | (simp; done) | (simp [*]; done)), H', ⟨by first | omega | exact Nat.le_refl _⟩, ⟨bq BK378⟩, ⟨hq HB⟩⟩
  ·
   replace c7 := Bool.eq_false_iff.mpr c7
   subst c7
   have H1 : (impl_leastBudget.j0 k l1 a2 true a0_0 a0_1) = some (r1, r2) := by rw [if_neg (show ¬ (false = true) by decide)] at H; exact H
   clear H
   have H := H1
   clear H1
   have H' := A_ H
   clear H
   have hcz13_0 : w5.cell? ⟨gb378, 0, none⟩ = some (.int .i64 a0_0) := bc BK378 0
   have hcz13_1 : w5.cell? ⟨gb378, 1, none⟩ = some (.bool a0_1) := bc BK378 1
   have hfz13_0 := blk_frozen BK378.out 0
   have hfz13_1 := blk_frozen BK378.out 1
   go_wp2_with (first | ((with_reducible refine gate_callee (f := 41) rfl ?_); refine goesL_ (some 14) rfl rfl Try.func41 (by kernel_rfl) rfl #[.agg #[.int .i64 a0_0, .bool a0_1]] rfl gq ?_; (with_reducible refine (impl_IsRoad.calls a0_0 a0_1 false _ A6.out).mono ?_); rintro e w14 ⟨rfl, hb⟩; refine ⟨_, rfl, ?_⟩; have n0_ := A_ (blk_below (bq BK378) hb); have n1_ := A_ (below_step (hq HB) hb); clear BK378; clear HB; have BK378 := n0_; have HB := n1_; clear n0_ n1_; (try clear hb); (try clear hb2); (try clear hk); (try clear hi)))
   go_meet
   case rel => exact ⟨_, (true), (by first | rfl | (simp; done) | (simp [*]; done)), H', ⟨by first | omega | exact Nat.le_refl _⟩, ⟨bq BK378⟩, ⟨hq HB⟩⟩
 case rest =>
  clear HC4
  try clear c1
  try clear p2
  try clear c3
  try clear c4
  try clear c7
  try clear hcz11_0
  try clear hcz11_1
  try clear hcz13_0
  try clear hcz13_1
  try clear hcz9_0
  try clear hcz9_1
  try clear hfz11_0
  try clear hfz11_1
  try clear hfz13_0
  try clear hfz13_1
  try clear hfz9_0
  try clear hfz9_1
  obtain ⟨kq, x21_3, rfl, HA, HJ3, BK378, HB⟩ := hcut
  cases kq with
  | zero => exact absurd HA.out (by simp [impl_leastBudget.j0])
  | succ kj3 =>
   have H := HA.out
   clear HA
   simp only [impl_leastBudget.j0] at H
   by_cases c15 : x21_3 = true
   ·
    subst c15
    have H1 : (some (0, false)) = some (r1, r2) := by rw [if_pos rfl] at H; exact H
    clear H
    have H := H1
    clear H1
    simp only [Option.some.injEq, Prod.mk.injEq] at H
    obtain ⟨rfl, rfl⟩ := H
    go_wp2
    go_ret2
    exact ⟨rt, hq HB⟩
   ·
    replace c15 := Bool.eq_false_iff.mpr c15
    subst c15
    have H1 : ((impl_newRuns.f kj3 a0_0 a0_1 l1 a2).bind fun bt381 => (impl_leastBudget.l0 kj3 l1 0 bt381.1 bt381.2.1 bt381.2.2)) = some (r1, r2) := by rw [if_neg (show ¬ (false = true) by decide)] at H; exact H
    clear H
    have H := H1
    clear H1
    replace H := Option.bind_eq_some_iff.mp H
    obtain ⟨⟨t381, t382, t383⟩, A160, H⟩ := H
    replace H : (impl_leastBudget.l0 kj3 l1 0 t381 t382 t383) = some (r1, r2) := H
    have A16 := A_ A160
    clear A160
    have H' := A_ H
    clear H
    have hcz17_0 : wc.cell? ⟨gb378, 0, none⟩ = some (.int .i64 a0_0) := bc BK378 0
    have hcz17_1 : wc.cell? ⟨gb378, 1, none⟩ = some (.bool a0_1) := bc BK378 1
    have hfz17_0 := blk_frozen BK378.out 0
    have hfz17_1 := blk_frozen BK378.out 1
    go_wp2_with (first | ((with_reducible refine gate_callee (f := 30) rfl ?_); refine goesL_ (some 25) rfl rfl Try.func30 (by kernel_rfl) rfl #[.agg #[.int .i64 a0_0, .bool a0_1], .slice A1 l1.length c1, .bool a2] rfl gq ?_; (with_reducible refine (impl_newRuns.calls kj3 a0_0 a0_1 _ _ l1 a2 t381 t382 t383 _ ?side1 ?side2 A16.out).mono ?_); (case side1 => exact cq (Kd.C_below HR1.out HB.out)); (case side2 => exact HC1.out); rintro e w18 ⟨v384, rfl, ho0, hb⟩; refine ⟨_, rfl, ?_⟩; have n0_ := A_ (Kd.R_lower ho0 (below_size (hq HB))); have n1_ := A_ (blk_below (bq BK378) hb); have n2_ := A_ (below_step (hq HB) hb); clear BK378; clear HB; have HO385 := n0_; have BK378 := n1_; have HB := n2_; clear n0_ n1_ n2_; (try clear hb); (try clear hb2); (try clear hk); (try clear hi); (try clear ho0)) | ((with_reducible refine gate_dst (N := 8) rfl ?_); refine box_event ?hg (N := 8) ?hd (cs := #[.int .i64 0, .bool false, .slice none 0 0]) (t := 53) ?hr ?_; (case hd => rfl); (case hg => rfl); (case hr => first | (go_simp; done) | (go_simp; rfl)); intro gb386 hg w19 hbox hb; have n0_ := A_ (Kd.R_below (rq HO385) hb); have n1_ := A_ (blk_below (bq BK378) hb); have n2_ := A_ (below_step (hq HB) hb); have n3_ := A_ (hbox); have n4_ := A_ ((by rw [hg]; exact (below_size (hq HB)) : w.heap.size ≤ gb386)); have n5_ := A_ ((by rw [hg]; exact (below_size (hq HB)) : w.heap.size ≤ gb386)); have n6_ := A_ ((by rw [hg]; exact Nat.ne_of_lt (blk_lt (bq BK378)) : gb378 ≠ gb386)); have n7_ := A_ ((by rw [hg]; exact Nat.ne_of_gt (blk_lt (bq BK378)) : gb386 ≠ gb378)); clear HO385; clear BK378; clear HB; have HO385 := n0_; have BK378 := n1_; have HB := n2_; have BK386 := n3_; have GW386 := n4_; have GE386 := n5_; have NB378_386 := n6_; have NB386_378 := n7_; clear n0_ n1_ n2_ n3_ n4_ n5_ n6_ n7_; clear hb hbox hg; have hnb20 := NB386_378.out; have hnc20 := NB378_386.out; have hcz21_0 : w19.cell? ⟨gb386, 0, none⟩ = some (.int .i64 0) := bc BK386 0; have hcz21_1 : w19.cell? ⟨gb386, 1, none⟩ = some (.bool false) := bc BK386 1; have hcz21_2 : w19.cell? ⟨gb386, 2, none⟩ = some (.slice none 0 0) := bc BK386 2; have hfz21_0 := blk_frozen BK386.out 0; have hfz21_1 := blk_frozen BK386.out 1; have hfz21_2 := blk_frozen BK386.out 2; obtain ⟨Ao22, co22, eo22⟩ := Kd.R_slice HO385.out; subst eo22))
    go_loopg [9] kj3 (fun kq v9 w' => ∃ (x9_2 : Int), v9 = .int .i64 x9_2 ∧ Aside0 (impl_leastBudget.l0 kq l1 x9_2 t381 t382 t383 = some (r1, r2)) ∧ Aside0 (kq ≤ kj3) ∧ Aside0 (Kd.R (Kd.slice 24 (Kd.slice 3 (Kd.int .i64))) 49 w' w.heap.size (fun _ => True) (.slice Ao22 t383.length co22) t383) ∧ Aside0 (w'.heap[gb378]? = some (.cells #[.int .i64 a0_0, .bool a0_1] 27 (0, 0))) ∧ Aside0 (w'.heap[gb386]? = some (.cells #[.int .i64 t381, .bool t382, (.slice Ao22 t383.length co22)] 53 (0, 0))) ∧ Aside0 (Below w.heap.size w w'))
    case atStart => exact ⟨(0), (by first | rfl | (simp; done) | (simp [*]; done)), H', ⟨Nat.le_refl _⟩, ⟨by (with_reducible repeat (first | apply Kd.R_alloc | apply Kd.R_drewN | apply Kd.R_drew)); exact Kd.R_mono (Kd.R_far (p := ⟨gb386, 2, none⟩) (Kd.R_far (p := ⟨gb386, 1, none⟩) (Kd.R_far (p := ⟨gb386, 0, none⟩) (Kd.R_types HO385.out BK386.out (by decide)) (fun _ hk => hk.2) (.int .i64 t381)) (fun _ hk => hk.2) (.bool t382)) (fun _ hk => hk.2) (.slice Ao22 t383.length co22)) (fun _ hk => trivial)⟩, ⟨by (with_reducible repeat (first | refine blk_drewN ?_ _ | refine blk_drew ?_ | refine blk_alloc ?_ _)); refine blk_far ?_ NB378_386.out _; (with_reducible repeat (first | refine blk_drewN ?_ _ | refine blk_drew ?_ | refine blk_alloc ?_ _)); refine blk_far ?_ NB378_386.out _; (with_reducible repeat (first | refine blk_drewN ?_ _ | refine blk_drew ?_ | refine blk_alloc ?_ _)); refine blk_far ?_ NB378_386.out _; (with_reducible repeat (first | refine blk_drewN ?_ _ | refine blk_drew ?_ | refine blk_alloc ?_ _)); exact BK378.out⟩, ⟨by (with_reducible repeat (first | refine blk_drewN ?_ _ | refine blk_drew ?_ | refine blk_alloc ?_ _)); refine blk_put (cs := #[.int .i64 t381, .bool t382, .slice none 0 0]) ?_ 2 _ rfl; (with_reducible repeat (first | refine blk_drewN ?_ _ | refine blk_drew ?_ | refine blk_alloc ?_ _)); refine blk_put (cs := #[.int .i64 t381, .bool false, .slice none 0 0]) ?_ 1 _ rfl; (with_reducible repeat (first | refine blk_drewN ?_ _ | refine blk_drew ?_ | refine blk_alloc ?_ _)); refine blk_put (cs := #[.int .i64 0, .bool false, .slice none 0 0]) ?_ 0 _ rfl; (with_reducible repeat (first | refine blk_drewN ?_ _ | refine blk_drew ?_ | refine blk_alloc ?_ _)); exact BK386.out⟩, ⟨hq HB⟩⟩
    case round =>
     clear H'
     try clear c1
     try clear c2
     try clear p2
     try clear c3
     try clear c4
     try clear c7
     try clear c15
     try clear c20
     try clear hcz11_0
     try clear hcz11_1
     try clear hcz13_0
     try clear hcz13_1
     try clear hcz17_0
     try clear hcz17_1
     try clear hcz21_0
     try clear hcz21_1
     try clear hcz21_2
     try clear hcz9_0
     try clear hcz9_1
     try clear hfz11_0
     try clear hfz11_1
     try clear hfz13_0
     try clear hfz13_1
     try clear hfz17_0
     try clear hfz17_1
     try clear hfz21_0
     try clear hfz21_1
     try clear hfz21_2
     try clear hfz9_0
     try clear hfz9_1
     try clear p2
     obtain ⟨x9_2, rfl, HA, HK2, HO_387002, BK378, BK386, HB⟩ := hrel
     cases gk with
     | zero => exact absurd HA.out (by simp [impl_leastBudget.l0])
     | succ k2 =>
      have H := HA.out
      clear HA
      simp only [impl_leastBudget.l0] at H
      obtain ⟨y387, hy387⟩ : ∃ y_ : List Int, y_ = (([x9_2] : List Int)) := ⟨_, rfl⟩
      replace H : ((slices_Repeat_int_int.f k2 y387 (l1.length : Int)).bind fun t390 => ((impl_runs_firstOrder.f k2 t381 t382 t383 t390).bind fun bt393 => (if bt393.2.2 = true then (some (x9_2, true)) else (impl_leastBudget.l0 k2 l1 (wrap64 (x9_2 + 1)) t381 t382 t383)))) = some (r1, r2) := by first | (rw [hy387]; with_reducible exact H) | (have H2_ := (Option.bind_some _ _).symm.trans H; rw [hy387]; with_reducible exact H2_) | (have H2_ := (Option.bind_some _ _).symm.trans H; with_reducible exact H2_) | with_reducible exact H | (rw [hy387]; exact H) | exact H
      have Ny387 := A_ hy387
      clear hy387
      replace H := Option.bind_eq_some_iff.mp H
      obtain ⟨t390, A230, H⟩ := H
      replace H : ((impl_runs_firstOrder.f k2 t381 t382 t383 t390).bind fun bt393 => (if bt393.2.2 = true then (some (x9_2, true)) else (impl_leastBudget.l0 k2 l1 (wrap64 (x9_2 + 1)) t381 t382 t383))) = some (r1, r2) := H
      have A23 := A_ A230
      clear A230
      replace H := Option.bind_eq_some_iff.mp H
      obtain ⟨⟨t393, t394, t397⟩, A240, H⟩ := H
      replace H : (if t397 = true then (some (x9_2, true)) else (impl_leastBudget.l0 k2 l1 (wrap64 (x9_2 + 1)) t381 t382 t383)) = some (r1, r2) := H
      have A24 := A_ A240
      clear A240
      by_cases c25 : t397 = true
      ·
       subst c25
       have H1 : (some (x9_2, true)) = some (r1, r2) := by rw [if_pos rfl] at H; exact H
       clear H
       have H := H1
       clear H1
       simp only [Option.some.injEq, Prod.mk.injEq] at H
       obtain ⟨rfl, rfl⟩ := H
       try go_wp2
       have n0_ := A_ (Kd.R_drew HO_387002.out)
       have n1_ := A_ (blk_drew BK378.out)
       have n2_ := A_ (blk_drew BK386.out)
       have n3_ := A_ (below_drew1 HB.out)
       clear HO_387002 BK378 BK386 HB; have HO_387002 := n0_; have BK378 := n1_; have BK386 := n2_; have HB := n3_; clear n0_ n1_ n2_ n3_
       refine start_ (n := 14) (S := fun w' => w'.cell? ⟨gb386, 0, none⟩ = some (.int .i64 t381) ∧ w'.cell? ⟨gb386, 1, none⟩ = some (.bool t382) ∧ w'.cell? ⟨gb386, 2, none⟩ = some (.slice Ao22 t383.length co22)) (ds := []) #[false, false, false, false, false, false, false, false, false, false, false, false, false, false] (by kernel_rfl) rfl rfl ⟨bc BK386 0, bc BK386 1, bc BK386 2⟩ (fun hHeld => ?_); refine with_tabW impl_leastBudget.tab6 impl_leastBudget.bits6 (fun HT_ HW_ => ?_)
       generalize wr.drew = w26 at HO_387002 BK378 BK386 HB hHeld ⊢
       refine pure_ (i := 1) (N := some 30) (v := ?_) (a' := ?_) #[false, true, false, false, false, false, false, false, false, false, false, false, false, false] rfl rfl (any_of HT_.out (by kernel_rfl)) (fun _ _ _ h => h) (Or.inl ⟨by rfl, ?_⟩) ?_ ?_
       rotate_left
       ·
        intro w'
        go_simp
        with_reducible rfl
       rotate_left
       ·
        simp only [Act.put, List.setIfInBounds_toArray, List.set_cons_zero, List.set_cons_succ, i64_w, i32_w]
        rfl
       refine pure_ (i := 3) (N := some 32) (v := ?_) (a' := ?_) #[false, true, false, true, false, false, false, false, false, false, false, false, false, false] rfl rfl (any_of HT_.out (by kernel_rfl)) (fun _ _ _ h => h) (Or.inl ⟨by rfl, ?_⟩) ?_ ?_
       rotate_left
       ·
        intro w'
        go_simp
        with_reducible rfl
       rotate_left
       ·
        simp only [Act.put, List.setIfInBounds_toArray, List.set_cons_zero, List.set_cons_succ, i64_w, i32_w]
        rfl
       refine pure_ (i := 4) (N := some 33) (v := ?_) (a' := ?_) #[false, true, false, true, true, false, false, false, false, false, false, false, false, false] rfl rfl (any_of HT_.out (by kernel_rfl)) (fun _ _ _ h => h) (Or.inl ⟨by rfl, ?_⟩) ?_ ?_
       rotate_left
       ·
        intro w'
        go_simp
        with_reducible rfl
       rotate_left
       ·
        simp only [Act.put, List.setIfInBounds_toArray, List.set_cons_zero, List.set_cons_succ, i64_w, i32_w]
        rfl
       refine take_ (i := 0) (N := some 29) (v := ?_) (a' := ?_) #[true, true, false, true, true, false, false, false, false, false, false, false, false, false] rfl rfl (take_ofW HT_.out HW_.out (by kernel_rfl)) (fun _ _ _ h => h) (Or.inl ⟨by rfl, ?_⟩) hHeld ?_ ?_
       rotate_left
       ·
        rintro w' ⟨s0, s1, s2⟩
        go_simp
        with_reducible rfl
       rotate_left
       ·
        simp only [Act.put, List.setIfInBounds_toArray, List.set_cons_zero, List.set_cons_succ, i64_w, i32_w]
        rfl
       refine one_ (i := 2) (N := some 31) #[true, true, true, true, true, false, false, false, false, false, false, false, false, false] rfl rfl (one_of HT_.out (by kernel_rfl)) (by decide) (fun K hK => ?_)
       refine Kd.R_lit_step (Kd.int .i64) _ 3 ?hg (N := 31) ?hd (xs := ([x9_2] : List Int)) (inner := [.int .i64 x9_2]) (ok := fun _ => True) (okp := fun _ => True) ?hr ?hp (fun _ hk => hk) trivial (Below.refl _ _) (Nat.le_refl _) (by simp) ?_; (case hd => rfl); (case hg => rfl); (case hr => first | (go_simp; done) | (go_simp; rfl)); (case hp => exact (Reps.one (show Kd.M (Kd.int .i64) _ _ _ x9_2 [.int .i64 x9_2] from rfl) (Reps.none _ _)))
       intro v388 w27 ho28 hb hg_ hnew_
       clear hg_ hnew_
       (first | rw [← Ny387.out] at ho28 | (simp only [Int.reduceToNat] at ho28; rw [← Ny387.out] at ho28))
       have n0_ := A_ (Kd.R_elder' (rq HO_387002) (Kd.R_base ho28) hb)
       have n1_ := A_ (Kd.R_lower ho28 (below_size (hq HB)))
       have n2_ := A_ (blk_below (bq BK378) hb)
       have n3_ := A_ (blk_below (bq BK386) hb)
       have n4_ := A_ (below_step (hq HB) hb)
       clear HO_387002 BK378 BK386 HB; have HO_387002 := n0_; have HO389 := n1_; have BK378 := n2_; have BK386 := n3_; have HB := n4_; clear n0_ n1_ n2_ n3_ n4_ hb ho28
       obtain ⟨Ao29, co29, eo29⟩ := Kd.R_slice HO389.out
       (first | subst eo29 | (injection eo29 with f1_ f2_ f3_; have f4_ := f1_.symm; have f5_ := f3_.symm; clear f1_ f2_ f3_; subst f4_; subst f5_))
       refine hK.out _ _ ⟨bc BK386 0, bc BK386 1, bc BK386 2⟩ (fun hHeld => ?_)
       clear hK K
       refine norm_ (a' := ?_) ?_ ?_
       rotate_left
       ·
        exact pq (d := some 31)
       refine one_ (i := 5) (N := some 34) #[true, true, true, true, true, true, false, false, false, false, false, false, false, false] rfl rfl (one_of HT_.out (by kernel_rfl)) (by decide) (fun K hK => ?_)
       refine goes_ Try.func55 (by kernel_rfl) rfl #[.slice Ao29 y387.length co29, .int .i64 (l1.length : Int)] (by rfl) rfl rfl gq ?_
       with_reducible refine (slices_Repeat_int_int.calls k2 _ _ y387 (l1.length : Int) t390 _ ?side1 ?side2 A23.out).mono ?_
       (case side1 => exact cq (Kd.R_reads' HO389.out).2.2)
       (case side2 => exact (Kd.R_reads' HO389.out).2.1)
       rintro e w30 ⟨v391, rfl, ho0, hb⟩
       refine ⟨_, rfl, ?_⟩
       have n0_ := A_ (Kd.R_elder' (rq HO_387002) (Kd.R_base ho0) hb)
       have n1_ := A_ (Kd.R_elder' (rq HO389) (Kd.R_base ho0) hb)
       have n2_ := A_ (Kd.R_lower (Kd.R_new' ho0 (Kd.R_lt (rq HO389))) (below_size (hq HB)))
       have n3_ := A_ (blk_below (bq BK378) hb)
       have n4_ := A_ (blk_below (bq BK386) hb)
       have n5_ := A_ (below_step (hq HB) hb)
       clear HO_387002 HO389 BK378 BK386 HB; have HO_387002 := n0_; have HO389 := n1_; have HO392 := n2_; have BK378 := n3_; have BK386 := n4_; have HB := n5_; clear n0_ n1_ n2_ n3_ n4_ n5_; (try clear hb); (try clear hb2); (try clear hk); (try clear hi); (try clear ho0)
       obtain ⟨Ao31, co31, eo31⟩ := Kd.R_slice HO392.out
       (first | subst eo31 | (injection eo31 with f1_ f2_ f3_; have f4_ := f1_.symm; have f5_ := f3_.symm; clear f1_ f2_ f3_; subst f4_; subst f5_))
       refine hK.out _ _ ⟨bc BK386 0, bc BK386 1, bc BK386 2⟩ (fun hHeld => ?_)
       clear hK K
       refine norm_ (a' := ?_) ?_ ?_
       rotate_left
       ·
        exact pq (d := some 34)
       refine one_ (i := 6) (N := some 35) #[true, true, true, true, true, true, true, false, false, false, false, false, false, false] rfl rfl (one_of HT_.out (by kernel_rfl)) (by decide) (fun K hK => ?_)
       refine goes_ Try.func33 (by kernel_rfl) rfl #[.agg #[.int .i64 t381, .bool t382, .slice Ao22 t383.length co22], .slice Ao31 t390.length co31] (by rfl) rfl rfl gq ?_
       with_reducible refine (impl_runs_firstOrder.calls k2 t381 t382 _ _ t383 _ _ t390 t393 t394 true _ ?side1 ?side2 ?side3 ?side4 A24.out).mono ?_
       (case side1 => exact cq (Kd.R_reads' HO_387002.out).2.2)
       (case side2 => exact (Kd.R_reads' HO_387002.out).2.1)
       (case side3 => exact cq (Kd.R_reads' HO392.out).2.2)
       (case side4 => exact (Kd.R_reads' HO392.out).2.1)
       rintro e w32 ⟨v395, rfl, ho0, hb⟩
       refine ⟨_, rfl, ?_⟩
       have n0_ := A_ (Kd.R_elder' (rq HO_387002) (Kd.R_base ho0) hb)
       have n1_ := A_ (Kd.R_elder' (rq HO389) (Kd.R_base ho0) hb)
       have n2_ := A_ (Kd.R_elder' (rq HO392) (Kd.R_base ho0) hb)
       have n3_ := A_ (Kd.R_lower (Kd.R_new' (Kd.R_new' ho0 (Kd.R_lt (rq HO389))) (Kd.R_lt (rq HO392))) (below_size (hq HB)))
       have n4_ := A_ (blk_below (bq BK378) hb)
       have n5_ := A_ (blk_below (bq BK386) hb)
       have n6_ := A_ (below_step (hq HB) hb)
       clear HO_387002 HO389 HO392 BK378 BK386 HB; have HO_387002 := n0_; have HO389 := n1_; have HO392 := n2_; have HO396 := n3_; have BK378 := n4_; have BK386 := n5_; have HB := n6_; clear n0_ n1_ n2_ n3_ n4_ n5_ n6_; (try clear hb); (try clear hb2); (try clear hk); (try clear hi); (try clear ho0)
       refine hK.out _ _ ⟨bc BK386 0, bc BK386 1, bc BK386 2⟩ (fun hHeld => ?_)
       clear hK K
       refine norm_ (a' := ?_) ?_ ?_
       rotate_left
       ·
        exact pq (d := some 35)
       refine pure_ (i := 7) (N := some 28) (v := ?_) (a' := ?_) #[true, true, true, true, true, true, true, true, false, false, false, false, false, false] rfl rfl (any_of HT_.out (by kernel_rfl)) (fun _ _ _ h => h) (Or.inl ⟨by rfl, ?_⟩) ?_ ?_
       rotate_left
       ·
        intro w'
        go_simp
        with_reducible rfl
       rotate_left
       ·
        simp only [Act.put, List.setIfInBounds_toArray, List.set_cons_zero, List.set_cons_succ, i64_w, i32_w]
        rfl
       refine pure_ (i := 8) (N := some 36) (v := ?_) (a' := ?_) #[true, true, true, true, true, true, true, true, true, false, false, false, false, false] rfl rfl (any_of HT_.out (by kernel_rfl)) (fun _ _ _ h => h) (Or.inl ⟨by rfl, ?_⟩) ?_ ?_
       rotate_left
       ·
        intro w'
        go_simp
        with_reducible rfl
       rotate_left
       ·
        simp only [Act.put, List.setIfInBounds_toArray, List.set_cons_zero, List.set_cons_succ, i64_w, i32_w]
        rfl
       refine pure_ (i := 9) (N := some 37) (v := ?_) (a' := ?_) #[true, true, true, true, true, true, true, true, true, true, false, false, false, false] rfl rfl (any_of HT_.out (by kernel_rfl)) (fun _ _ _ h => h) (Or.inl ⟨by rfl, ?_⟩) ?_ ?_
       rotate_left
       ·
        intro w'
        go_simp
        with_reducible rfl
       rotate_left
       ·
        simp only [Act.put, List.setIfInBounds_toArray, List.set_cons_zero, List.set_cons_succ, i64_w, i32_w]
        rfl
       refine pure_ (i := 10) (N := some 38) (v := ?_) (a' := ?_) #[true, true, true, true, true, true, true, true, true, true, true, false, false, false] rfl rfl (any_of HT_.out (by kernel_rfl)) (fun _ _ _ h => h) (Or.inl ⟨by rfl, ?_⟩) ?_ ?_
       rotate_left
       ·
        intro w'
        go_simp
        with_reducible rfl
       rotate_left
       ·
        simp only [Act.put, List.setIfInBounds_toArray, List.set_cons_zero, List.set_cons_succ, i64_w, i32_w]
        rfl
       refine pure_ (i := 11) (N := some 10) (v := ?_) (a' := ?_) #[true, true, true, true, true, true, true, true, true, true, true, true, false, false] rfl rfl (any_of HT_.out (by kernel_rfl)) (fun _ _ _ h => h) (Or.inl ⟨by rfl, ?_⟩) ?_ ?_
       rotate_left
       ·
        intro w'
        go_simp
        with_reducible rfl
       rotate_left
       ·
        simp only [Act.put, List.setIfInBounds_toArray, List.set_cons_zero, List.set_cons_succ, i64_w, i32_w]
        rfl
       refine pure_ (i := 12) (N := some 11) (v := ?_) (a' := ?_) #[true, true, true, true, true, true, true, true, true, true, true, true, true, false] rfl rfl (any_of HT_.out (by kernel_rfl)) (fun _ _ _ h => h) (Or.inl ⟨by rfl, ?_⟩) ?_ ?_
       rotate_left
       ·
        intro w'
        go_simp
        with_reducible rfl
       rotate_left
       ·
        simp only [Act.put, List.setIfInBounds_toArray, List.set_cons_zero, List.set_cons_succ, i64_w, i32_w]
        rfl
       refine pure_ (i := 13) (N := some 12) (v := ?_) (a' := ?_) #[true, true, true, true, true, true, true, true, true, true, true, true, true, true] rfl rfl (any_of HT_.out (by kernel_rfl)) (fun _ _ _ h => h) (Or.inl ⟨by rfl, ?_⟩) ?_ ?_
       rotate_left
       ·
        intro w'
        go_simp
        with_reducible rfl
       rotate_left
       ·
        simp only [Act.put, List.setIfInBounds_toArray, List.set_cons_zero, List.set_cons_succ, i64_w, i32_w]
        rfl
       refine done_ (done_of HT_.out (by kernel_rfl)) ?_
       try go_wp2
       go_ret2
       exact ⟨rt, hq HB⟩
      ·
       replace c25 := Bool.eq_false_iff.mpr c25
       subst c25
       have H1 : (impl_leastBudget.l0 k2 l1 (wrap64 (x9_2 + 1)) t381 t382 t383) = some (r1, r2) := by rw [if_neg (show ¬ (false = true) by decide)] at H; exact H
       clear H
       have H := H1
       clear H1
       have H' := A_ H
       clear H
       try go_wp2
       have n0_ := A_ (Kd.R_drew HO_387002.out)
       have n1_ := A_ (blk_drew BK378.out)
       have n2_ := A_ (blk_drew BK386.out)
       have n3_ := A_ (below_drew1 HB.out)
       clear HO_387002 BK378 BK386 HB; have HO_387002 := n0_; have BK378 := n1_; have BK386 := n2_; have HB := n3_; clear n0_ n1_ n2_ n3_
       refine start_ (n := 14) (S := fun w' => w'.cell? ⟨gb386, 0, none⟩ = some (.int .i64 t381) ∧ w'.cell? ⟨gb386, 1, none⟩ = some (.bool t382) ∧ w'.cell? ⟨gb386, 2, none⟩ = some (.slice Ao22 t383.length co22)) (ds := []) #[false, false, false, false, false, false, false, false, false, false, false, false, false, false] (by kernel_rfl) rfl rfl ⟨bc BK386 0, bc BK386 1, bc BK386 2⟩ (fun hHeld => ?_); refine with_tabW impl_leastBudget.tab6 impl_leastBudget.bits6 (fun HT_ HW_ => ?_)
       generalize wr.drew = w33 at HO_387002 BK378 BK386 HB hHeld ⊢
       refine pure_ (i := 1) (N := some 30) (v := ?_) (a' := ?_) #[false, true, false, false, false, false, false, false, false, false, false, false, false, false] rfl rfl (any_of HT_.out (by kernel_rfl)) (fun _ _ _ h => h) (Or.inl ⟨by rfl, ?_⟩) ?_ ?_
       rotate_left
       ·
        intro w'
        go_simp
        with_reducible rfl
       rotate_left
       ·
        simp only [Act.put, List.setIfInBounds_toArray, List.set_cons_zero, List.set_cons_succ, i64_w, i32_w]
        rfl
       refine pure_ (i := 3) (N := some 32) (v := ?_) (a' := ?_) #[false, true, false, true, false, false, false, false, false, false, false, false, false, false] rfl rfl (any_of HT_.out (by kernel_rfl)) (fun _ _ _ h => h) (Or.inl ⟨by rfl, ?_⟩) ?_ ?_
       rotate_left
       ·
        intro w'
        go_simp
        with_reducible rfl
       rotate_left
       ·
        simp only [Act.put, List.setIfInBounds_toArray, List.set_cons_zero, List.set_cons_succ, i64_w, i32_w]
        rfl
       refine pure_ (i := 4) (N := some 33) (v := ?_) (a' := ?_) #[false, true, false, true, true, false, false, false, false, false, false, false, false, false] rfl rfl (any_of HT_.out (by kernel_rfl)) (fun _ _ _ h => h) (Or.inl ⟨by rfl, ?_⟩) ?_ ?_
       rotate_left
       ·
        intro w'
        go_simp
        with_reducible rfl
       rotate_left
       ·
        simp only [Act.put, List.setIfInBounds_toArray, List.set_cons_zero, List.set_cons_succ, i64_w, i32_w]
        rfl
       refine take_ (i := 0) (N := some 29) (v := ?_) (a' := ?_) #[true, true, false, true, true, false, false, false, false, false, false, false, false, false] rfl rfl (take_ofW HT_.out HW_.out (by kernel_rfl)) (fun _ _ _ h => h) (Or.inl ⟨by rfl, ?_⟩) hHeld ?_ ?_
       rotate_left
       ·
        rintro w' ⟨s0, s1, s2⟩
        go_simp
        with_reducible rfl
       rotate_left
       ·
        simp only [Act.put, List.setIfInBounds_toArray, List.set_cons_zero, List.set_cons_succ, i64_w, i32_w]
        rfl
       refine one_ (i := 2) (N := some 31) #[true, true, true, true, true, false, false, false, false, false, false, false, false, false] rfl rfl (one_of HT_.out (by kernel_rfl)) (by decide) (fun K hK => ?_)
       refine Kd.R_lit_step (Kd.int .i64) _ 3 ?hg (N := 31) ?hd (xs := ([x9_2] : List Int)) (inner := [.int .i64 x9_2]) (ok := fun _ => True) (okp := fun _ => True) ?hr ?hp (fun _ hk => hk) trivial (Below.refl _ _) (Nat.le_refl _) (by simp) ?_; (case hd => rfl); (case hg => rfl); (case hr => first | (go_simp; done) | (go_simp; rfl)); (case hp => exact (Reps.one (show Kd.M (Kd.int .i64) _ _ _ x9_2 [.int .i64 x9_2] from rfl) (Reps.none _ _)))
       intro v388 w34 ho35 hb hg_ hnew_
       clear hg_ hnew_
       (first | rw [← Ny387.out] at ho35 | (simp only [Int.reduceToNat] at ho35; rw [← Ny387.out] at ho35))
       have n0_ := A_ (Kd.R_elder' (rq HO_387002) (Kd.R_base ho35) hb)
       have n1_ := A_ (Kd.R_lower ho35 (below_size (hq HB)))
       have n2_ := A_ (blk_below (bq BK378) hb)
       have n3_ := A_ (blk_below (bq BK386) hb)
       have n4_ := A_ (below_step (hq HB) hb)
       clear HO_387002 BK378 BK386 HB; have HO_387002 := n0_; have HO389 := n1_; have BK378 := n2_; have BK386 := n3_; have HB := n4_; clear n0_ n1_ n2_ n3_ n4_ hb ho35
       obtain ⟨Ao36, co36, eo36⟩ := Kd.R_slice HO389.out
       (first | subst eo36 | (injection eo36 with f1_ f2_ f3_; have f4_ := f1_.symm; have f5_ := f3_.symm; clear f1_ f2_ f3_; subst f4_; subst f5_))
       refine hK.out _ _ ⟨bc BK386 0, bc BK386 1, bc BK386 2⟩ (fun hHeld => ?_)
       clear hK K
       refine norm_ (a' := ?_) ?_ ?_
       rotate_left
       ·
        exact pq (d := some 31)
       refine one_ (i := 5) (N := some 34) #[true, true, true, true, true, true, false, false, false, false, false, false, false, false] rfl rfl (one_of HT_.out (by kernel_rfl)) (by decide) (fun K hK => ?_)
       refine goes_ Try.func55 (by kernel_rfl) rfl #[.slice Ao36 y387.length co36, .int .i64 (l1.length : Int)] (by rfl) rfl rfl gq ?_
       with_reducible refine (slices_Repeat_int_int.calls k2 _ _ y387 (l1.length : Int) t390 _ ?side1 ?side2 A23.out).mono ?_
       (case side1 => exact cq (Kd.R_reads' HO389.out).2.2)
       (case side2 => exact (Kd.R_reads' HO389.out).2.1)
       rintro e w37 ⟨v391, rfl, ho0, hb⟩
       refine ⟨_, rfl, ?_⟩
       have n0_ := A_ (Kd.R_elder' (rq HO_387002) (Kd.R_base ho0) hb)
       have n1_ := A_ (Kd.R_elder' (rq HO389) (Kd.R_base ho0) hb)
       have n2_ := A_ (Kd.R_lower (Kd.R_new' ho0 (Kd.R_lt (rq HO389))) (below_size (hq HB)))
       have n3_ := A_ (blk_below (bq BK378) hb)
       have n4_ := A_ (blk_below (bq BK386) hb)
       have n5_ := A_ (below_step (hq HB) hb)
       clear HO_387002 HO389 BK378 BK386 HB; have HO_387002 := n0_; have HO389 := n1_; have HO392 := n2_; have BK378 := n3_; have BK386 := n4_; have HB := n5_; clear n0_ n1_ n2_ n3_ n4_ n5_; (try clear hb); (try clear hb2); (try clear hk); (try clear hi); (try clear ho0)
       obtain ⟨Ao38, co38, eo38⟩ := Kd.R_slice HO392.out
       (first | subst eo38 | (injection eo38 with f1_ f2_ f3_; have f4_ := f1_.symm; have f5_ := f3_.symm; clear f1_ f2_ f3_; subst f4_; subst f5_))
       refine hK.out _ _ ⟨bc BK386 0, bc BK386 1, bc BK386 2⟩ (fun hHeld => ?_)
       clear hK K
       refine norm_ (a' := ?_) ?_ ?_
       rotate_left
       ·
        exact pq (d := some 34)
       refine one_ (i := 6) (N := some 35) #[true, true, true, true, true, true, true, false, false, false, false, false, false, false] rfl rfl (one_of HT_.out (by kernel_rfl)) (by decide) (fun K hK => ?_)
       refine goes_ Try.func33 (by kernel_rfl) rfl #[.agg #[.int .i64 t381, .bool t382, .slice Ao22 t383.length co22], .slice Ao38 t390.length co38] (by rfl) rfl rfl gq ?_
       with_reducible refine (impl_runs_firstOrder.calls k2 t381 t382 _ _ t383 _ _ t390 t393 t394 false _ ?side1 ?side2 ?side3 ?side4 A24.out).mono ?_
       (case side1 => exact cq (Kd.R_reads' HO_387002.out).2.2)
       (case side2 => exact (Kd.R_reads' HO_387002.out).2.1)
       (case side3 => exact cq (Kd.R_reads' HO392.out).2.2)
       (case side4 => exact (Kd.R_reads' HO392.out).2.1)
       rintro e w39 ⟨v395, rfl, ho0, hb⟩
       refine ⟨_, rfl, ?_⟩
       have n0_ := A_ (Kd.R_elder' (rq HO_387002) (Kd.R_base ho0) hb)
       have n1_ := A_ (Kd.R_elder' (rq HO389) (Kd.R_base ho0) hb)
       have n2_ := A_ (Kd.R_elder' (rq HO392) (Kd.R_base ho0) hb)
       have n3_ := A_ (Kd.R_lower (Kd.R_new' (Kd.R_new' ho0 (Kd.R_lt (rq HO389))) (Kd.R_lt (rq HO392))) (below_size (hq HB)))
       have n4_ := A_ (blk_below (bq BK378) hb)
       have n5_ := A_ (blk_below (bq BK386) hb)
       have n6_ := A_ (below_step (hq HB) hb)
       clear HO_387002 HO389 HO392 BK378 BK386 HB; have HO_387002 := n0_; have HO389 := n1_; have HO392 := n2_; have HO396 := n3_; have BK378 := n4_; have BK386 := n5_; have HB := n6_; clear n0_ n1_ n2_ n3_ n4_ n5_ n6_; (try clear hb); (try clear hb2); (try clear hk); (try clear hi); (try clear ho0)
       refine hK.out _ _ ⟨bc BK386 0, bc BK386 1, bc BK386 2⟩ (fun hHeld => ?_)
       clear hK K
       refine norm_ (a' := ?_) ?_ ?_
       rotate_left
       ·
        exact pq (d := some 35)
       refine pure_ (i := 7) (N := some 28) (v := ?_) (a' := ?_) #[true, true, true, true, true, true, true, true, false, false, false, false, false, false] rfl rfl (any_of HT_.out (by kernel_rfl)) (fun _ _ _ h => h) (Or.inl ⟨by rfl, ?_⟩) ?_ ?_
       rotate_left
       ·
        intro w'
        go_simp
        with_reducible rfl
       rotate_left
       ·
        simp only [Act.put, List.setIfInBounds_toArray, List.set_cons_zero, List.set_cons_succ, i64_w, i32_w]
        rfl
       refine pure_ (i := 8) (N := some 36) (v := ?_) (a' := ?_) #[true, true, true, true, true, true, true, true, true, false, false, false, false, false] rfl rfl (any_of HT_.out (by kernel_rfl)) (fun _ _ _ h => h) (Or.inl ⟨by rfl, ?_⟩) ?_ ?_
       rotate_left
       ·
        intro w'
        go_simp
        with_reducible rfl
       rotate_left
       ·
        simp only [Act.put, List.setIfInBounds_toArray, List.set_cons_zero, List.set_cons_succ, i64_w, i32_w]
        rfl
       refine pure_ (i := 9) (N := some 37) (v := ?_) (a' := ?_) #[true, true, true, true, true, true, true, true, true, true, false, false, false, false] rfl rfl (any_of HT_.out (by kernel_rfl)) (fun _ _ _ h => h) (Or.inl ⟨by rfl, ?_⟩) ?_ ?_
       rotate_left
       ·
        intro w'
        go_simp
        with_reducible rfl
       rotate_left
       ·
        simp only [Act.put, List.setIfInBounds_toArray, List.set_cons_zero, List.set_cons_succ, i64_w, i32_w]
        rfl
       refine pure_ (i := 10) (N := some 38) (v := ?_) (a' := ?_) #[true, true, true, true, true, true, true, true, true, true, true, false, false, false] rfl rfl (any_of HT_.out (by kernel_rfl)) (fun _ _ _ h => h) (Or.inl ⟨by rfl, ?_⟩) ?_ ?_
       rotate_left
       ·
        intro w'
        go_simp
        with_reducible rfl
       rotate_left
       ·
        simp only [Act.put, List.setIfInBounds_toArray, List.set_cons_zero, List.set_cons_succ, i64_w, i32_w]
        rfl
       refine pure_ (i := 11) (N := some 10) (v := ?_) (a' := ?_) #[true, true, true, true, true, true, true, true, true, true, true, true, false, false] rfl rfl (any_of HT_.out (by kernel_rfl)) (fun _ _ _ h => h) (Or.inl ⟨by rfl, ?_⟩) ?_ ?_
       rotate_left
       ·
        intro w'
        go_simp
        with_reducible rfl
       rotate_left
       ·
        simp only [Act.put, List.setIfInBounds_toArray, List.set_cons_zero, List.set_cons_succ, i64_w, i32_w]
        rfl
       refine pure_ (i := 12) (N := some 11) (v := ?_) (a' := ?_) #[true, true, true, true, true, true, true, true, true, true, true, true, true, false] rfl rfl (any_of HT_.out (by kernel_rfl)) (fun _ _ _ h => h) (Or.inl ⟨by rfl, ?_⟩) ?_ ?_
       rotate_left
       ·
        intro w'
        go_simp
        with_reducible rfl
       rotate_left
       ·
        simp only [Act.put, List.setIfInBounds_toArray, List.set_cons_zero, List.set_cons_succ, i64_w, i32_w]
        rfl
       refine pure_ (i := 13) (N := some 12) (v := ?_) (a' := ?_) #[true, true, true, true, true, true, true, true, true, true, true, true, true, true] rfl rfl (any_of HT_.out (by kernel_rfl)) (fun _ _ _ h => h) (Or.inl ⟨by rfl, ?_⟩) ?_ ?_
       rotate_left
       ·
        intro w'
        go_simp
        with_reducible rfl
       rotate_left
       ·
        simp only [Act.put, List.setIfInBounds_toArray, List.set_cons_zero, List.set_cons_succ, i64_w, i32_w]
        rfl
       refine done_ (done_of HT_.out (by kernel_rfl)) ?_
       try go_wp2
       go_roundg k2
       case measure => have := HJ3.out; have := HK2.out; omega
       case rel => exact ⟨(wrap64 (x9_2 + 1)), (by first | rfl | (simp; done) | (simp [*]; done)), H', ⟨by have := HJ3.out; have := HK2.out; omega⟩, ⟨by (with_reducible repeat (first | apply Kd.R_alloc | apply Kd.R_drewN | apply Kd.R_drew)); exact Kd.R_mono HO_387002.out (fun _ hk => trivial)⟩, ⟨bq BK378⟩, ⟨bq BK386⟩, ⟨hq HB⟩⟩

/-! ### impl_ReturnTime: function 19 -/
def impl_ReturnTime.f (k : Nat) (a0_0 : Int) (a0_1 : Bool) (l1 : List Int) : Option (Int × Bool) := (impl_leastBudget.f k a0_0 a0_1 l1 true).bind fun bt399 => (some (bt399.1, bt399.2))
theorem impl_ReturnTime.mono : ∀ a0 a1 a2 k, LeO (impl_ReturnTime.f k a0 a1 a2) (impl_ReturnTime.f (k + 1) a0 a1 a2) := by
  intro a0 a1 a2 k
  unfold impl_ReturnTime.f
  repeat' first
      | (with_reducible exact impl_leastBudget.mono _ _ _ _ _)
      | (with_reducible exact LeO.refl _)
      | (with_reducible exact LeO.none _)
      | (with_reducible refine LeO.ite ?_ ?_)
      | (with_reducible refine LeO.bind ?_ (fun _ => ?_))
      | exact impl_leastBudget.mono _ _ _ _ _
      | exact LeO.none _
      | refine LeO.ite ?_ ?_
      | refine LeO.bind ?_ (fun _ => ?_)
set_option maxHeartbeats 8000000 in
set_option maxRecDepth 100000 in
theorem impl_ReturnTime.calls (k : Nat) (a0_0 : Int) (a0_1 : Bool) (A1 : Option Addr) (c1 : Nat) (l1 : List Int) (r1 : Int) (r2 : Bool) (w : World) (hr1 : Kd.C (Kd.int .i64) w A1 l1.length l1) (hc1 : l1.length ≤ c1) (h : impl_ReturnTime.f k a0_0 a0_1 l1 = some (r1, r2)) :
    Calls Try.prog 19 #[.agg #[.int .i64 a0_0, .bool a0_1], .slice A1 l1.length c1] w fun e w' => e = .returned (.tuple #[.int .i64 r1, .bool r2]) ∧ Below w.heap.size w w' := by
 have hu27 := Try.underlying27
 have HR1 := A_ hr1
 have HC1 := A_ hc1
 clear hr1 hc1
 have HB := A_ (Below.refl w.heap.size w)
 have H : ((impl_leastBudget.f k a0_0 a0_1 l1 true).bind fun bt399 => (some (bt399.1, bt399.2))) = some (r1, r2) := h
 clear h
 replace H := Option.bind_eq_some_iff.mp H
 obtain ⟨⟨t399, t400⟩, A30, H⟩ := H
 replace H : (some (t399, t400)) = some (r1, r2) := H
 have A3 := A_ A30
 clear A30
 simp only [Option.some.injEq, Prod.mk.injEq] at H
 obtain ⟨rfl, rfl⟩ := H
 go_enter Try.func19, Try.ntmps19
 go_wp2_with (first | ((with_reducible refine gate_dst (N := 2) rfl ?_); refine box_event ?hg (N := 2) ?hd (cs := #[.int .i64 a0_0, .bool a0_1]) (t := 27) ?hr ?_; (case hd => rfl); (case hg => rfl); (case hr => first | (go_simp; done) | (go_simp; rfl)); intro gb398 hg w4 hbox hb; have n0_ := A_ (below_step (hq HB) hb); have n1_ := A_ (hbox); have n2_ := A_ ((by rw [hg]; exact (below_size (hq HB)) : w.heap.size ≤ gb398)); have n3_ := A_ ((by rw [hg]; exact (below_size (hq HB)) : w.heap.size ≤ gb398)); clear HB; have HB := n0_; have BK398 := n1_; have GW398 := n2_; have GE398 := n3_; clear n0_ n1_ n2_ n3_; clear hb hbox hg; have hcz5_0 : w4.cell? ⟨gb398, 0, none⟩ = some (.int .i64 a0_0) := bc BK398 0; have hcz5_1 : w4.cell? ⟨gb398, 1, none⟩ = some (.bool a0_1) := bc BK398 1; have hfz5_0 := blk_frozen BK398.out 0; have hfz5_1 := blk_frozen BK398.out 1) | ((with_reducible refine gate_callee (f := 36) rfl ?_); refine goesL_ (some 8) rfl rfl Try.func36 (by kernel_rfl) rfl #[.agg #[.int .i64 a0_0, .bool a0_1], .slice A1 l1.length c1, .bool true] rfl gq ?_; (with_reducible refine (impl_leastBudget.calls k a0_0 a0_1 _ _ l1 true t399 t400 _ ?side1 ?side2 A3.out).mono ?_); (case side1 => exact cq (Kd.C_below HR1.out HB.out)); (case side2 => exact HC1.out); rintro e w6 ⟨rfl, hb⟩; refine ⟨_, rfl, ?_⟩; have n0_ := A_ (blk_below (bq BK398) hb); have n1_ := A_ (below_step (hq HB) hb); clear BK398; clear HB; have BK398 := n0_; have HB := n1_; clear n0_ n1_; (try clear hb); (try clear hb2); (try clear hk); (try clear hi)))
 go_ret2
 exact ⟨rt, hq HB⟩

end Go.Proofs.Ythnaghigpgfchaa.PFnExactReturnTime
