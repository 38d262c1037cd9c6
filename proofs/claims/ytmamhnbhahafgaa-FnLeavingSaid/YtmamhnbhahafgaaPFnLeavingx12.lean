-- Printed, and told shorter by this session's program shrink.py.
-- Printed by this session's program myprint.py.
import Derived.Test.YtmamhnbhahafgaaPFnLeavingx0
import Derived.Test.YtmamhnbhahafgaaPFnLeavingx1
import Derived.Test.YtmamhnbhahafgaaPFnLeavingx11
namespace Go.Proofs.Ytmamhnbhahafgaa.PFnLeaving
open Go.RowKit Go.Proofs.Ytmamhnbhahafgaa.Own Go.Proofs.YtmamhnbhahafgaaW.PrintWords Go.Proofs.YtmamhnbhahafgaaW.PrintLast Go.Proofs.YtmamhnbhahafgaaW.PrintMore
attribute [local go_sem] max2_int min2_int max_two min_two max_three min_three max_four min_four   -- for this text's walks alone
set_option linter.unusedVariables false
set_option linter.unusedSimpArgs false

/-! ### impl_SplitWalks: function 36 -/
mutual
def impl_SplitWalks.j0 : Nat → Int → Bool → Int → Bool → Option ((List (List Int)) × Bool)
  | 0, _, _, _, _ => none
  | k + 1, x1, x19, x462000, x462001 => if x19 = true then (some (([] : List (List Int)), false)) else (if x462001 = true then (impl_SplitWalks.l0 k x1 (([] : List Int)) (([] : List Int)) (wrap64 ((wrap64 (Int.tdiv x462000 2)) + 1)) 0 x462000 x462001) else ((impl_Road_straight.f k x462000 x462001 (([x1] : List Int)) 0).bind fun t470 => ((impl_Road_straight.f k x462000 x462001 (([x1] : List Int)) (wrap64 (x462000 - 1))).bind fun t476 => (some ((([t470, t476] : List (List Int))), true)))))
def impl_SplitWalks.l0 : Nat → Int → List Int → List Int → Int → Int → Int → Bool → Option ((List (List Int)) × Bool)
  | 0, _, _, _, _, _, _, _ => none
  | k + 1, x1, x6, x7, x40, x41, x462000, x462001 => if x41 < x40 then (if x462000 = 0 then (none) else (if x6.length < 17592186044416 then (impl_SplitWalks.l0 k x1 (x6 ++ [Int.tmod (wrap64 ((wrap64 (x1 - x41)) + x462000)) x462000]) x7 x40 (wrap64 (x41 + 1)) x462000 x462001) else (none))) else (impl_SplitWalks.l1 k x1 x6 x7 (wrap64 ((wrap64 (Int.tdiv (wrap64 (x462000 - 1)) 2)) + 1)) 0 x462000 x462001)
def impl_SplitWalks.l1 : Nat → Int → List Int → List Int → Int → Int → Int → Bool → Option ((List (List Int)) × Bool)
  | 0, _, _, _, _, _, _, _ => none
  | k + 1, x1, x6, x7, x61, x62, x462000, x462001 => if x62 < x61 then (if x462000 = 0 then (none) else (if x7.length < 17592186044416 then (impl_SplitWalks.l1 k x1 x6 (x7 ++ [Int.tmod (wrap64 (x1 + x62)) x462000]) x61 (wrap64 (x62 + 1)) x462000 x462001) else (none))) else (some ((([x6, x7] : List (List Int))), true))
end
def impl_SplitWalks.f (k : Nat) (a0_0 : Int) (a0_1 : Bool) (a1 : Int) : Option ((List (List Int)) × Bool) := (impl_IsRoad.f a0_0 a0_1).bind fun t462 => (if t462 = true then ((impl_Road_has.f k a0_0 a0_1 (([a1] : List Int))).bind fun t466 => (impl_SplitWalks.j0 k a1 (!t466) a0_0 a0_1)) else (impl_SplitWalks.j0 k a1 true a0_0 a0_1))
theorem impl_SplitWalks.mono_l : ∀ k, (∀ y0 y1 y2 y3, LeO (impl_SplitWalks.j0 k y0 y1 y2 y3) (impl_SplitWalks.j0 (k + 1) y0 y1 y2 y3)) ∧ (∀ y0 y1 y2 y3 y4 y5 y6, LeO (impl_SplitWalks.l0 k y0 y1 y2 y3 y4 y5 y6) (impl_SplitWalks.l0 (k + 1) y0 y1 y2 y3 y4 y5 y6)) ∧ (∀ y0 y1 y2 y3 y4 y5 y6, LeO (impl_SplitWalks.l1 k y0 y1 y2 y3 y4 y5 y6) (impl_SplitWalks.l1 (k + 1) y0 y1 y2 y3 y4 y5 y6))
  | 0 => ⟨fun _ _ _ _ r h => by simp [impl_SplitWalks.j0] at h, fun _ _ _ _ _ _ _ r h => by simp [impl_SplitWalks.l0] at h, fun _ _ _ _ _ _ _ r h => by simp [impl_SplitWalks.l1] at h⟩
  | k + 1 => by
    obtain ⟨ih0, ih1, ih2⟩ := impl_SplitWalks.mono_l k
    refine ⟨?_, ?_, ?_⟩
    · intro y0 y1 y2 y3
      unfold impl_SplitWalks.j0
      repeat' first
      | (with_reducible exact ih0 _ _ _ _)
      | (with_reducible exact ih1 _ _ _ _ _ _ _)
      | (with_reducible exact ih2 _ _ _ _ _ _ _)
      | (with_reducible exact impl_Road_has.mono _ _ _ _)
      | (with_reducible exact impl_Road_straight.mono _ _ _ _ _)
      | (with_reducible exact LeO.refl _)
      | (with_reducible exact LeO.none _)
      | (with_reducible refine LeO.ite ?_ ?_)
      | (with_reducible refine LeO.bind ?_ (fun _ => ?_))
      | exact ih0 _ _ _ _
      | exact ih1 _ _ _ _ _ _ _
      | exact ih2 _ _ _ _ _ _ _
      | exact impl_Road_has.mono _ _ _ _
      | exact impl_Road_straight.mono _ _ _ _ _
      | exact LeO.none _
      | refine LeO.ite ?_ ?_
      | refine LeO.bind ?_ (fun _ => ?_)
    · intro y0 y1 y2 y3 y4 y5 y6
      unfold impl_SplitWalks.l0
      repeat' first
      | (with_reducible exact ih0 _ _ _ _)
      | (with_reducible exact ih1 _ _ _ _ _ _ _)
      | (with_reducible exact ih2 _ _ _ _ _ _ _)
      | (with_reducible exact impl_Road_has.mono _ _ _ _)
      | (with_reducible exact impl_Road_straight.mono _ _ _ _ _)
      | (with_reducible exact LeO.refl _)
      | (with_reducible exact LeO.none _)
      | (with_reducible refine LeO.ite ?_ ?_)
      | (with_reducible refine LeO.bind ?_ (fun _ => ?_))
      | exact ih0 _ _ _ _
      | exact ih1 _ _ _ _ _ _ _
      | exact ih2 _ _ _ _ _ _ _
      | exact impl_Road_has.mono _ _ _ _
      | exact impl_Road_straight.mono _ _ _ _ _
      | exact LeO.none _
      | refine LeO.ite ?_ ?_
      | refine LeO.bind ?_ (fun _ => ?_)
    · intro y0 y1 y2 y3 y4 y5 y6
      unfold impl_SplitWalks.l1
      repeat' first
      | (with_reducible exact ih0 _ _ _ _)
      | (with_reducible exact ih1 _ _ _ _ _ _ _)
      | (with_reducible exact ih2 _ _ _ _ _ _ _)
      | (with_reducible exact impl_Road_has.mono _ _ _ _)
      | (with_reducible exact impl_Road_straight.mono _ _ _ _ _)
      | (with_reducible exact LeO.refl _)
      | (with_reducible exact LeO.none _)
      | (with_reducible refine LeO.ite ?_ ?_)
      | (with_reducible refine LeO.bind ?_ (fun _ => ?_))
      | exact ih0 _ _ _ _
      | exact ih1 _ _ _ _ _ _ _
      | exact ih2 _ _ _ _ _ _ _
      | exact impl_Road_has.mono _ _ _ _
      | exact impl_Road_straight.mono _ _ _ _ _
      | exact LeO.none _
      | refine LeO.ite ?_ ?_
      | refine LeO.bind ?_ (fun _ => ?_)
theorem impl_SplitWalks.mono : ∀ a0 a1 a2 k, LeO (impl_SplitWalks.f k a0 a1 a2) (impl_SplitWalks.f (k + 1) a0 a1 a2) := by
  intro a0 a1 a2 k
  obtain ⟨ih0, ih1, ih2⟩ := impl_SplitWalks.mono_l k
  unfold impl_SplitWalks.f
  repeat' first
      | (with_reducible exact ih0 _ _ _ _)
      | (with_reducible exact ih1 _ _ _ _ _ _ _)
      | (with_reducible exact ih2 _ _ _ _ _ _ _)
      | (with_reducible exact impl_Road_has.mono _ _ _ _)
      | (with_reducible exact impl_Road_straight.mono _ _ _ _ _)
      | (with_reducible exact LeO.refl _)
      | (with_reducible exact LeO.none _)
      | (with_reducible refine LeO.ite ?_ ?_)
      | (with_reducible refine LeO.bind ?_ (fun _ => ?_))
      | exact ih0 _ _ _ _
      | exact ih1 _ _ _ _ _ _ _
      | exact ih2 _ _ _ _ _ _ _
      | exact impl_Road_has.mono _ _ _ _
      | exact impl_Road_straight.mono _ _ _ _ _
      | exact LeO.none _
      | refine LeO.ite ?_ ?_
      | refine LeO.bind ?_ (fun _ => ?_)
def impl_SplitWalks.T4 : Bool × List (List Nat × List Nat) := (true, [([], []), ([], []), ([1], [1]), ([0, 2], [0, 2]), ([], []), ([], []), ([5], [5]), ([], []), ([7], [7]), ([8], [8]), ([4, 6, 9, 3], [4, 6, 9]), ([3, 10], [3, 10]), ([11, 10, 0, 1, 2, 3, 4, 5, 6, 7, 8, 9, 10, 11], [11]), ([12, 0, 1, 2, 3, 4, 5, 6, 7, 8, 9, 10, 11, 12], [])])
def impl_SplitWalks.B4 : List Nat := [0, 0, 2, 7, 0, 0, 32, 0, 128, 384, 1023, 2047, 4095, 8191]
theorem impl_SplitWalks.tab4 : rtab .any (opsOf Try.f36 4) = impl_SplitWalks.T4 := by kernel_rfl
theorem impl_SplitWalks.bits4 : waitsOk impl_SplitWalks.T4.2 impl_SplitWalks.B4 = true := by kernel_rfl
set_option maxHeartbeats 8000000 in
set_option maxRecDepth 100000 in
theorem impl_SplitWalks.calls (k : Nat) (a0_0 : Int) (a0_1 : Bool) (a1 : Int) (r1 : List (List Int)) (r2 : Bool) (w : World) (h : impl_SplitWalks.f k a0_0 a0_1 a1 = some (r1, r2)) :
    Calls Try.prog 36 #[.agg #[.int .i64 a0_0, .bool a0_1], .int .i64 a1] w fun e w' => ∃ v0_ : Value, e = .returned (.tuple #[v0_, .bool r2]) ∧ Kd.S (Kd.slice 3 (Kd.int .i64)) 26 w' w.heap.size (fun _ => True) v0_ r1 ∧ Below w.heap.size w w' := by
 have hu25 := Try.underlying25
 have HB := A_ (Below.refl w.heap.size w)
 have H : ((impl_IsRoad.f a0_0 a0_1).bind fun t462 => (if t462 = true then ((impl_Road_has.f k a0_0 a0_1 (([a1] : List Int))).bind fun t466 => (impl_SplitWalks.j0 k a1 (!t466) a0_0 a0_1)) else (impl_SplitWalks.j0 k a1 true a0_0 a0_1))) = some (r1, r2) := h
 clear h
 have HC3 := A_ H
 clear H
 go_enter Try.func36, Try.ntmps36
 go_upto_region 1 with (first | ((with_reducible refine gate_dst (N := 2) rfl ?_); (try (refine gate_guard (by rfl) ?_; dsimp only)); refine box_event ?hg (N := 2) ?hd (cs := #[.int .i64 a0_0, .bool a0_1]) (t := 25) ?hr ?_; (case hd => rfl); (case hg => rfl); (case hr => first | (go_simp; done) | (go_simp; rfl)); intro gb461 hg w4 hbox hb; have n0_ := A_ (below_step (hq HB) hb); have n1_ := A_ (hbox); have n2_ := A_ ((by rw [hg]; exact (below_size (hq HB)) : w.heap.size ≤ gb461)); have n3_ := A_ ((by rw [hg]; exact (below_size (hq HB)) : w.heap.size ≤ gb461)); clear HB; have HB := n0_; have BK461 := n1_; have GW461 := n2_; have GE461 := n3_; clear n0_ n1_ n2_ n3_; clear hb hbox hg))
 (try simp only [Act.put, List.setIfInBounds_toArray, List.set_cons_zero, List.set_cons_succ])
 go_cut [19] (fun v19 wc => ∃ (kq : Nat) (x19_2 : Bool), v19 = .bool x19_2 ∧ Aside0 (impl_SplitWalks.j0 kq a1 x19_2 a0_0 a0_1 = some (r1, r2)) ∧ Aside0 (kq ≤ k) ∧ Aside0 (wc.heap[gb461]? = some (.cells #[.int .i64 a0_0, .bool a0_1] 25 (0, 0))) ∧ Aside0 (Below w.heap.size w wc))
 case first =>
  have H := HC3.out
  clear HC3
  replace H := Option.bind_eq_some_iff.mp H
  obtain ⟨t462, A50, H⟩ := H
  replace H : (if t462 = true then ((impl_Road_has.f k a0_0 a0_1 (([a1] : List Int))).bind fun t466 => (impl_SplitWalks.j0 k a1 (!t466) a0_0 a0_1)) else (impl_SplitWalks.j0 k a1 true a0_0 a0_1)) = some (r1, r2) := H
  have A5 := A_ A50
  clear A50
  by_cases c6 : t462 = true
  ·
   subst c6
   have H1 : ((impl_Road_has.f k a0_0 a0_1 (([a1] : List Int))).bind fun t466 => (impl_SplitWalks.j0 k a1 (!t466) a0_0 a0_1)) = some (r1, r2) := by rw [if_pos rfl] at H; exact H
   clear H
   have H := H1
   clear H1
   obtain ⟨y463, hy463⟩ : ∃ y_ : List Int, y_ = (([a1] : List Int)) := ⟨_, rfl⟩
   replace H : ((impl_Road_has.f k a0_0 a0_1 y463).bind fun t466 => (impl_SplitWalks.j0 k a1 (!t466) a0_0 a0_1)) = some (r1, r2) := by first | (rw [hy463]; with_reducible exact H) | (have H2_ := (Option.bind_some _ _).symm.trans H; rw [hy463]; with_reducible exact H2_) | (have H2_ := (Option.bind_some _ _).symm.trans H; with_reducible exact H2_) | with_reducible exact H | (rw [hy463]; exact H) | exact H
   have Ny463 := A_ hy463
   clear hy463
   replace H := Option.bind_eq_some_iff.mp H
   obtain ⟨t466, A70, H⟩ := H
   replace H : (impl_SplitWalks.j0 k a1 (!t466) a0_0 a0_1) = some (r1, r2) := H
   have A7 := A_ A70
   clear A70
   have H' := A_ H
   clear H
   have hcz8_0 : w4.cell? ⟨gb461, 0, none⟩ = some (.int .i64 a0_0) := bc BK461 0
   have hcz8_1 : w4.cell? ⟨gb461, 1, none⟩ = some (.bool a0_1) := bc BK461 1
   have hfz8_0 := blk_frozen BK461.out 0
   have hfz8_1 := blk_frozen BK461.out 1
   go_wp2_with (first | ((with_reducible refine gate_callee (f := 54) rfl ?_); refine goesL_ (some 11) rfl rfl Try.func54 (by kernel_rfl) rfl #[.agg #[.int .i64 a0_0, .bool a0_1]] rfl gq ?_; (with_reducible refine (impl_IsRoad.calls a0_0 a0_1 true _ A5.out).mono ?_); rintro e w9 ⟨rfl, hb⟩; refine ⟨_, rfl, ?_⟩; have n0_ := A_ (blk_below (bq BK461) hb); have n1_ := A_ (below_step (hq HB) hb); clear BK461; clear HB; have BK461 := n0_; have HB := n1_; clear n0_ n1_; (try clear hb); (try clear hb2); (try clear hk); (try clear hi); have hcz10_0 : w9.cell? ⟨gb461, 0, none⟩ = some (.int .i64 a0_0) := bc BK461 0; have hcz10_1 : w9.cell? ⟨gb461, 1, none⟩ = some (.bool a0_1) := bc BK461 1; have hfz10_0 := blk_frozen BK461.out 0; have hfz10_1 := blk_frozen BK461.out 1) | ((with_reducible refine gate_dst (N := 16) rfl ?_); (try (refine gate_guard (by rfl) ?_; dsimp only)); refine Kd.R_lit (Kd.int .i64) _ 3 ?hg (N := 16) ?hd (xs := ([a1] : List Int)) (inner := [.int .i64 a1]) (ok := fun _ => True) (okp := fun _ => True) ?hr ?hp (fun _ hk => hk) trivial (Below.refl _ _) (Nat.le_refl _) (by simp) ?_; (case hd => rfl); (case hg => rfl); (case hr => first | (go_simp; done) | (go_simp; rfl)); (case hp => exact (Reps.one (show Kd.M (Kd.int .i64) _ _ _ a1 [.int .i64 a1] from rfl) (Reps.none _ _))); intro v464 w11 ho12 hb hg_ hnew_; clear hg_ hnew_; (first | rw [← Ny463.out] at ho12 | (simp only [Int.reduceToNat] at ho12; rw [← Ny463.out] at ho12)); have n0_ := A_ (Kd.R_lower ho12 (below_size (hq HB))); have n1_ := A_ (blk_below (bq BK461) hb); have n2_ := A_ (below_step (hq HB) hb); clear BK461; clear HB; have HO465 := n0_; have BK461 := n1_; have HB := n2_; clear n0_ n1_ n2_; clear hb ho12; obtain ⟨Ao13, co13, eo13⟩ := Kd.R_slice HO465.out; subst eo13) | (go_at_call 73; (with_reducible refine (impl_Road_has.calls k a0_0 a0_1 _ _ y463 t466 _ ?side1 ?side2 A7.out).mono ?_); (case side1 => exact cq (Kd.R_reads' HO465.out).2.2); (case side2 => exact (Kd.R_reads' HO465.out).2.1); rintro e w14 ⟨rfl, hb⟩; have n0_ := A_ (Kd.R_below (rq HO465) hb); have n1_ := A_ (blk_below (bq BK461) hb); have n2_ := A_ (below_step (hq HB) hb); clear HO465; clear BK461; clear HB; have HO465 := n0_; have BK461 := n1_; have HB := n2_; clear n0_ n1_ n2_; (try clear hb); (try clear hb2); (try clear hk); (try clear hi)))
   go_meet
   case rel => exact ⟨_, (!t466), (by first | rfl | (simp; done) | (simp [*]; done)), H', ⟨by first | omega | exact Nat.le_refl _⟩, ⟨bq BK461⟩, ⟨hq HB⟩⟩
  ·
   replace c6 := Bool.eq_false_iff.mpr c6
   subst c6
   have H1 : (impl_SplitWalks.j0 k a1 true a0_0 a0_1) = some (r1, r2) := by rw [if_neg (show ¬ (false = true) by decide)] at H; exact H
   clear H
   have H := H1
   clear H1
   have H' := A_ H
   clear H
   have hcz15_0 : w4.cell? ⟨gb461, 0, none⟩ = some (.int .i64 a0_0) := bc BK461 0
   have hcz15_1 : w4.cell? ⟨gb461, 1, none⟩ = some (.bool a0_1) := bc BK461 1
   have hfz15_0 := blk_frozen BK461.out 0
   have hfz15_1 := blk_frozen BK461.out 1
   go_wp2_with (first | ((with_reducible refine gate_callee (f := 54) rfl ?_); refine goesL_ (some 11) rfl rfl Try.func54 (by kernel_rfl) rfl #[.agg #[.int .i64 a0_0, .bool a0_1]] rfl gq ?_; (with_reducible refine (impl_IsRoad.calls a0_0 a0_1 false _ A5.out).mono ?_); rintro e w16 ⟨rfl, hb⟩; refine ⟨_, rfl, ?_⟩; have n0_ := A_ (blk_below (bq BK461) hb); have n1_ := A_ (below_step (hq HB) hb); clear BK461; clear HB; have BK461 := n0_; have HB := n1_; clear n0_ n1_; (try clear hb); (try clear hb2); (try clear hk); (try clear hi)))
   go_meet
   case rel => exact ⟨_, (true), (by first | rfl | (simp; done) | (simp [*]; done)), H', ⟨by first | omega | exact Nat.le_refl _⟩, ⟨bq BK461⟩, ⟨hq HB⟩⟩
 case rest =>
  clear HC3
  try clear p2
  try clear c3
  try clear c5
  try clear c6
  try clear hcz10_0
  try clear hcz10_1
  try clear hcz15_0
  try clear hcz15_1
  try clear hcz8_0
  try clear hcz8_1
  try clear hfz10_0
  try clear hfz10_1
  try clear hfz15_0
  try clear hfz15_1
  try clear hfz8_0
  try clear hfz8_1
  obtain ⟨kq, x19_2, rfl, HA, HJ2, BK461, HB⟩ := hcut
  cases kq with
  | zero => exact absurd HA.out (by simp [impl_SplitWalks.j0])
  | succ kj2 =>
   have H := HA.out
   clear HA
   simp only [impl_SplitWalks.j0] at H
   by_cases c17 : x19_2 = true
   ·
    subst c17
    have H1 : (some (([] : List (List Int)), false)) = some (r1, r2) := by rw [if_pos rfl] at H; exact H
    clear H
    have H := H1
    clear H1
    simp only [Option.some.injEq, Prod.mk.injEq] at H
    obtain ⟨rfl, rfl⟩ := H
    go_wp2
    go_ret2
    exact ⟨_, rt, by first | exact Kd.S_nil _ _ _ _ _ | exact Kd.N_nil _ _ _ _ _ | exact Kd.V_nil _ _ _ _ _ | exact Kd.Q_nil _ _ _ _ _ | exact Kd.R_nil _ _ _ _ _, hq HB⟩
   ·
    replace c17 := Bool.eq_false_iff.mpr c17
    subst c17
    have H1 : (if a0_1 = true then (impl_SplitWalks.l0 kj2 a1 (([] : List Int)) (([] : List Int)) (wrap64 ((wrap64 (Int.tdiv a0_0 2)) + 1)) 0 a0_0 a0_1) else ((impl_Road_straight.f kj2 a0_0 a0_1 (([a1] : List Int)) 0).bind fun t470 => ((impl_Road_straight.f kj2 a0_0 a0_1 (([a1] : List Int)) (wrap64 (a0_0 - 1))).bind fun t476 => (some ((([t470, t476] : List (List Int))), true))))) = some (r1, r2) := by rw [if_neg (show ¬ (false = true) by decide)] at H; exact H
    clear H
    have H := H1
    clear H1
    by_cases c18 : a0_1 = true
    ·
     subst c18
     have H1 : (impl_SplitWalks.l0 kj2 a1 (([] : List Int)) (([] : List Int)) (wrap64 ((wrap64 (Int.tdiv a0_0 2)) + 1)) 0 a0_0 true) = some (r1, r2) := by rw [if_pos rfl] at H; exact H
     clear H
     have H := H1
     clear H1
     obtain ⟨y482, hy482⟩ : ∃ y_ : List Int, y_ = (([] : List Int)) := ⟨_, rfl⟩
     replace H : (impl_SplitWalks.l0 kj2 a1 y482 (([] : List Int)) (wrap64 ((wrap64 (Int.tdiv a0_0 2)) + 1)) 0 a0_0 true) = some (r1, r2) := by first | (rw [hy482]; with_reducible exact H) | (have H2_ := (Option.bind_some _ _).symm.trans H; rw [hy482]; with_reducible exact H2_) | (have H2_ := (Option.bind_some _ _).symm.trans H; with_reducible exact H2_) | with_reducible exact H | (rw [hy482]; exact H) | exact H
     have Ny482 := A_ hy482
     clear hy482
     obtain ⟨y485, hy485⟩ : ∃ y_ : List Int, y_ = (([] : List Int)) := ⟨_, rfl⟩
     replace H : (impl_SplitWalks.l0 kj2 a1 y482 y485 (wrap64 ((wrap64 (Int.tdiv a0_0 2)) + 1)) 0 a0_0 true) = some (r1, r2) := by first | (rw [hy485]; with_reducible exact H) | (have H2_ := (Option.bind_some _ _).symm.trans H; rw [hy485]; with_reducible exact H2_) | (have H2_ := (Option.bind_some _ _).symm.trans H; with_reducible exact H2_) | with_reducible exact H | (rw [hy485]; exact H) | exact H
     have Ny485 := A_ hy485
     clear hy485
     have H' := A_ H
     clear H
     have hcz19_0 : wc.cell? ⟨gb461, 0, none⟩ = some (.int .i64 a0_0) := bc BK461 0
     have hcz19_1 : wc.cell? ⟨gb461, 1, none⟩ = some (.bool true) := bc BK461 1
     have hfz19_0 := blk_frozen BK461.out 0
     have hfz19_1 := blk_frozen BK461.out 1
     go_wp2_with (first | ((with_reducible refine gate_dst (N := 35) rfl ?_); (try (refine gate_guard (by rfl) ?_; dsimp only)); refine Kd.R_lit (Kd.int .i64) _ 3 ?hg (N := 35) ?hd (xs := ([] : List Int)) (inner := []) (ok := fun _ => True) (okp := fun _ => True) ?hr ?hp (fun _ hk => hk) trivial (Below.refl _ _) (Nat.le_refl _) (by simp) ?_; (case hd => rfl); (case hg => rfl); (case hr => first | (go_simp; done) | (go_simp; rfl)); (case hp => exact (Reps.none _ _)); intro v483 w20 ho21 hb hg_ hnew_; clear hg_ hnew_; (first | rw [← Ny482.out] at ho21 | (simp only [Int.reduceToNat] at ho21; rw [← Ny482.out] at ho21)); have n0_ := A_ (Kd.R_lower ho21 (below_size (hq HB))); have n1_ := A_ (blk_below (bq BK461) hb); have n2_ := A_ (below_step (hq HB) hb); clear BK461; clear HB; have HO484 := n0_; have BK461 := n1_; have HB := n2_; clear n0_ n1_ n2_; clear hb ho21) | ((with_reducible refine gate_dst (N := 36) rfl ?_); (try (refine gate_guard (by rfl) ?_; dsimp only)); refine Kd.R_lit (Kd.int .i64) _ 3 ?hg (N := 36) ?hd (xs := ([] : List Int)) (inner := []) (ok := fun _ => True) (okp := fun _ => True) ?hr ?hp (fun _ hk => hk) trivial (Below.refl _ _) (Nat.le_refl _) (by simp) ?_; (case hd => rfl); (case hg => rfl); (case hr => first | (go_simp; done) | (go_simp; rfl)); (case hp => exact (Reps.none _ _)); intro v486 w22 ho23 hb hg_ hnew_; clear hg_ hnew_; (first | rw [← Ny485.out] at ho23 | (simp only [Int.reduceToNat] at ho23; rw [← Ny485.out] at ho23)); have n0_ := A_ (Kd.R_elder' (rq HO484) (Kd.R_base ho23) hb); have n1_ := A_ (Kd.R_lower (Kd.R_new' ho23 (Kd.R_lt (rq HO484))) (below_size (hq HB))); have n2_ := A_ (blk_below (bq BK461) hb); have n3_ := A_ (below_step (hq HB) hb); clear HO484; clear BK461; clear HB; have HO484 := n0_; have HO487 := n1_; have BK461 := n2_; have HB := n3_; clear n0_ n1_ n2_ n3_; clear hb ho23; have hcz24_0 : w22.cell? ⟨gb461, 0, none⟩ = some (.int .i64 a0_0) := bc BK461 0; have hcz24_1 : w22.cell? ⟨gb461, 1, none⟩ = some (.bool true) := bc BK461 1; have hfz24_0 := blk_frozen BK461.out 0; have hfz24_1 := blk_frozen BK461.out 1))
     go_loopg [6, 41] kj2 (fun kq v6 v41 w' => ∃ (x6_2 : List Int) (x41_2 : Int), v41 = .int .i64 x41_2 ∧ Aside0 (impl_SplitWalks.l0 kq a1 x6_2 y485 (wrap64 ((wrap64 (Int.tdiv a0_0 2)) + 1)) x41_2 a0_0 true = some (r1, r2)) ∧ Aside0 (kq ≤ kj2) ∧ Aside0 (Kd.R (Kd.int .i64) 3 w' w.heap.size (fun k_ => some k_ ≠ (v486 : Value).ownBlock) v6 x6_2) ∧ Aside0 (Kd.R (Kd.int .i64) 3 w' w.heap.size (fun k_ => some k_ ≠ (v6 : Value).ownBlock) v486 y485) ∧ Aside0 (w'.heap[gb461]? = some (.cells #[.int .i64 a0_0, .bool true] 25 (0, 0))) ∧ Aside0 (Below w.heap.size w w'))
     case atStart => exact ⟨(y482), (0), (by first | rfl | (simp; done) | (simp [*]; done)), H', ⟨Nat.le_refl _⟩, ⟨by (with_reducible repeat (first | apply Kd.R_alloc | apply Kd.R_drewN | apply Kd.R_drew)); exact Kd.R_mono HO484.out (fun _ hk => hk.2)⟩, ⟨by (with_reducible repeat (first | apply Kd.R_alloc | apply Kd.R_drewN | apply Kd.R_drew)); exact Kd.R_mono HO487.out (fun _ hk => hk.2)⟩, ⟨bq BK461⟩, ⟨hq HB⟩⟩
     case round =>
      clear H'
      try clear c1
      try clear p2
      try clear c3
      try clear c5
      try clear c6
      try clear p6
      try clear c17
      try clear c18
      try clear hcz10_0
      try clear hcz10_1
      try clear hcz15_0
      try clear hcz15_1
      try clear hcz19_0
      try clear hcz19_1
      try clear hcz24_0
      try clear hcz24_1
      try clear hcz8_0
      try clear hcz8_1
      try clear hfz10_0
      try clear hfz10_1
      try clear hfz15_0
      try clear hfz15_1
      try clear hfz19_0
      try clear hfz19_1
      try clear hfz24_0
      try clear hfz24_1
      try clear hfz8_0
      try clear hfz8_1
      try clear p2
      obtain ⟨x6_2, x41_2, rfl, HA, HK2, HO_6, HO_7, BK461, HB⟩ := hrel
      cases gk with
      | zero => exact absurd HA.out (by simp [impl_SplitWalks.l0])
      | succ k2 =>
       have H := HA.out
       clear HA
       simp only [impl_SplitWalks.l0] at H
       by_cases c25 : x41_2 < (wrap64 ((wrap64 (Int.tdiv a0_0 2)) + 1))
       ·
        rw [if_pos c25] at H
        have c25b0 : decide (x41_2 < (wrap64 ((wrap64 (Int.tdiv a0_0 2)) + 1))) = true := decide_eq_true c25
        clear c25
        by_cases c26 : a0_0 = 0
        ·
         rw [if_pos c26] at H
         exact absurd H (by simp)
        ·
         rw [if_neg c26] at H
         have c26b0 : (a0_0 == 0) = false := beq_eq_false_iff_ne.mpr c26
         have c26b1 : (a0_0 != 0) = true := bne_iff_ne.mpr c26
         by_cases c27 : x6_2.length < 17592186044416
         ·
          rw [if_pos c27] at H
          have LMc27 := A_ c27
          clear c27
          obtain ⟨y488, hy488⟩ : ∃ y_ : List Int, y_ = (x6_2 ++ [Int.tmod (wrap64 ((wrap64 (a1 - x41_2)) + a0_0)) a0_0]) := ⟨_, rfl⟩
          replace H : (impl_SplitWalks.l0 k2 a1 y488 y485 (wrap64 ((wrap64 (Int.tdiv a0_0 2)) + 1)) (wrap64 (x41_2 + 1)) a0_0 true) = some (r1, r2) := by first | (rw [hy488]; with_reducible exact H) | (have H2_ := (Option.bind_some _ _).symm.trans H; rw [hy488]; with_reducible exact H2_) | (have H2_ := (Option.bind_some _ _).symm.trans H; with_reducible exact H2_) | with_reducible exact H | (rw [hy488]; exact H) | exact H
          have Ny488 := A_ hy488
          clear hy488
          have H' := A_ H
          clear H
          have hcz28_0 : wr.cell? ⟨gb461, 0, none⟩ = some (.int .i64 a0_0) := bc BK461 0
          have hcz28_1 : wr.cell? ⟨gb461, 1, none⟩ = some (.bool true) := bc BK461 1
          have hfz28_0 := blk_frozen BK461.out 0
          have hfz28_1 := blk_frozen BK461.out 1
          go_wp2_with (first | ((with_reducible refine gate_builtin (b := .append) (xs := #[.tmp 44, .tmp 54]) rfl ?_); (try (refine gate_guard (by rfl) ?_; dsimp only)); at_builtin; refine Kd.R_append (Kd.int .i64) (w0 := w) w.heap.size rfl (.tmp 44) (.tmp 54) 26 3 (.int .i64 0) 8 rfl Try.underlying26 info3 rfl (by decide) (by omega) u6 x6_2 (Int.tmod (wrap64 ((wrap64 (a1 - x41_2)) + a0_0)) a0_0) [.int .i64 (Int.tmod (wrap64 ((wrap64 (a1 - x41_2)) + a0_0)) a0_0)] (fun k_ => some k_ ≠ (v486 : Value).ownBlock) (fun _ => False) rfl rfl ?aP (fun _ hk => hk.elim) ?aF ?aO ?aB ?aS ?aL ?_; (case aP => exact rfl); (case aB => exact (hq HB)); (case aF => exact (fun k_ hk => Kd.fresh' (Kd.R_lt (rq HO_7)) k_ hk)); (case aO => exact (rq HO_6)); (case aS => exact (below_size (hq HB))); (case aL => have := LMc27.out; omega); intro v489 w29 ho hb hg hat; rw [← Ny488.out] at ho; have n0_ := A_ (Kd.R_after (ok := (fun _ => True)) (by (with_reducible repeat (first | apply Kd.R_alloc | apply Kd.R_drewN | apply Kd.R_drew)); exact Kd.R_mono HO_7.out (fun _ hk => ⟨trivial, hk⟩)) hg hat); have n1_ := A_ (blk_grown (g := gb461) (o := .cells #[.int .i64 a0_0, .bool true] 25 (0, 0)) (bq BK461) hg (Kd.R_ne HO_6.out BK461.out (by decide))); have n2_ := A_ (hb); have n3_ := A_ (ho); clear HO_7; clear BK461; clear HB; clear HO_6; have HO_7 := n0_; have BK461 := n1_; have HB := n2_; have HO490 := n3_; clear n0_ n1_ n2_ n3_; clear ho hb hg hat))
          go_roundg k2
          case measure => have := HJ2.out; have := HK2.out; omega
          case rel => exact ⟨(y488), (wrap64 (x41_2 + 1)), (by first | rfl | (simp; done) | (simp [*]; done)), H', ⟨by have := HJ2.out; have := HK2.out; omega⟩, ⟨rq HO490⟩, ⟨by (with_reducible repeat (first | apply Kd.R_alloc | apply Kd.R_drewN | apply Kd.R_drew)); exact Kd.R_mono HO_7.out (fun _ hk => hk.2)⟩, ⟨bq BK461⟩, ⟨hq HB⟩⟩
         ·
          rw [if_neg c27] at H
          exact absurd H (by simp)
       ·
        rw [if_neg c25] at H
        have c25b0 : decide (x41_2 < (wrap64 ((wrap64 (Int.tdiv a0_0 2)) + 1))) = false := decide_eq_false c25
        clear c25
        have H' := A_ H
        clear H
        have hcz30_0 : wr.cell? ⟨gb461, 0, none⟩ = some (.int .i64 a0_0) := bc BK461 0
        have hcz30_1 : wr.cell? ⟨gb461, 1, none⟩ = some (.bool true) := bc BK461 1
        have hfz30_0 := blk_frozen BK461.out 0
        have hfz30_1 := blk_frozen BK461.out 1
        go_wp2
        go_loopg [7, 62] k2 (fun kq v7 v62 w' => ∃ (x7_3 : List Int) (x62_3 : Int), v62 = .int .i64 x62_3 ∧ Aside0 (impl_SplitWalks.l1 kq a1 x6_2 x7_3 (wrap64 ((wrap64 (Int.tdiv (wrap64 (a0_0 - 1)) 2)) + 1)) x62_3 a0_0 true = some (r1, r2)) ∧ Aside0 (kq ≤ k2) ∧ Aside0 (Kd.R (Kd.int .i64) 3 w' w.heap.size (fun k_ => some k_ ≠ (v7 : Value).ownBlock) u6 x6_2) ∧ Aside0 (Kd.R (Kd.int .i64) 3 w' w.heap.size (fun k_ => some k_ ≠ (u6 : Value).ownBlock) v7 x7_3) ∧ Aside0 (w'.heap[gb461]? = some (.cells #[.int .i64 a0_0, .bool true] 25 (0, 0))) ∧ Aside0 (Below w.heap.size w w'))
        case atStart => exact ⟨(y485), (0), (by first | rfl | (simp; done) | (simp [*]; done)), H', ⟨Nat.le_refl _⟩, ⟨rq HO_6⟩, ⟨rq HO_7⟩, ⟨bq BK461⟩, ⟨hq HB⟩⟩
        case round =>
         clear H'
         try clear c1
         try clear c2
         try clear p2
         try clear c3
         try clear c5
         try clear c6
         try clear p6
         try clear c17
         try clear c18
         try clear c25
         try clear c25b0
         try clear c26
         try clear c26b0
         try clear c26b1
         try clear c27
         try clear hcz10_0
         try clear hcz10_1
         try clear hcz15_0
         try clear hcz15_1
         try clear hcz19_0
         try clear hcz19_1
         try clear hcz24_0
         try clear hcz24_1
         try clear hcz28_0
         try clear hcz28_1
         try clear hcz30_0
         try clear hcz30_1
         try clear hcz8_0
         try clear hcz8_1
         try clear hfz10_0
         try clear hfz10_1
         try clear hfz15_0
         try clear hfz15_1
         try clear hfz19_0
         try clear hfz19_1
         try clear hfz24_0
         try clear hfz24_1
         try clear hfz28_0
         try clear hfz28_1
         try clear hfz30_0
         try clear hfz30_1
         try clear hfz8_0
         try clear hfz8_1
         try clear p2
         try clear p6
         obtain ⟨x7_3, x62_3, rfl, HA, HK3, HO_6, HO_7, BK461, HB⟩ := hrel
         cases gk with
         | zero => exact absurd HA.out (by simp [impl_SplitWalks.l1])
         | succ k3 =>
          have H := HA.out
          clear HA
          simp only [impl_SplitWalks.l1] at H
          by_cases c31 : x62_3 < (wrap64 ((wrap64 (Int.tdiv (wrap64 (a0_0 - 1)) 2)) + 1))
          ·
           rw [if_pos c31] at H
           have c31b0 : decide (x62_3 < (wrap64 ((wrap64 (Int.tdiv (wrap64 (a0_0 - 1)) 2)) + 1))) = true := decide_eq_true c31
           clear c31
           by_cases c32 : a0_0 = 0
           ·
            rw [if_pos c32] at H
            exact absurd H (by simp)
           ·
            rw [if_neg c32] at H
            have c32b0 : (a0_0 == 0) = false := beq_eq_false_iff_ne.mpr c32
            have c32b1 : (a0_0 != 0) = true := bne_iff_ne.mpr c32
            by_cases c33 : x7_3.length < 17592186044416
            ·
             rw [if_pos c33] at H
             have LMc33 := A_ c33
             clear c33
             obtain ⟨y491, hy491⟩ : ∃ y_ : List Int, y_ = (x7_3 ++ [Int.tmod (wrap64 (a1 + x62_3)) a0_0]) := ⟨_, rfl⟩
             replace H : (impl_SplitWalks.l1 k3 a1 x6_2 y491 (wrap64 ((wrap64 (Int.tdiv (wrap64 (a0_0 - 1)) 2)) + 1)) (wrap64 (x62_3 + 1)) a0_0 true) = some (r1, r2) := by first | (rw [hy491]; with_reducible exact H) | (have H2_ := (Option.bind_some _ _).symm.trans H; rw [hy491]; with_reducible exact H2_) | (have H2_ := (Option.bind_some _ _).symm.trans H; with_reducible exact H2_) | with_reducible exact H | (rw [hy491]; exact H) | exact H
             have Ny491 := A_ hy491
             clear hy491
             have H' := A_ H
             clear H
             have hcz34_0 : wr.cell? ⟨gb461, 0, none⟩ = some (.int .i64 a0_0) := bc BK461 0
             have hcz34_1 : wr.cell? ⟨gb461, 1, none⟩ = some (.bool true) := bc BK461 1
             have hfz34_0 := blk_frozen BK461.out 0
             have hfz34_1 := blk_frozen BK461.out 1
             go_wp2_with (first | ((with_reducible refine gate_builtin (b := .append) (xs := #[.tmp 65, .tmp 72]) rfl ?_); (try (refine gate_guard (by rfl) ?_; dsimp only)); at_builtin; refine Kd.R_append (Kd.int .i64) (w0 := w) w.heap.size rfl (.tmp 65) (.tmp 72) 26 3 (.int .i64 0) 8 rfl Try.underlying26 info3 rfl (by decide) (by omega) u7 x7_3 (Int.tmod (wrap64 (a1 + x62_3)) a0_0) [.int .i64 (Int.tmod (wrap64 (a1 + x62_3)) a0_0)] (fun k_ => some k_ ≠ (u6 : Value).ownBlock) (fun _ => False) rfl rfl ?aP (fun _ hk => hk.elim) ?aF ?aO ?aB ?aS ?aL ?_; (case aP => exact rfl); (case aB => exact (hq HB)); (case aF => exact (fun k_ hk => Kd.fresh' (Kd.R_lt (rq HO_6)) k_ hk)); (case aO => exact (rq HO_7)); (case aS => exact (below_size (hq HB))); (case aL => have := LMc33.out; omega); intro v492 w35 ho hb hg hat; rw [← Ny491.out] at ho; have n0_ := A_ (Kd.R_after (ok := (fun _ => True)) (by (with_reducible repeat (first | apply Kd.R_alloc | apply Kd.R_drewN | apply Kd.R_drew)); exact Kd.R_mono HO_6.out (fun _ hk => ⟨trivial, hk⟩)) hg hat); have n1_ := A_ (blk_grown (g := gb461) (o := .cells #[.int .i64 a0_0, .bool true] 25 (0, 0)) (bq BK461) hg (Kd.R_ne HO_7.out BK461.out (by decide))); have n2_ := A_ (hb); have n3_ := A_ (ho); clear HO_6; clear BK461; clear HB; clear HO_7; have HO_6 := n0_; have BK461 := n1_; have HB := n2_; have HO493 := n3_; clear n0_ n1_ n2_ n3_; clear ho hb hg hat))
             go_roundg k3
             case measure => have := HJ2.out; have := HK2.out; have := HK3.out; omega
             case rel => exact ⟨(y491), (wrap64 (x62_3 + 1)), (by first | rfl | (simp; done) | (simp [*]; done)), H', ⟨by have := HJ2.out; have := HK2.out; have := HK3.out; omega⟩, ⟨by (with_reducible repeat (first | apply Kd.R_alloc | apply Kd.R_drewN | apply Kd.R_drew)); exact Kd.R_mono HO_6.out (fun _ hk => hk.2)⟩, ⟨rq HO493⟩, ⟨bq BK461⟩, ⟨hq HB⟩⟩
            ·
             rw [if_neg c33] at H
             exact absurd H (by simp)
          ·
           rw [if_neg c31] at H
           have c31b0 : decide (x62_3 < (wrap64 ((wrap64 (Int.tdiv (wrap64 (a0_0 - 1)) 2)) + 1))) = false := decide_eq_false c31
           clear c31
           obtain ⟨y494, hy494⟩ : ∃ y_ : List (List Int), y_ = (([x6_2, x7_3] : List (List Int))) := ⟨_, rfl⟩
           replace H : (some (y494, true)) = some (r1, r2) := by first | (rw [hy494]; with_reducible exact H) | (have H2_ := (Option.bind_some _ _).symm.trans H; rw [hy494]; with_reducible exact H2_) | (have H2_ := (Option.bind_some _ _).symm.trans H; with_reducible exact H2_) | with_reducible exact H | (rw [hy494]; exact H) | exact H
           have Ny494 := A_ hy494
           clear hy494
           simp only [Option.some.injEq, Prod.mk.injEq] at H
           obtain ⟨rfl, rfl⟩ := H
           obtain ⟨Ao38, co38, eo38⟩ := Kd.R_slice HO_6.out
           subst eo38
           obtain ⟨Ao39, co39, eo39⟩ := Kd.R_slice HO_7.out
           subst eo39
           go_wp2_with (first | ((with_reducible refine gate_dst (N := 77) rfl ?_); (try (refine gate_guard (by rfl) ?_; dsimp only)); refine S_lit2 (Kd.int .i64) 3 w.heap.size 26 ?hg (N' := 77) ?hd (x1 := x6_2) (x2 := x7_3) (v1 := (.slice Ao38 x6_2.length co38)) (v2 := (.slice Ao39 x7_3.length co39)) ?hr (Kd.R_mono (Kd.R_tight rfl (rq HO_6)) (fun _ h_ => h_)) (Kd.R_mono (Kd.R_tight rfl (rq HO_7)) (fun _ h_ => h_)) (fun k_ e_ => (HO_7.out.1 k_ e_)) (below_size (hq HB)) ?_; (case hd => rfl); (case hg => rfl); (case hr => first | (go_simp; done) | (go_simp; rfl)); intro v495 w36 ho37 hb hat_; rw [← Ny494.out] at ho37; have n0_ := A_ (blk_below (bq BK461) hb); have n1_ := A_ (below_step (hq HB) hb); have n2_ := A_ (ho37); clear BK461; clear HB; clear HO_6; clear HO_7; have BK461 := n0_; have HB := n1_; have HO496 := n2_; clear n0_ n1_ n2_; clear hb hat_ ho37))
           go_ret2
           exact ⟨_, rt, sq HO496, hq HB⟩
    ·
     replace c18 := Bool.eq_false_iff.mpr c18
     subst c18
     have H1 : ((impl_Road_straight.f kj2 a0_0 false (([a1] : List Int)) 0).bind fun t470 => ((impl_Road_straight.f kj2 a0_0 false (([a1] : List Int)) (wrap64 (a0_0 - 1))).bind fun t476 => (some ((([t470, t476] : List (List Int))), true)))) = some (r1, r2) := by rw [if_neg (show ¬ (false = true) by decide)] at H; exact H
     clear H
     have H := H1
     clear H1
     obtain ⟨y467, hy467⟩ : ∃ y_ : List Int, y_ = (([a1] : List Int)) := ⟨_, rfl⟩
     replace H : ((impl_Road_straight.f kj2 a0_0 false y467 0).bind fun t470 => ((impl_Road_straight.f kj2 a0_0 false (([a1] : List Int)) (wrap64 (a0_0 - 1))).bind fun t476 => (some ((([t470, t476] : List (List Int))), true)))) = some (r1, r2) := by first | (rw [hy467]; with_reducible exact H) | (have H2_ := (Option.bind_some _ _).symm.trans H; rw [hy467]; with_reducible exact H2_) | (have H2_ := (Option.bind_some _ _).symm.trans H; with_reducible exact H2_) | with_reducible exact H | (rw [hy467]; exact H) | exact H
     have Ny467 := A_ hy467
     clear hy467
     replace H := Option.bind_eq_some_iff.mp H
     obtain ⟨t470, A400, H⟩ := H
     replace H : ((impl_Road_straight.f kj2 a0_0 false (([a1] : List Int)) (wrap64 (a0_0 - 1))).bind fun t476 => (some ((([t470, t476] : List (List Int))), true))) = some (r1, r2) := H
     have A40 := A_ A400
     clear A400
     obtain ⟨y473, hy473⟩ : ∃ y_ : List Int, y_ = (([a1] : List Int)) := ⟨_, rfl⟩
     replace H : ((impl_Road_straight.f kj2 a0_0 false y473 (wrap64 (a0_0 - 1))).bind fun t476 => (some ((([t470, t476] : List (List Int))), true))) = some (r1, r2) := by first | (rw [hy473]; with_reducible exact H) | (have H2_ := (Option.bind_some _ _).symm.trans H; rw [hy473]; with_reducible exact H2_) | (have H2_ := (Option.bind_some _ _).symm.trans H; with_reducible exact H2_) | with_reducible exact H | (rw [hy473]; exact H) | exact H
     have Ny473 := A_ hy473
     clear hy473
     replace H := Option.bind_eq_some_iff.mp H
     obtain ⟨t476, A410, H⟩ := H
     replace H : (some ((([t470, t476] : List (List Int))), true)) = some (r1, r2) := H
     have A41 := A_ A410
     clear A410
     obtain ⟨y479, hy479⟩ : ∃ y_ : List (List Int), y_ = (([t470, t476] : List (List Int))) := ⟨_, rfl⟩
     replace H : (some (y479, true)) = some (r1, r2) := by first | (rw [hy479]; with_reducible exact H) | (have H2_ := (Option.bind_some _ _).symm.trans H; rw [hy479]; with_reducible exact H2_) | (have H2_ := (Option.bind_some _ _).symm.trans H; with_reducible exact H2_) | with_reducible exact H | (rw [hy479]; exact H) | exact H
     have Ny479 := A_ hy479
     clear hy479
     simp only [Option.some.injEq, Prod.mk.injEq] at H
     obtain ⟨rfl, rfl⟩ := H
     have hcz42_0 : wc.cell? ⟨gb461, 0, none⟩ = some (.int .i64 a0_0) := bc BK461 0
     have hcz42_1 : wc.cell? ⟨gb461, 1, none⟩ = some (.bool false) := bc BK461 1
     have hfz42_0 := blk_frozen BK461.out 0
     have hfz42_1 := blk_frozen BK461.out 1
     try go_wp2
     have n0_ := A_ (blk_drew BK461.out)
     have n1_ := A_ (below_drew1 HB.out)
     clear BK461 HB; have BK461 := n0_; have HB := n1_; clear n0_ n1_
     refine start_ (n := 14) (S := fun w' => w'.cell? ⟨gb461, 0, none⟩ = some (.int .i64 a0_0) ∧ w'.cell? ⟨gb461, 1, none⟩ = some (.bool false)) (ds := []) #[false, false, false, false, false, false, false, false, false, false, false, false, false, false] (by kernel_rfl) rfl rfl ⟨bc BK461 0, bc BK461 1⟩ (fun hHeld => ?_); refine with_tabW impl_SplitWalks.tab4 impl_SplitWalks.bits4 (fun HT_ HW_ => ?_)
     generalize wc.drew = w43 at BK461 HB hHeld ⊢
     refine pure_ (i := 1) (N := some 24) (v := ?_) (a' := ?_) #[false, true, false, false, false, false, false, false, false, false, false, false, false, false] rfl rfl (any_of HT_.out (by kernel_rfl)) (fun _ _ _ h => h) (Or.inl ⟨by rfl, ?_⟩) ?_ ?_
     rotate_left
     ·
      intro w'
      go_simp
      with_reducible rfl
     rotate_left
     ·
      simp only [Act.put, List.setIfInBounds_toArray, List.set_cons_zero, List.set_cons_succ, i64_w, i32_w]
      rfl
     refine pure_ (i := 5) (N := some 28) (v := ?_) (a' := ?_) #[false, true, false, false, false, true, false, false, false, false, false, false, false, false] rfl rfl (any_of HT_.out (by kernel_rfl)) (fun _ _ _ h => h) (Or.inl ⟨by rfl, ?_⟩) ?_ ?_
     rotate_left
     ·
      intro w'
      go_simp
      with_reducible rfl
     rotate_left
     ·
      simp only [Act.put, List.setIfInBounds_toArray, List.set_cons_zero, List.set_cons_succ, i64_w, i32_w]
      rfl
     refine pure_ (i := 7) (N := some 30) (v := ?_) (a' := ?_) #[false, true, false, false, false, true, false, true, false, false, false, false, false, false] rfl rfl (any_of HT_.out (by kernel_rfl)) (fun _ _ _ h => h) (Or.inl ⟨by rfl, ?_⟩) ?_ ?_
     rotate_left
     ·
      intro w'
      go_simp
      with_reducible rfl
     rotate_left
     ·
      simp only [Act.put, List.setIfInBounds_toArray, List.set_cons_zero, List.set_cons_succ, i64_w, i32_w]
      rfl
     refine take_ (i := 0) (N := some 23) (v := ?_) (a' := ?_) #[true, true, false, false, false, true, false, true, false, false, false, false, false, false] rfl rfl (take_ofW HT_.out HW_.out (by kernel_rfl)) (fun _ _ _ h => h) (Or.inl ⟨by rfl, ?_⟩) hHeld ?_ ?_
     rotate_left
     ·
      rintro w' ⟨s0, s1⟩
      go_simp
      with_reducible rfl
     rotate_left
     ·
      simp only [Act.put, List.setIfInBounds_toArray, List.set_cons_zero, List.set_cons_succ, i64_w, i32_w]
      rfl
     refine take_ (i := 4) (N := some 27) (v := ?_) (a' := ?_) #[true, true, false, false, true, true, false, true, false, false, false, false, false, false] rfl rfl (take_ofW HT_.out HW_.out (by kernel_rfl)) (fun _ _ _ h => h) (Or.inl ⟨by rfl, ?_⟩) hHeld ?_ ?_
     rotate_left
     ·
      rintro w' ⟨s0, s1⟩
      go_simp
      with_reducible rfl
     rotate_left
     ·
      simp only [Act.put, List.setIfInBounds_toArray, List.set_cons_zero, List.set_cons_succ, i64_w, i32_w]
      rfl
     refine take_ (i := 8) (N := some 31) (v := ?_) (a' := ?_) #[true, true, false, false, true, true, false, true, true, false, false, false, false, false] rfl rfl (take_ofW HT_.out HW_.out (by kernel_rfl)) (fun _ _ _ h => h) (Or.inl ⟨by rfl, ?_⟩) hHeld ?_ ?_
     rotate_left
     ·
      rintro w' ⟨s0, s1⟩
      go_simp
      with_reducible rfl
     rotate_left
     ·
      simp only [Act.put, List.setIfInBounds_toArray, List.set_cons_zero, List.set_cons_succ, i64_w, i32_w]
      rfl
     refine pure_ (i := 9) (N := some 32) (v := ?_) (a' := ?_) #[true, true, false, false, true, true, false, true, true, true, false, false, false, false] rfl rfl (any_of HT_.out (by kernel_rfl)) (fun _ _ _ h => h) (Or.inl ⟨by rfl, ?_⟩) ?_ ?_
     rotate_left
     ·
      intro w'
      go_simp
      with_reducible rfl
     rotate_left
     ·
      simp only [Act.put, List.setIfInBounds_toArray, List.set_cons_zero, List.set_cons_succ, i64_w, i32_w]
      rfl
     refine join_ (σ := Value × Value × Value) 4 #[true, true, true, true, true, true, true, true, true, true, false, false, false, false] (fun s_ => [(25, s_.1), (26, s_.2.1), (29, s_.2.2)]) (fun s_ w' => (w'.cell? ⟨gb461, 0, none⟩ = some (.int .i64 a0_0) ∧ w'.cell? ⟨gb461, 1, none⟩ = some (.bool false)) ∧ (Kd.R (Kd.int .i64) 3 w' w.heap.size (fun k_ => some k_ ≠ (s_.2.2 : Value).ownBlock) s_.2.1 t470) ∧ (Kd.R (Kd.int .i64) 3 w' w.heap.size (fun k_ => some k_ ≠ (s_.2.1 : Value).ownBlock) s_.2.2 y473) ∧ (w'.heap[gb461]? = some (.cells #[.int .i64 a0_0, .bool false] 25 (0, 0))) ∧ (Below w.heap.size w w')) ?_ ?_
     rotate_left
     ·
      intro hCont
      refine two_ (i := 2) (j := 6) (Ni := some 25) (Nj := some 29) #[true, true, true, false, true, true, false, true, true, true, false, false, false, false] #[true, true, false, false, true, true, true, true, true, true, false, false, false, false] rfl rfl rfl rfl (two_of HT_.out (by kernel_rfl)) (by decide) (by decide) (fun K hK => ?_) (fun K hK => ?_)
      ·
       refine Kd.R_lit_step (Kd.int .i64) _ 3 ?hg (N := 25) ?hd (xs := ([a1] : List Int)) (inner := [.int .i64 a1]) (ok := fun _ => True) (okp := fun _ => True) ?hr ?hp (fun _ hk => hk) trivial (Below.refl _ _) (Nat.le_refl _) (by simp) ?_; (case hd => rfl); (case hg => rfl); (case hr => first | (go_simp; done) | (go_simp; rfl)); (case hp => exact (Reps.one (show Kd.M (Kd.int .i64) _ _ _ a1 [.int .i64 a1] from rfl) (Reps.none _ _)))
       intro v468 w44 ho45 hb hg_ hnew_
       clear hg_ hnew_
       (first | rw [← Ny467.out] at ho45 | (simp only [Int.reduceToNat] at ho45; rw [← Ny467.out] at ho45))
       have n0_ := A_ (Kd.R_lower ho45 (below_size (hq HB)))
       have n1_ := A_ (blk_below (bq BK461) hb)
       have n2_ := A_ (below_step (hq HB) hb)
       clear BK461 HB; have HO469 := n0_; have BK461 := n1_; have HB := n2_; clear n0_ n1_ n2_ hb ho45
       obtain ⟨Ao46, co46, eo46⟩ := Kd.R_slice HO469.out
       (first | subst eo46 | (injection eo46 with f1_ f2_ f3_; have f4_ := f1_.symm; have f5_ := f3_.symm; clear f1_ f2_ f3_; subst f4_; subst f5_))
       refine hK.out _ _ ⟨bc BK461 0, bc BK461 1⟩ (fun hHeld => ?_)
       clear hK K
       refine norm_ (a' := ?_) ?_ ?_
       rotate_left
       ·
        exact pq (d := some 25)
       refine two_ (i := 3) (j := 6) (Ni := some 26) (Nj := some 29) #[true, true, true, true, true, true, false, true, true, true, false, false, false, false] #[true, true, true, false, true, true, true, true, true, true, false, false, false, false] rfl rfl rfl rfl (two_of HT_.out (by kernel_rfl)) (by decide) (by decide) (fun K hK => ?_) (fun K hK => ?_)
       ·
        refine goes_ Try.func86 (by kernel_rfl) rfl #[.agg #[.int .i64 a0_0, .bool false], .slice Ao46 y467.length co46, .int .i64 0] (by rfl) rfl rfl gq ?_
        with_reducible refine (impl_Road_straight.calls kj2 a0_0 false (fun k_ => some k_ = (.slice Ao46 y467.length co46 : Value).ownBlock) (.slice Ao46 y467.length co46) y467 0 t470 w _ ?side1 ?side2 A40.out).mono ?_
        (case side1 => repeat (first | (with_reducible first | exact HB.out | apply below_alloc | apply pw_below_drewN | apply below_drew1 | refine below_set ?_ GE461.out) | exact HB.out))
        (case side2 => exact Kd.R_tight rfl HO469.out)
        rintro e w47 ⟨v471, rfl, ho0, hb, hkp⟩
        refine ⟨_, rfl, ?_⟩
        have n0_ := A_ (blk_kept (bq BK461) hkp (fun hs_ => (fun e_ => (Kd.R_ne HO469.out BK461.out (by decide)) e_) hs_))
        have n1_ := A_ (Kd.R_mono (ok' := fun k_ => True) ho0 (fun k_ hk_ => trivial))
        have n2_ := A_ (hb)
        clear BK461 HB HO469; have BK461 := n0_; have HO472 := n1_; have HB := n2_; clear n0_ n1_ n2_; (try clear hb); (try clear hkp); (try clear ho0)
        refine hK.out _ _ ⟨bc BK461 0, bc BK461 1⟩ (fun hHeld => ?_)
        clear hK K
        refine norm_ (a' := ?_) ?_ ?_
        rotate_left
        ·
         exact pq (d := some 26)
        refine one_ (i := 6) (N := some 29) #[true, true, true, true, true, true, true, true, true, true, false, false, false, false] rfl rfl (one_of HT_.out (by kernel_rfl)) (by decide) (fun K hK => ?_)
        refine Kd.R_lit_step (Kd.int .i64) _ 3 ?hg (N := 29) ?hd (xs := ([a1] : List Int)) (inner := [.int .i64 a1]) (ok := fun _ => True) (okp := fun _ => True) ?hr ?hp (fun _ hk => hk) trivial (Below.refl _ _) (Nat.le_refl _) (by simp) ?_; (case hd => rfl); (case hg => rfl); (case hr => first | (go_simp; done) | (go_simp; rfl)); (case hp => exact (Reps.one (show Kd.M (Kd.int .i64) _ _ _ a1 [.int .i64 a1] from rfl) (Reps.none _ _)))
        intro v474 w48 ho49 hb hg_ hnew_
        clear hg_ hnew_
        (first | rw [← Ny473.out] at ho49 | (simp only [Int.reduceToNat] at ho49; rw [← Ny473.out] at ho49))
        have n0_ := A_ (Kd.R_elder' (rq HO472) (Kd.R_base ho49) hb)
        have n1_ := A_ (Kd.R_lower (Kd.R_new' ho49 (Kd.R_lt (rq HO472))) (below_size (hq HB)))
        have n2_ := A_ (blk_below (bq BK461) hb)
        have n3_ := A_ (below_step (hq HB) hb)
        clear HO472 BK461 HB; have HO472 := n0_; have HO475 := n1_; have BK461 := n2_; have HB := n3_; clear n0_ n1_ n2_ n3_ hb ho49
        refine hK.out _ _ ⟨bc BK461 0, bc BK461 1⟩ (fun hHeld => ?_)
        clear hK K
        refine norm_ (a' := ?_) ?_ ?_
        rotate_left
        ·
         exact pq (d := some 29)
        exact norm_ (by simp only [putAll, Act.put, List.setIfInBounds_toArray, List.set_cons_zero, List.set_cons_succ]) (hCont (.slice Ao46 y467.length co46, v471, v474) _ ⟨hHeld, (by (with_reducible repeat (first | apply Kd.R_alloc | apply Kd.R_drewN | apply Kd.R_drew)); exact Kd.R_mono HO472.out (fun _ hk => hk.2)), (by (with_reducible repeat (first | apply Kd.R_alloc | apply Kd.R_drewN | apply Kd.R_drew)); exact Kd.R_mono HO475.out (fun _ hk => hk.2)), (bq BK461), (hq HB)⟩)
       ·
        refine Kd.R_lit_step (Kd.int .i64) _ 3 ?hg (N := 29) ?hd (xs := ([a1] : List Int)) (inner := [.int .i64 a1]) (ok := fun _ => True) (okp := fun _ => True) ?hr ?hp (fun _ hk => hk) trivial (Below.refl _ _) (Nat.le_refl _) (by simp) ?_; (case hd => rfl); (case hg => rfl); (case hr => first | (go_simp; done) | (go_simp; rfl)); (case hp => exact (Reps.one (show Kd.M (Kd.int .i64) _ _ _ a1 [.int .i64 a1] from rfl) (Reps.none _ _)))
        intro v474 w46 ho47 hb hg_ hnew_
        clear hg_ hnew_
        (first | rw [← Ny473.out] at ho47 | (simp only [Int.reduceToNat] at ho47; rw [← Ny473.out] at ho47))
        have n0_ := A_ (Kd.R_elder' (rq HO469) (Kd.R_base ho47) hb)
        have n1_ := A_ (Kd.R_lower (Kd.R_new' ho47 (Kd.R_lt (rq HO469))) (below_size (hq HB)))
        have n2_ := A_ (blk_below (bq BK461) hb)
        have n3_ := A_ (below_step (hq HB) hb)
        clear HO469 BK461 HB; have HO469 := n0_; have HO475 := n1_; have BK461 := n2_; have HB := n3_; clear n0_ n1_ n2_ n3_ hb ho47
        obtain ⟨Ao48, co48, eo48⟩ := Kd.R_slice HO469.out
        (first | subst eo48 | (injection eo48 with f1_ f2_ f3_; have f4_ := f1_.symm; have f5_ := f3_.symm; clear f1_ f2_ f3_; subst f4_; subst f5_))
        refine hK.out _ _ ⟨bc BK461 0, bc BK461 1⟩ (fun hHeld => ?_)
        clear hK K
        refine norm_ (a' := ?_) ?_ ?_
        rotate_left
        ·
         exact pq (d := some 29)
        refine one_ (i := 3) (N := some 26) #[true, true, true, true, true, true, true, true, true, true, false, false, false, false] rfl rfl (one_of HT_.out (by kernel_rfl)) (by decide) (fun K hK => ?_)
        refine goes_ Try.func86 (by kernel_rfl) rfl #[.agg #[.int .i64 a0_0, .bool false], .slice Ao48 y467.length co48, .int .i64 0] (by rfl) rfl rfl gq ?_
        with_reducible refine (impl_Road_straight.calls kj2 a0_0 false (fun k_ => some k_ = (.slice Ao48 y467.length co48 : Value).ownBlock) (.slice Ao48 y467.length co48) y467 0 t470 w _ ?side1 ?side2 A40.out).mono ?_
        (case side1 => repeat (first | (with_reducible first | exact HB.out | apply below_alloc | apply pw_below_drewN | apply below_drew1 | refine below_set ?_ GE461.out) | exact HB.out))
        (case side2 => exact Kd.R_tight rfl HO469.out)
        rintro e w49 ⟨v471, rfl, ho0, hb, hkp⟩
        refine ⟨_, rfl, ?_⟩
        have n0_ := A_ (blk_kept (bq BK461) hkp (fun hs_ => (fun e_ => (Kd.R_ne HO469.out BK461.out (by decide)) e_) hs_))
        have n1_ := A_ (Kd.R_mono (ok' := fun k_ => some k_ ≠ (v471 : Value).ownBlock) (Kd.R_keptB (HO475.out) hkp (fun k_ hk_ hs_ => (hk_.2) hs_)) (fun k_ hk_ => fun e_ => Or.elim (ho0.1 k_ e_.symm) (fun hs_ => hk_.2.1 hs_) (fun hn_ => Nat.not_le.2 hk_.2.2 hn_)))
        have n2_ := A_ (Kd.R_mono (ok' := fun k_ => some k_ ≠ (v474 : Value).ownBlock) ho0 (fun k_ hk_ => Or.elim hk_ (fun hs_ => fun e_ => (((HO475.out).1 k_ e_.symm).2) hs_) (fun hn_ => (Kd.fresh' (Kd.R_lt (rq HO475)) k_ hn_))))
        have n3_ := A_ (hb)
        clear BK461 HO475 HB HO469; have BK461 := n0_; have HO475 := n1_; have HO472 := n2_; have HB := n3_; clear n0_ n1_ n2_ n3_; (try clear hb); (try clear hkp); (try clear ho0)
        refine hK.out _ _ ⟨bc BK461 0, bc BK461 1⟩ (fun hHeld => ?_)
        clear hK K
        refine norm_ (a' := ?_) ?_ ?_
        rotate_left
        ·
         exact pq (d := some 26)
        exact norm_ (by simp only [putAll, Act.put, List.setIfInBounds_toArray, List.set_cons_zero, List.set_cons_succ]) (hCont (.slice Ao48 y467.length co48, v471, v474) _ ⟨hHeld, (rq HO472), (rq HO475), (bq BK461), (hq HB)⟩)
      ·
       refine Kd.R_lit_step (Kd.int .i64) _ 3 ?hg (N := 29) ?hd (xs := ([a1] : List Int)) (inner := [.int .i64 a1]) (ok := fun _ => True) (okp := fun _ => True) ?hr ?hp (fun _ hk => hk) trivial (Below.refl _ _) (Nat.le_refl _) (by simp) ?_; (case hd => rfl); (case hg => rfl); (case hr => first | (go_simp; done) | (go_simp; rfl)); (case hp => exact (Reps.one (show Kd.M (Kd.int .i64) _ _ _ a1 [.int .i64 a1] from rfl) (Reps.none _ _)))
       intro v474 w44 ho45 hb hg_ hnew_
       clear hg_ hnew_
       (first | rw [← Ny473.out] at ho45 | (simp only [Int.reduceToNat] at ho45; rw [← Ny473.out] at ho45))
       have n0_ := A_ (Kd.R_lower ho45 (below_size (hq HB)))
       have n1_ := A_ (blk_below (bq BK461) hb)
       have n2_ := A_ (below_step (hq HB) hb)
       clear BK461 HB; have HO475 := n0_; have BK461 := n1_; have HB := n2_; clear n0_ n1_ n2_ hb ho45
       refine hK.out _ _ ⟨bc BK461 0, bc BK461 1⟩ (fun hHeld => ?_)
       clear hK K
       refine norm_ (a' := ?_) ?_ ?_
       rotate_left
       ·
        exact pq (d := some 29)
       refine one_ (i := 2) (N := some 25) #[true, true, true, false, true, true, true, true, true, true, false, false, false, false] rfl rfl (one_of HT_.out (by kernel_rfl)) (by decide) (fun K hK => ?_)
       refine Kd.R_lit_step (Kd.int .i64) _ 3 ?hg (N := 25) ?hd (xs := ([a1] : List Int)) (inner := [.int .i64 a1]) (ok := fun _ => True) (okp := fun _ => True) ?hr ?hp (fun _ hk => hk) trivial (Below.refl _ _) (Nat.le_refl _) (by simp) ?_; (case hd => rfl); (case hg => rfl); (case hr => first | (go_simp; done) | (go_simp; rfl)); (case hp => exact (Reps.one (show Kd.M (Kd.int .i64) _ _ _ a1 [.int .i64 a1] from rfl) (Reps.none _ _)))
       intro v468 w46 ho47 hb hg_ hnew_
       clear hg_ hnew_
       (first | rw [← Ny467.out] at ho47 | (simp only [Int.reduceToNat] at ho47; rw [← Ny467.out] at ho47))
       have n0_ := A_ (Kd.R_elder' (rq HO475) (Kd.R_base ho47) hb)
       have n1_ := A_ (Kd.R_lower (Kd.R_new' ho47 (Kd.R_lt (rq HO475))) (below_size (hq HB)))
       have n2_ := A_ (blk_below (bq BK461) hb)
       have n3_ := A_ (below_step (hq HB) hb)
       clear HO475 BK461 HB; have HO475 := n0_; have HO469 := n1_; have BK461 := n2_; have HB := n3_; clear n0_ n1_ n2_ n3_ hb ho47
       obtain ⟨Ao48, co48, eo48⟩ := Kd.R_slice HO469.out
       (first | subst eo48 | (injection eo48 with f1_ f2_ f3_; have f4_ := f1_.symm; have f5_ := f3_.symm; clear f1_ f2_ f3_; subst f4_; subst f5_))
       refine hK.out _ _ ⟨bc BK461 0, bc BK461 1⟩ (fun hHeld => ?_)
       clear hK K
       refine norm_ (a' := ?_) ?_ ?_
       rotate_left
       ·
        exact pq (d := some 25)
       refine one_ (i := 3) (N := some 26) #[true, true, true, true, true, true, true, true, true, true, false, false, false, false] rfl rfl (one_of HT_.out (by kernel_rfl)) (by decide) (fun K hK => ?_)
       refine goes_ Try.func86 (by kernel_rfl) rfl #[.agg #[.int .i64 a0_0, .bool false], .slice Ao48 y467.length co48, .int .i64 0] (by rfl) rfl rfl gq ?_
       with_reducible refine (impl_Road_straight.calls kj2 a0_0 false (fun k_ => some k_ = (.slice Ao48 y467.length co48 : Value).ownBlock) (.slice Ao48 y467.length co48) y467 0 t470 w _ ?side1 ?side2 A40.out).mono ?_
       (case side1 => repeat (first | (with_reducible first | exact HB.out | apply below_alloc | apply pw_below_drewN | apply below_drew1 | refine below_set ?_ GE461.out) | exact HB.out))
       (case side2 => exact Kd.R_tight rfl HO469.out)
       rintro e w49 ⟨v471, rfl, ho0, hb, hkp⟩
       refine ⟨_, rfl, ?_⟩
       have n0_ := A_ (blk_kept (bq BK461) hkp (fun hs_ => (fun e_ => (Kd.R_ne HO469.out BK461.out (by decide)) e_) hs_))
       have n1_ := A_ (Kd.R_mono (ok' := fun k_ => some k_ ≠ (v471 : Value).ownBlock) (Kd.R_keptB (HO475.out) hkp (fun k_ hk_ hs_ => (hk_.2) hs_)) (fun k_ hk_ => fun e_ => Or.elim (ho0.1 k_ e_.symm) (fun hs_ => hk_.2.1 hs_) (fun hn_ => Nat.not_le.2 hk_.2.2 hn_)))
       have n2_ := A_ (Kd.R_mono (ok' := fun k_ => some k_ ≠ (v474 : Value).ownBlock) ho0 (fun k_ hk_ => Or.elim hk_ (fun hs_ => fun e_ => (((HO475.out).1 k_ e_.symm).2) hs_) (fun hn_ => (Kd.fresh' (Kd.R_lt (rq HO475)) k_ hn_))))
       have n3_ := A_ (hb)
       clear BK461 HO475 HB HO469; have BK461 := n0_; have HO475 := n1_; have HO472 := n2_; have HB := n3_; clear n0_ n1_ n2_ n3_; (try clear hb); (try clear hkp); (try clear ho0)
       refine hK.out _ _ ⟨bc BK461 0, bc BK461 1⟩ (fun hHeld => ?_)
       clear hK K
       refine norm_ (a' := ?_) ?_ ?_
       rotate_left
       ·
        exact pq (d := some 26)
       exact norm_ (by simp only [putAll, Act.put, List.setIfInBounds_toArray, List.set_cons_zero, List.set_cons_succ]) (hCont (.slice Ao48 y467.length co48, v471, v474) _ ⟨hHeld, (rq HO472), (rq HO475), (bq BK461), (hq HB)⟩)
     rintro ⟨v468, v471, v474⟩ w50 ⟨hS_, h0_, h1_, h2_, h3_⟩
     have n0_ : Aside0 (Kd.R (Kd.int .i64) 3 w50 w.heap.size (fun k_ => some k_ ≠ (v474 : Value).ownBlock) v471 t470) := ⟨h0_⟩
     have n1_ : Aside0 (Kd.R (Kd.int .i64) 3 w50 w.heap.size (fun k_ => some k_ ≠ (v471 : Value).ownBlock) v474 y473) := ⟨h1_⟩
     have n2_ : Aside0 (w50.heap[gb461]? = some (.cells #[.int .i64 a0_0, .bool false] 25 (0, 0))) := ⟨h2_⟩
     have n3_ : Aside0 (Below w.heap.size w w50) := ⟨h3_⟩
     clear BK461 HB h0_ h1_ h2_ h3_; have HO472 := n0_; have HO475 := n1_; have BK461 := n2_; have HB := n3_; clear n0_ n1_ n2_ n3_
     have hHeld : w50.cell? ⟨gb461, 0, none⟩ = some (.int .i64 a0_0) ∧ w50.cell? ⟨gb461, 1, none⟩ = some (.bool false) := hS_
     obtain ⟨Ao51, co51, eo51⟩ := Kd.R_slice HO475.out
     (first | subst eo51 | (injection eo51 with f1_ f2_ f3_; have f4_ := f1_.symm; have f5_ := f3_.symm; clear f1_ f2_ f3_; subst f4_; subst f5_))
     refine norm_ (a' := ?_) ?_ ?_
     rotate_left
     ·
      simp only [putAll, Act.put, List.setIfInBounds_toArray, List.set_cons_zero, List.set_cons_succ]
      rfl
     refine one_ (i := 10) (N := some 33) #[true, true, true, true, true, true, true, true, true, true, true, false, false, false] rfl rfl (one_of HT_.out (by kernel_rfl)) (by decide) (fun K hK => ?_)
     refine goes_ Try.func86 (by kernel_rfl) rfl #[.agg #[.int .i64 a0_0, .bool false], .slice Ao51 y473.length co51, .int .i64 (wrap64 (a0_0 - 1))] (by rfl) rfl rfl gq ?_
     with_reducible refine (impl_Road_straight.calls kj2 a0_0 false (fun k_ => some k_ = (.slice Ao51 y473.length co51 : Value).ownBlock) (.slice Ao51 y473.length co51) y473 (wrap64 (a0_0 - 1)) t476 w _ ?side1 ?side2 A41.out).mono ?_
     (case side1 => repeat (first | (with_reducible first | exact HB.out | apply below_alloc | apply pw_below_drewN | apply below_drew1 | refine below_set ?_ GE461.out) | exact HB.out))
     (case side2 => exact Kd.R_tight rfl HO475.out)
     rintro e w52 ⟨v477, rfl, ho0, hb, hkp⟩
     refine ⟨_, rfl, ?_⟩
     have n0_ := A_ (blk_kept (bq BK461) hkp (fun hs_ => (fun e_ => (Kd.R_ne HO475.out BK461.out (by decide)) e_) hs_))
     have n1_ := A_ (Kd.R_mono (ok' := fun k_ => some k_ ≠ (v477 : Value).ownBlock) (Kd.R_keptB (HO472.out) hkp (fun k_ hk_ hs_ => (hk_) hs_)) (fun k_ hk_ => fun e_ => Or.elim (ho0.1 k_ e_.symm) (fun hs_ => hk_.2.1 hs_) (fun hn_ => Nat.not_le.2 hk_.2.2 hn_)))
     have n2_ := A_ (Kd.R_mono (ok' := fun k_ => some k_ ≠ (v471 : Value).ownBlock) ho0 (fun k_ hk_ => Or.elim hk_ (fun hs_ => fun e_ => (((HO472.out).1 k_ e_.symm)) hs_) (fun hn_ => (Kd.fresh' (Kd.R_lt (rq HO472)) k_ hn_))))
     have n3_ := A_ (hb)
     clear BK461 HO472 HB HO475; have BK461 := n0_; have HO472 := n1_; have HO478 := n2_; have HB := n3_; clear n0_ n1_ n2_ n3_; (try clear hb); (try clear hkp); (try clear ho0)
     obtain ⟨Ao55, co55, eo55⟩ := Kd.R_slice HO472.out
     (first | subst eo55 | (injection eo55 with f1_ f2_ f3_; have f4_ := f1_.symm; have f5_ := f3_.symm; clear f1_ f2_ f3_; subst f4_; subst f5_))
     obtain ⟨Ao56, co56, eo56⟩ := Kd.R_slice HO478.out
     (first | subst eo56 | (injection eo56 with f1_ f2_ f3_; have f4_ := f1_.symm; have f5_ := f3_.symm; clear f1_ f2_ f3_; subst f4_; subst f5_))
     refine hK.out _ _ ⟨bc BK461 0, bc BK461 1⟩ (fun hHeld => ?_)
     clear hK K
     refine norm_ (a' := ?_) ?_ ?_
     rotate_left
     ·
      exact pq (d := some 33)
     refine one_ (i := 11) (N := some 34) #[true, true, true, true, true, true, true, true, true, true, true, true, false, false] rfl rfl (one_of HT_.out (by kernel_rfl)) (by decide) (fun K hK => ?_)
     refine S_lit2_step (Kd.int .i64) 3 w.heap.size 26 ?hg (N' := 34) ?hd (x1 := t470) (x2 := t476) (v1 := (.slice Ao55 t470.length co55)) (v2 := (.slice Ao56 t476.length co56)) ?hr (Kd.R_mono (Kd.R_tight rfl (rq HO472)) (fun _ h_ => h_)) (Kd.R_mono (Kd.R_tight rfl (rq HO478)) (fun _ h_ => h_)) (fun k_ e_ => (HO478.out.1 k_ e_)) (below_size (hq HB)) ?_; (case hd => rfl); (case hg => rfl); (case hr => first | (go_simp; done) | (go_simp; rfl))
     intro v480 w53 ho54 hb hat_
     rw [← Ny479.out] at ho54
     have n0_ := A_ (blk_below (bq BK461) hb)
     have n1_ := A_ (below_step (hq HB) hb)
     have n2_ := A_ (ho54)
     clear BK461 HB HO472 HO478; have BK461 := n0_; have HB := n1_; have HO481 := n2_; clear n0_ n1_ n2_ hb hat_ ho54
     refine hK.out _ _ ⟨bc BK461 0, bc BK461 1⟩ (fun hHeld => ?_)
     clear hK K
     refine norm_ (a' := ?_) ?_ ?_
     rotate_left
     ·
      exact pq (d := some 34)
     refine pure_ (i := 12) (N := some 4) (v := ?_) (a' := ?_) #[true, true, true, true, true, true, true, true, true, true, true, true, true, false] rfl rfl (any_of HT_.out (by kernel_rfl)) (fun _ _ _ h => h) (Or.inl ⟨by rfl, ?_⟩) ?_ ?_
     rotate_left
     ·
      intro w'
      go_simp
      with_reducible rfl
     rotate_left
     ·
      simp only [Act.put, List.setIfInBounds_toArray, List.set_cons_zero, List.set_cons_succ, i64_w, i32_w]
      rfl
     refine pure_ (i := 13) (N := some 5) (v := ?_) (a' := ?_) #[true, true, true, true, true, true, true, true, true, true, true, true, true, true] rfl rfl (any_of HT_.out (by kernel_rfl)) (fun _ _ _ h => h) (Or.inl ⟨by rfl, ?_⟩) ?_ ?_
     rotate_left
     ·
      intro w'
      go_simp
      with_reducible rfl
     rotate_left
     ·
      simp only [Act.put, List.setIfInBounds_toArray, List.set_cons_zero, List.set_cons_succ, i64_w, i32_w]
      rfl
     refine done_ (done_of HT_.out (by kernel_rfl)) ?_
     try go_wp2
     go_ret2
     exact ⟨_, rt, sq HO481, hq HB⟩

end Go.Proofs.Ytmamhnbhahafgaa.PFnLeaving
