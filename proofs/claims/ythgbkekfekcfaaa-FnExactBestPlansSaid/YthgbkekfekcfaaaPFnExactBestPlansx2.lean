-- Told shorter still by shrink2.py.
-- Printed, and told shorter by this session's program shrink.py.
-- Printed by this session's program myprint.py.
import Derived.Test.YthgbkekfekcfaaaPFnExactBestPlansx0
import Derived.Test.YthgbkekfekcfaaaPFnExactBestPlansx1
namespace Go.Proofs.Ythgbkekfekcfaaa.PFnExactBestPlans
open Go.RowKit Go.Proofs.Ythgbkekfekcfaaa.Own Go.Proofs.YthgbkekfekcfaaaW.PrintWords Go.Proofs.YthgbkekfekcfaaaW.PrintLast Go.Proofs.YthgbkekfekcfaaaW.PrintMore
attribute [local go_sem] max2_int min2_int max_two min_two max_three min_three max_four min_four   -- for this text's walks alone
set_option linter.unusedVariables false
set_option linter.unusedSimpArgs false

/-! ### spec_l4Walk: function 50 -/
def spec_l4Walk.l0 : Nat → Int → List Int → Int → Int → Int → Bool → Int → Int → Int → List Int → Option (List Int)
  | 0, _, _, _, _, _, _, _, _, _, _ => none
  | k + 1, x2, x7, x8, x9, x138000, x138001, x139000, x139001, x139002, x139003 => if x9 < x2 then (if x9 ≥ x139002 then (if (x139003.length : Int) = 0 then (none) else (if 0 ≤ (Int.tmod (wrap64 (x9 - x139002)) (x139003.length : Int)) then (if (Int.tmod (wrap64 (x9 - x139002)) (x139003.length : Int)) < (x139003.length : Int) then (if (rd x139003 (Int.tmod (wrap64 (x9 - x139002)) (x139003.length : Int))) = 0 then (if x7.length < 17592186044416 then (spec_l4Walk.l0 k x2 (x7 ++ [x8]) x8 (wrap64 (x9 + 1)) x138000 x138001 x139000 x139001 x139002 x139003) else (none)) else ((spec_l2Step.f x138000 x138001 x8 (wrap64 ((rd x139003 (Int.tmod (wrap64 (x9 - x139002)) (x139003.length : Int))) * x139001))).bind fun t146 => (if x7.length < 17592186044416 then (spec_l4Walk.l0 k x2 (x7 ++ [t146]) t146 (wrap64 (x9 + 1)) x138000 x138001 x139000 x139001 x139002 x139003) else (none)))) else (none)) else (none))) else (if x7.length < 17592186044416 then (spec_l4Walk.l0 k x2 (x7 ++ [x8]) x8 (wrap64 (x9 + 1)) x138000 x138001 x139000 x139001 x139002 x139003) else (none))) else (some x7)
def spec_l4Walk.f (k : Nat) (a0_0 : Int) (a0_1 : Bool) (a1_0 : Int) (a1_1 : Int) (a1_2 : Int) (l1_3 : List Int) (a2 : Int) : Option (List Int) := spec_l4Walk.l0 k a2 (([a1_0] : List Int)) a1_0 0 a0_0 a0_1 a1_0 a1_1 a1_2 l1_3
theorem spec_l4Walk.mono_l : ∀ k, (∀ y0 y1 y2 y3 y4 y5 y6 y7 y8 y9, LeO (spec_l4Walk.l0 k y0 y1 y2 y3 y4 y5 y6 y7 y8 y9) (spec_l4Walk.l0 (k + 1) y0 y1 y2 y3 y4 y5 y6 y7 y8 y9))
  | 0 => fun _ _ _ _ _ _ _ _ _ _ r h => by simp [spec_l4Walk.l0] at h
  | k + 1 => by
    have ih0 := spec_l4Walk.mono_l k
    · intro y0 y1 y2 y3 y4 y5 y6 y7 y8 y9
      unfold spec_l4Walk.l0
      repeat' first
      | (with_reducible exact ih0 _ _ _ _ _ _ _ _ _ _)
      | (with_reducible exact LeO.refl _)
      | (with_reducible exact LeO.none _)
      | (with_reducible refine LeO.ite ?_ ?_)
      | (with_reducible refine LeO.bind ?_ (fun _ => ?_))
      | exact ih0 _ _ _ _ _ _ _ _ _ _
      | exact LeO.none _
      | refine LeO.ite ?_ ?_
      | refine LeO.bind ?_ (fun _ => ?_)
theorem spec_l4Walk.mono : ∀ a0 a1 a2 a3 a4 a5 a6 k, LeO (spec_l4Walk.f k a0 a1 a2 a3 a4 a5 a6) (spec_l4Walk.f (k + 1) a0 a1 a2 a3 a4 a5 a6) := by
  intro a0 a1 a2 a3 a4 a5 a6 k
  have ih0 := spec_l4Walk.mono_l k
  unfold spec_l4Walk.f
  repeat' first
      | (with_reducible exact ih0 _ _ _ _ _ _ _ _ _ _)
      | (with_reducible exact LeO.refl _)
      | (with_reducible exact LeO.none _)
      | (with_reducible refine LeO.ite ?_ ?_)
      | (with_reducible refine LeO.bind ?_ (fun _ => ?_))
      | exact ih0 _ _ _ _ _ _ _ _ _ _
      | exact LeO.none _
      | refine LeO.ite ?_ ?_
      | refine LeO.bind ?_ (fun _ => ?_)
def spec_l4Walk.T6 : Bool × List (List Nat × List Nat) := (true, [([], []), ([0], [0]), ([], []), ([], []), ([3], [3]), ([2, 4], [2, 4]), ([], []), ([6], [6]), ([7], [7]), ([5, 8], [5, 8]), ([1, 9], [1, 9]), ([10], [10]), ([11, 0, 1, 2, 3, 4, 5, 6, 7, 8, 9, 10, 11], [11])])
def spec_l4Walk.B6 : List Nat := [0, 1, 0, 0, 8, 28, 0, 64, 192, 508, 1023, 2047, 4095]
theorem spec_l4Walk.tab6 : rtab .any (opsOf Try.f50 6) = spec_l4Walk.T6 := by kernel_rfl
theorem spec_l4Walk.bits6 : waitsOk spec_l4Walk.T6.2 spec_l4Walk.B6 = true := by kernel_rfl
set_option maxHeartbeats 8000000 in
set_option maxRecDepth 100000 in
theorem spec_l4Walk.calls (k : Nat) (a0_0 : Int) (a0_1 : Bool) (a1_0 : Int) (a1_1 : Int) (a1_2 : Int) (A1_3 : Option Addr) (c1_3 : Nat) (l1_3 : List Int) (a2 : Int) (r : List Int) (w : World) (hr1_3 : Kd.C (Kd.int .i64) w A1_3 l1_3.length l1_3) (hc1_3 : l1_3.length ≤ c1_3) (h : spec_l4Walk.f k a0_0 a0_1 a1_0 a1_1 a1_2 l1_3 a2 = some r) :
    Calls Try.prog 50 #[.agg #[.int .i64 a0_0, .bool a0_1], .agg #[.int .i64 a1_0, .int .i64 a1_1, .int .i64 a1_2, .slice A1_3 l1_3.length c1_3], .int .i64 a2] w fun e w' => ∃ v0_ : Value, e = .returned (v0_) ∧ Kd.R (Kd.int .i64) 3 w' w.heap.size (fun _ => True) v0_ r ∧ Below w.heap.size w w' := by
 have hu27 := Try.underlying27; have hu52 := Try.underlying52; have HR1_3 := A_ hr1_3; have HC1_3 := A_ hc1_3; clear hr1_3 hc1_3; have HB := A_ (Below.refl w.heap.size w); have H : (spec_l4Walk.l0 k a2 (([a1_0] : List Int)) a1_0 0 a0_0 a0_1 a1_0 a1_1 a1_2 l1_3) = some r := h; clear h
 obtain ⟨y139, hy139⟩ : ∃ y_ : List Int, y_ = (([a1_0] : List Int)) := ⟨_, rfl⟩
 replace H : (spec_l4Walk.l0 k a2 y139 a1_0 0 a0_0 a0_1 a1_0 a1_1 a1_2 l1_3) = some r := by first | (rw [hy139]; with_reducible exact H) | (have H2_ := (Option.bind_some _ _).symm.trans H; rw [hy139]; with_reducible exact H2_) | (have H2_ := (Option.bind_some _ _).symm.trans H; with_reducible exact H2_) | with_reducible exact H | (rw [hy139]; exact H) | exact H
 have Ny139 := A_ hy139; clear hy139; have H' := A_ H; clear H; go_enter Try.func50, Try.ntmps50
 try go_wp2_with (first | ((with_reducible refine gate_dst (N := 3) rfl ?_); refine bx (N := 3) #[.int .i64 a0_0, .bool a0_1] 27 ?_; intro gb137 hg w4 hbox hb; have BK137 := A_ (hbox); have GW137 := A_ (bs hg (hq HB) : w.heap.size ≤ gb137); have GE137 := A_ (bs hg (hq HB) : w.heap.size ≤ gb137); replace HB := A_ (below_step (hq HB) hb); clear hb hbox hg) | ((with_reducible refine gate_dst (N := 4) rfl ?_); refine bx (N := 4) #[.int .i64 a1_0, .int .i64 a1_1, .int .i64 a1_2, .slice A1_3 l1_3.length c1_3] 52 ?_; intro gb138 hg w5 hbox hb; have BK138 := A_ (hbox); have GW138 := A_ (bs hg (hq HB) : w.heap.size ≤ gb138); have GE138 := A_ (bs hg (hq HB) : w.heap.size ≤ gb138); replace HB := A_ (below_step (hq HB) hb); have NB137_138 := A_ ((by rw [hg]; exact Nat.ne_of_lt (blk_lt (bq BK137)) : gb137 ≠ gb138)); have NB138_137 := A_ ((by rw [hg]; exact Nat.ne_of_gt (blk_lt (bq BK137)) : gb138 ≠ gb137)); replace BK137 := A_ (blk_below (bq BK137) hb); clear hb hbox hg))
 replace BK137 := A_ (blk_drew BK137.out); replace BK138 := A_ (blk_drew BK138.out); replace HB := A_ (below_drew1 HB.out); refine start_ (n := 7) (S := fun w' => w'.cell? ⟨gb138, 0, none⟩ = some (.int .i64 a1_0) ∧ w'.cell? ⟨gb138, 1, none⟩ = some (.int .i64 a1_1) ∧ w'.cell? ⟨gb138, 2, none⟩ = some (.int .i64 a1_2) ∧ w'.cell? ⟨gb138, 3, none⟩ = some (.slice A1_3 l1_3.length c1_3)) (ds := []) #[false, false, false, false, false, false, false] (by kernel_rfl) rfl rfl ⟨bc BK138 0, bc BK138 1, bc BK138 2, bc BK138 3⟩ (fun hHeld => ?_); generalize w5.drew = w6 at BK137 BK138 HB hHeld ⊢; refine pu (i := 0) (N := some 11) #[true, false, false, false, false, false, false] ?_; refine pu (i := 3) (N := some 14) #[true, false, false, true, false, false, false] ?_; refine tk (i := 1) (N := some 12) hHeld #[true, true, false, true, false, false, false] ?_; refine tk (i := 4) (N := some 15) hHeld #[true, true, false, true, true, false, false] ?_; refine on (i := 2) (N := some 13) #[true, true, true, true, true, false, false] (fun K hK => ?_); refine Kd.R_lit_step (Kd.int .i64) _ 3 ?hg (N := 13) ?hd (xs := ([a1_0] : List Int)) (inner := [.int .i64 a1_0]) (ok := fun _ => True) (okp := fun _ => True) ?hr ?hp (fun _ hk => hk) trivial (Below.refl _ _) (Nat.le_refl _) (by simp) ?_; (case hd => rfl); (case hg => rfl); (case hr => first | (go_simp; done) | (go_simp; rfl)); (case hp => exact (Reps.one (show Kd.M (Kd.int .i64) _ _ _ a1_0 [.int .i64 a1_0] from rfl) (Reps.none _ _))); intro v140 w7 ho8 hb hg_ hnew_; clear hg_ hnew_; (first | rw [← Ny139.out] at ho8 | (simp only [Int.reduceToNat] at ho8; rw [← Ny139.out] at ho8)); have n0_ := A_ (Kd.R_lower ho8 (below_size (hq HB))); have n1_ := A_ (blk_below (bq BK137) hb); have n2_ := A_ (blk_below (bq BK138) hb); have n3_ := A_ (below_step (hq HB) hb); clear BK137 BK138 HB; have HO141 := n0_; have BK137 := n1_; have BK138 := n2_; have HB := n3_; clear n0_ n1_ n2_ n3_ hb ho8; refine hK.out _ _ ⟨bc BK138 0, bc BK138 1, bc BK138 2, bc BK138 3⟩ (fun hHeld => ?_); clear hK K; refine nq_ (some 13) ?_; refine pu (i := 5) (N := some 7) #[true, true, true, true, true, true, false] ?_; refine pu (i := 6) (N := some 8) #[true, true, true, true, true, true, true] ?_; refine done_ (by kernel_rfl) ?_; try go_wp2
 go_loopg [7, 8, 9] k (fun kq v7 v8 v9 w' => ∃ (x7_1 : List Int) (x8_1 : Int) (x9_1 : Int), v8 = .int .i64 x8_1 ∧ v9 = .int .i64 x9_1 ∧ Aside0 (spec_l4Walk.l0 kq a2 x7_1 x8_1 x9_1 a0_0 a0_1 a1_0 a1_1 a1_2 l1_3 = some r) ∧ Aside0 (kq ≤ k) ∧ Aside0 (Kd.R (Kd.int .i64) 3 w' w.heap.size (fun _ => True) v7 x7_1) ∧ Aside0 (w'.heap[gb137]? = some (.cells #[.int .i64 a0_0, .bool a0_1] 27 (0, 0))) ∧ Aside0 (w'.heap[gb138]? = some (.cells #[.int .i64 a1_0, .int .i64 a1_1, .int .i64 a1_2, (.slice A1_3 l1_3.length c1_3)] 52 (0, 0))) ∧ Aside0 (Below w.heap.size w w'))
 case atStart => exact ⟨(y139), (a1_0), (0), rf, rf, H', ⟨Nat.le_refl _⟩, ⟨rq HO141⟩, ⟨bq BK137⟩, ⟨bq BK138⟩, ⟨hq HB⟩⟩
 case round =>
  clear H'; obtain ⟨x7_1, x8_1, x9_1, rfl, rfl, HA, HK1, HO_7, BK137, BK138, HB⟩ := hrel
  cases gk with
  | zero => exact absurd HA.out (by simp [spec_l4Walk.l0])
  | succ k1 =>
   have H := HA.out; clear HA; simp only [spec_l4Walk.l0] at H
   by_cases c9 : x9_1 < a2
   ·
    rw [if_pos c9] at H; have c9b0 := decide_eq_true c9; clear c9; by_cases c10 : x9_1 ≥ a1_2
    ·
     rw [if_pos c10] at H; have c10b0 : decide (a1_2 ≤ x9_1) = true := decide_eq_true c10; clear c10; by_cases c11 : (l1_3.length : Int) = 0
     ·
      rw [if_pos c11] at H; exact absurd H (by simp)
     ·
      rw [if_neg c11] at H; have c11b0 : ((l1_3.length : Int) == 0) = false := beq_eq_false_iff_ne.mpr c11; have c11b1 : ((l1_3.length : Int) != 0) = true := bne_iff_ne.mpr c11
      have c11b2 : ¬ (l1_3 = []) := fun h_ => c11 (by rw [h_]; rfl)
      obtain ⟨ji12, hji12⟩ : ∃ j_ : Int, (Int.tmod (wrap64 (x9_1 - a1_2)) (l1_3.length : Int)) = j_ := ⟨_, rfl⟩
      replace H : (if 0 ≤ (ji12) then (if (ji12) < (l1_3.length : Int) then (if (rd l1_3 (ji12)) = 0 then (if x7_1.length < 17592186044416 then (spec_l4Walk.l0 k1 a2 (x7_1 ++ [x8_1]) x8_1 (wrap64 (x9_1 + 1)) a0_0 a0_1 a1_0 a1_1 a1_2 l1_3) else (none)) else ((spec_l2Step.f a0_0 a0_1 x8_1 (wrap64 ((rd l1_3 (ji12)) * a1_1))).bind fun t146 => (if x7_1.length < 17592186044416 then (spec_l4Walk.l0 k1 a2 (x7_1 ++ [t146]) t146 (wrap64 (x9_1 + 1)) a0_0 a0_1 a1_0 a1_1 a1_2 l1_3) else (none)))) else (none)) else (none)) = some r := by first | (rw [hji12] at H; exact H) | (simp only [hji12] at H ⊢; exact H)
      by_cases c13 : 0 ≤ (ji12)
      ·
       rw [if_pos c13] at H; have c13b0 := decide_eq_true c13; clear c13; by_cases c14 : (ji12) < (l1_3.length : Int)
       ·
        rw [if_pos c14] at H; have c14b0 := decide_eq_true c14; clear c14; by_cases c15 : (rd l1_3 (ji12)) = 0
        ·
         rw [if_pos c15] at H; have c15b0 : ((rd l1_3 (ji12)) == 0) = true := beq_iff_eq.mpr c15; have c15b1 : ((rd l1_3 (ji12)) != 0) = false := bne_eq_false_iff_eq.mpr c15; clear c15; by_cases c16 : x7_1.length < 17592186044416
         ·
          rw [if_pos c16] at H; have LMc16 := A_ c16; clear c16
          obtain ⟨y143, hy143⟩ : ∃ y_ : List Int, y_ = (x7_1 ++ [x8_1]) := ⟨_, rfl⟩
          replace H : (spec_l4Walk.l0 k1 a2 y143 x8_1 (wrap64 (x9_1 + 1)) a0_0 a0_1 a1_0 a1_1 a1_2 l1_3) = some r := by first | (rw [hy143]; with_reducible exact H) | (have H2_ := (Option.bind_some _ _).symm.trans H; rw [hy143]; with_reducible exact H2_) | (have H2_ := (Option.bind_some _ _).symm.trans H; with_reducible exact H2_) | with_reducible exact H | (rw [hy143]; exact H) | exact H
          have Ny143 := A_ hy143; clear hy143; have H' := A_ H; clear H; have hnb17 := NB138_137.out; have hnc17 := NB137_138.out; have hcz18_0 : wr.cell? ⟨gb138, 0, none⟩ = some (.int .i64 a1_0) := bc BK138 0; have hcz18_1 : wr.cell? ⟨gb138, 1, none⟩ = some (.int .i64 a1_1) := bc BK138 1; have hcz18_2 : wr.cell? ⟨gb138, 2, none⟩ = some (.int .i64 a1_2) := bc BK138 2; have hcz18_3 : wr.cell? ⟨gb138, 3, none⟩ = some (.slice A1_3 l1_3.length c1_3) := bc BK138 3; have hfz18_0 := blk_frozen BK138.out 0; have hfz18_1 := blk_frozen BK138.out 1; have hfz18_2 := blk_frozen BK138.out 2; have hfz18_3 := blk_frozen BK138.out 3; try go_wp2
          replace HO_7 := A_ (Kd.R_drew HO_7.out); replace BK137 := A_ (blk_drew BK137.out); replace BK138 := A_ (blk_drew BK138.out); replace HB := A_ (below_drew1 HB.out); have p142 : 0 ≤ ((ji12) : Int) := dq; have q142 : (ji12) < (l1_3.length : Int) := dq; obtain ⟨ad142, e142, hx142_0⟩ := Kd.at_int HR1_3.out (ji12) p142 q142; have hw142_0 := hx142_0
          cases e142
          replace hx142_0 := (HB.out.cell (World.block_lt_of_cell? w _ hx142_0)).trans hx142_0; replace p142 := eq_true p142; replace q142 := eq_true q142; refine start_ (n := 13) (S := fun w' => w'.cell? ⟨gb138, 0, none⟩ = some (.int .i64 a1_0) ∧ w'.cell? ⟨gb138, 1, none⟩ = some (.int .i64 a1_1) ∧ w'.cell? ⟨gb138, 2, none⟩ = some (.int .i64 a1_2) ∧ w'.cell? ⟨gb138, 3, none⟩ = some (.slice (some ad142) l1_3.length c1_3) ∧ w'.cell? (ad142.add ((ji12)).toNat) = some (.int .i64 (rd l1_3 (ji12)))) (ds := []) #[false, false, false, false, false, false, false, false, false, false, false, false, false] (by kernel_rfl) rfl rfl ⟨bc BK138 0, bc BK138 1, bc BK138 2, bc BK138 3, ((HB.out.cell (World.block_lt_of_cell? w _ hw142_0)).trans hw142_0)⟩ (fun hHeld => ?_); refine with_tabW spec_l4Walk.tab6 spec_l4Walk.bits6 (fun HT_ HW_ => ?_); generalize wr.drew = w19 at HO_7 BK137 BK138 HB hx142_0 hHeld ⊢; refine puT (i := 0) (N := some 25) HT_ #[true, false, false, false, false, false, false, false, false, false, false, false, false] ?_; refine puT (i := 2) (N := some 27) HT_ #[true, false, true, false, false, false, false, false, false, false, false, false, false] ?_; refine puT (i := 3) (N := some 28) HT_ #[true, false, true, true, false, false, false, false, false, false, false, false, false] ?_; refine puT (i := 6) (N := some 31) HT_ #[true, false, true, true, false, false, true, false, false, false, false, false, false] ?_; refine tkT (i := 1) (N := some 26) HT_ HW_ hHeld #[true, true, true, true, false, false, true, false, false, false, false, false, false] ?_; refine tkT (i := 4) (N := some 29) HT_ HW_ hHeld #[true, true, true, true, true, false, true, false, false, false, false, false, false] ?_; refine puT (i := 5) (N := some 30) HT_ #[true, true, true, true, true, true, true, false, false, false, false, false, false] ?_; refine tkT (i := 7) (N := some 32) HT_ HW_ hHeld #[true, true, true, true, true, true, true, true, false, false, false, false, false] ?_; refine puT (i := 8) (N := some 33) HT_ #[true, true, true, true, true, true, true, true, true, false, false, false, false] ?_; refine puT (i := 9) (N := some 34) HT_ #[true, true, true, true, true, true, true, true, true, true, false, false, false] ?_; refine puT (i := 10) (N := some 35) HT_ #[true, true, true, true, true, true, true, true, true, true, true, false, false] ?_; refine tkT (i := 11) (N := some 36) HT_ HW_ hHeld #[true, true, true, true, true, true, true, true, true, true, true, true, false] ?_; refine puT (i := 12) (N := some 10) HT_ #[true, true, true, true, true, true, true, true, true, true, true, true, true] ?_; refine done_ (done_of HT_.out (by kernel_rfl)) ?_; try go_wp2_with (first | ((with_reducible refine gate_builtin (b := .append) (xs := #[.tmp 46, .tmp 48]) rfl ?_); at_builtin; refine Kd.R_append (Kd.int .i64) (w0 := w) w.heap.size rfl (.tmp 46) (.tmp 48) 24 3 (.int .i64 0) 8 rfl Try.underlying24 info3 rfl (by decide) (by omega) u7 x7_1 x8_1 [.int .i64 x8_1] (fun _ => True) (fun _ => False) rfl rfl ?aP (fun _ hk => hk.elim) ?aF ?aO ?aB ?aS ?aL ?_; (case aP => exact rfl); (case aB => exact (hq HB)); (case aF => exact (fun _ _ => trivial)); (case aO => exact (rq HO_7)); (case aS => exact (below_size (hq HB))); (case aL => have := LMc16.out; omega); intro v144 w20 ho hb hg hat; rw [← Ny143.out] at ho; have n0_ := A_ (blk_grown (g := gb137) (o := .cells #[.int .i64 a0_0, .bool a0_1] 27 (0, 0)) (bq BK137) hg (Kd.R_ne HO_7.out BK137.out (by decide))); have n1_ := A_ (blk_grown (g := gb138) (o := .cells #[.int .i64 a1_0, .int .i64 a1_1, .int .i64 a1_2, .slice (some ad142) l1_3.length c1_3] 52 (0, 0)) (bq BK138) hg (Kd.R_ne HO_7.out BK138.out (by decide))); have n2_ := A_ (hb); have n3_ := A_ (ho); clear BK137; clear BK138; clear HB; clear HO_7; have BK137 := n0_; have BK138 := n1_; have HB := n2_; have HO145 := n3_; clear n0_ n1_ n2_ n3_; clear ho hb hg hat))
          go_roundg k1
          case measure => have := HK1.out; omega
          case rel => exact ⟨(y143), (x8_1), (wrap64 (x9_1 + 1)), rf, rf, H', ⟨by have := HK1.out; omega⟩, ⟨rq HO145⟩, ⟨bq BK137⟩, ⟨bq BK138⟩, ⟨hq HB⟩⟩
         ·
          rw [if_neg c16] at H; exact absurd H (by simp)
        ·
         rw [if_neg c15] at H; have c15b0 : ((rd l1_3 (ji12)) == 0) = false := beq_eq_false_iff_ne.mpr c15; have c15b1 : ((rd l1_3 (ji12)) != 0) = true := bne_iff_ne.mpr c15; replace H := bm H; obtain ⟨t146, A21, H⟩ := H; by_cases c22 : x7_1.length < 17592186044416
         ·
          rw [if_pos c22] at H; have LMc22 := A_ c22; clear c22
          obtain ⟨y147, hy147⟩ : ∃ y_ : List Int, y_ = (x7_1 ++ [t146]) := ⟨_, rfl⟩
          replace H : (spec_l4Walk.l0 k1 a2 y147 t146 (wrap64 (x9_1 + 1)) a0_0 a0_1 a1_0 a1_1 a1_2 l1_3) = some r := by first | (rw [hy147]; with_reducible exact H) | (have H2_ := (Option.bind_some _ _).symm.trans H; rw [hy147]; with_reducible exact H2_) | (have H2_ := (Option.bind_some _ _).symm.trans H; with_reducible exact H2_) | with_reducible exact H | (rw [hy147]; exact H) | exact H
          have Ny147 := A_ hy147; clear hy147; have H' := A_ H; clear H; have hnb23 := NB138_137.out; have hnc23 := NB137_138.out; have hcz24_0 : wr.cell? ⟨gb138, 0, none⟩ = some (.int .i64 a1_0) := bc BK138 0; have hcz24_1 : wr.cell? ⟨gb138, 1, none⟩ = some (.int .i64 a1_1) := bc BK138 1; have hcz24_2 : wr.cell? ⟨gb138, 2, none⟩ = some (.int .i64 a1_2) := bc BK138 2; have hcz24_3 : wr.cell? ⟨gb138, 3, none⟩ = some (.slice A1_3 l1_3.length c1_3) := bc BK138 3; have hfz24_0 := blk_frozen BK138.out 0; have hfz24_1 := blk_frozen BK138.out 1; have hfz24_2 := blk_frozen BK138.out 2; have hfz24_3 := blk_frozen BK138.out 3; try go_wp2
          replace HO_7 := A_ (Kd.R_drew HO_7.out); replace BK137 := A_ (blk_drew BK137.out); replace BK138 := A_ (blk_drew BK138.out); replace HB := A_ (below_drew1 HB.out); have p142 : 0 ≤ ((ji12) : Int) := dq; have q142 : (ji12) < (l1_3.length : Int) := dq; obtain ⟨ad142, e142, hx142_0⟩ := Kd.at_int HR1_3.out (ji12) p142 q142; have hw142_0 := hx142_0
          cases e142
          replace hx142_0 := (HB.out.cell (World.block_lt_of_cell? w _ hx142_0)).trans hx142_0; replace p142 := eq_true p142; replace q142 := eq_true q142; refine start_ (n := 13) (S := fun w' => w'.cell? ⟨gb138, 0, none⟩ = some (.int .i64 a1_0) ∧ w'.cell? ⟨gb138, 1, none⟩ = some (.int .i64 a1_1) ∧ w'.cell? ⟨gb138, 2, none⟩ = some (.int .i64 a1_2) ∧ w'.cell? ⟨gb138, 3, none⟩ = some (.slice (some ad142) l1_3.length c1_3) ∧ w'.cell? (ad142.add ((ji12)).toNat) = some (.int .i64 (rd l1_3 (ji12)))) (ds := []) #[false, false, false, false, false, false, false, false, false, false, false, false, false] (by kernel_rfl) rfl rfl ⟨bc BK138 0, bc BK138 1, bc BK138 2, bc BK138 3, ((HB.out.cell (World.block_lt_of_cell? w _ hw142_0)).trans hw142_0)⟩ (fun hHeld => ?_); refine with_tabW spec_l4Walk.tab6 spec_l4Walk.bits6 (fun HT_ HW_ => ?_); generalize wr.drew = w25 at HO_7 BK137 BK138 HB hx142_0 hHeld ⊢; refine puT (i := 0) (N := some 25) HT_ #[true, false, false, false, false, false, false, false, false, false, false, false, false] ?_; refine puT (i := 2) (N := some 27) HT_ #[true, false, true, false, false, false, false, false, false, false, false, false, false] ?_; refine puT (i := 3) (N := some 28) HT_ #[true, false, true, true, false, false, false, false, false, false, false, false, false] ?_; refine puT (i := 6) (N := some 31) HT_ #[true, false, true, true, false, false, true, false, false, false, false, false, false] ?_; refine tkT (i := 1) (N := some 26) HT_ HW_ hHeld #[true, true, true, true, false, false, true, false, false, false, false, false, false] ?_; refine tkT (i := 4) (N := some 29) HT_ HW_ hHeld #[true, true, true, true, true, false, true, false, false, false, false, false, false] ?_; refine puT (i := 5) (N := some 30) HT_ #[true, true, true, true, true, true, true, false, false, false, false, false, false] ?_; refine tkT (i := 7) (N := some 32) HT_ HW_ hHeld #[true, true, true, true, true, true, true, true, false, false, false, false, false] ?_; refine puT (i := 8) (N := some 33) HT_ #[true, true, true, true, true, true, true, true, true, false, false, false, false] ?_; refine puT (i := 9) (N := some 34) HT_ #[true, true, true, true, true, true, true, true, true, true, false, false, false] ?_; refine puT (i := 10) (N := some 35) HT_ #[true, true, true, true, true, true, true, true, true, true, true, false, false] ?_; refine tkT (i := 11) (N := some 36) HT_ HW_ hHeld #[true, true, true, true, true, true, true, true, true, true, true, true, false] ?_; refine puT (i := 12) (N := some 10) HT_ #[true, true, true, true, true, true, true, true, true, true, true, true, true] ?_; refine done_ (done_of HT_.out (by kernel_rfl)) ?_; have hcz26_0 : w25.cell? ⟨gb137, 0, none⟩ = some (.int .i64 a0_0) := bc BK137 0; have hcz26_1 : w25.cell? ⟨gb137, 1, none⟩ = some (.bool a0_1) := bc BK137 1; have hfz26_0 := blk_frozen BK137.out 0; have hfz26_1 := blk_frozen BK137.out 1; have hcz27_0 : w25.cell? ⟨gb138, 0, none⟩ = some (.int .i64 a1_0) := bc BK138 0; have hcz27_1 : w25.cell? ⟨gb138, 1, none⟩ = some (.int .i64 a1_1) := bc BK138 1; have hcz27_2 : w25.cell? ⟨gb138, 2, none⟩ = some (.int .i64 a1_2) := bc BK138 2; have hcz27_3 : w25.cell? ⟨gb138, 3, none⟩ = some (.slice (some ad142) l1_3.length c1_3) := bc BK138 3; have hfz27_0 := blk_frozen BK138.out 0; have hfz27_1 := blk_frozen BK138.out 1; have hfz27_2 := blk_frozen BK138.out 2; have hfz27_3 := blk_frozen BK138.out 3; try go_wp2_with (first | ((with_reducible refine gate_callee (f := 71) rfl ?_); refine goesL_ (some 45) rfl rfl Try.func71 (by kernel_rfl) rfl #[.agg #[.int .i64 a0_0, .bool a0_1], .int .i64 x8_1, .int .i64 (wrap64 ((rd l1_3 (ji12)) * a1_1))] rfl (by (try simp only [List.map_toArray, List.map_cons, List.map_nil]); first | done | (simp only [hji12]; rfl) | rfl | (simp only [List.length_drop, List.length_take]; rfl)) ?_; (with_reducible refine (spec_l2Step.calls a0_0 a0_1 x8_1 (wrap64 ((rd l1_3 (ji12)) * a1_1)) t146 _ A21.out).mono ?_); rintro e w28 ⟨rfl, hb⟩; refine ⟨_, rfl, ?_⟩; replace HO_7 := A_ (Kd.R_below (rq HO_7) hb); replace BK137 := A_ (blk_below (bq BK137) hb); replace BK138 := A_ (blk_below (bq BK138) hb); replace HB := A_ (below_step (hq HB) hb); clear hb) | ((with_reducible refine gate_builtin (b := .append) (xs := #[.tmp 46, .tmp 48]) rfl ?_); at_builtin; refine Kd.R_append (Kd.int .i64) (w0 := w) w.heap.size rfl (.tmp 46) (.tmp 48) 24 3 (.int .i64 0) 8 rfl Try.underlying24 info3 rfl (by decide) (by omega) u7 x7_1 t146 [.int .i64 t146] (fun _ => True) (fun _ => False) rfl rfl ?aP (fun _ hk => hk.elim) ?aF ?aO ?aB ?aS ?aL ?_; (case aP => exact rfl); (case aB => exact (hq HB)); (case aF => exact (fun _ _ => trivial)); (case aO => exact (rq HO_7)); (case aS => exact (below_size (hq HB))); (case aL => have := LMc22.out; omega); intro v148 w29 ho hb hg hat; rw [← Ny147.out] at ho; have n0_ := A_ (blk_grown (g := gb137) (o := .cells #[.int .i64 a0_0, .bool a0_1] 27 (0, 0)) (bq BK137) hg (Kd.R_ne HO_7.out BK137.out (by decide))); have n1_ := A_ (blk_grown (g := gb138) (o := .cells #[.int .i64 a1_0, .int .i64 a1_1, .int .i64 a1_2, .slice (some ad142) l1_3.length c1_3] 52 (0, 0)) (bq BK138) hg (Kd.R_ne HO_7.out BK138.out (by decide))); have n2_ := A_ (hb); have n3_ := A_ (ho); clear BK137; clear BK138; clear HB; clear HO_7; have BK137 := n0_; have BK138 := n1_; have HB := n2_; have HO149 := n3_; clear n0_ n1_ n2_ n3_; clear ho hb hg hat))
          go_roundg k1
          case measure => have := HK1.out; omega
          case rel => exact ⟨(y147), (t146), (wrap64 (x9_1 + 1)), rf, rf, H', ⟨by have := HK1.out; omega⟩, ⟨rq HO149⟩, ⟨bq BK137⟩, ⟨bq BK138⟩, ⟨hq HB⟩⟩
         ·
          rw [if_neg c22] at H; exact absurd H (by simp)
       ·
        rw [if_neg c14] at H; exact absurd H (by simp)
      ·
       rw [if_neg c13] at H; exact absurd H (by simp)
    ·
     rw [if_neg c10] at H; have c10b0 : decide (a1_2 ≤ x9_1) = false := decide_eq_false c10; clear c10; by_cases c30 : x7_1.length < 17592186044416
     ·
      rw [if_pos c30] at H; have LMc30 := A_ c30; clear c30
      obtain ⟨y150, hy150⟩ : ∃ y_ : List Int, y_ = (x7_1 ++ [x8_1]) := ⟨_, rfl⟩
      replace H : (spec_l4Walk.l0 k1 a2 y150 x8_1 (wrap64 (x9_1 + 1)) a0_0 a0_1 a1_0 a1_1 a1_2 l1_3) = some r := by first | (rw [hy150]; with_reducible exact H) | (have H2_ := (Option.bind_some _ _).symm.trans H; rw [hy150]; with_reducible exact H2_) | (have H2_ := (Option.bind_some _ _).symm.trans H; with_reducible exact H2_) | with_reducible exact H | (rw [hy150]; exact H) | exact H
      have Ny150 := A_ hy150; clear hy150; have H' := A_ H; clear H; have hnb31 := NB138_137.out; have hnc31 := NB137_138.out; have hcz32_0 : wr.cell? ⟨gb138, 0, none⟩ = some (.int .i64 a1_0) := bc BK138 0; have hcz32_1 : wr.cell? ⟨gb138, 1, none⟩ = some (.int .i64 a1_1) := bc BK138 1; have hcz32_2 : wr.cell? ⟨gb138, 2, none⟩ = some (.int .i64 a1_2) := bc BK138 2; have hcz32_3 : wr.cell? ⟨gb138, 3, none⟩ = some (.slice A1_3 l1_3.length c1_3) := bc BK138 3; have hfz32_0 := blk_frozen BK138.out 0; have hfz32_1 := blk_frozen BK138.out 1; have hfz32_2 := blk_frozen BK138.out 2; have hfz32_3 := blk_frozen BK138.out 3; go_wp2_with (first | ((with_reducible refine gate_builtin (b := .append) (xs := #[.tmp 46, .tmp 48]) rfl ?_); at_builtin; refine Kd.R_append (Kd.int .i64) (w0 := w) w.heap.size rfl (.tmp 46) (.tmp 48) 24 3 (.int .i64 0) 8 rfl Try.underlying24 info3 rfl (by decide) (by omega) u7 x7_1 x8_1 [.int .i64 x8_1] (fun _ => True) (fun _ => False) rfl rfl ?aP (fun _ hk => hk.elim) ?aF ?aO ?aB ?aS ?aL ?_; (case aP => exact rfl); (case aB => exact (hq HB)); (case aF => exact (fun _ _ => trivial)); (case aO => exact (rq HO_7)); (case aS => exact (below_size (hq HB))); (case aL => have := LMc30.out; omega); intro v151 w33 ho hb hg hat; rw [← Ny150.out] at ho; have n0_ := A_ (blk_grown (g := gb137) (o := .cells #[.int .i64 a0_0, .bool a0_1] 27 (0, 0)) (bq BK137) hg (Kd.R_ne HO_7.out BK137.out (by decide))); have n1_ := A_ (blk_grown (g := gb138) (o := .cells #[.int .i64 a1_0, .int .i64 a1_1, .int .i64 a1_2, .slice A1_3 l1_3.length c1_3] 52 (0, 0)) (bq BK138) hg (Kd.R_ne HO_7.out BK138.out (by decide))); have n2_ := A_ (hb); have n3_ := A_ (ho); clear BK137; clear BK138; clear HB; clear HO_7; have BK137 := n0_; have BK138 := n1_; have HB := n2_; have HO152 := n3_; clear n0_ n1_ n2_ n3_; clear ho hb hg hat))
      go_roundg k1
      case measure => have := HK1.out; omega
      case rel => exact ⟨(y150), (x8_1), (wrap64 (x9_1 + 1)), rf, rf, H', ⟨by have := HK1.out; omega⟩, ⟨rq HO152⟩, ⟨bq BK137⟩, ⟨bq BK138⟩, ⟨hq HB⟩⟩
     ·
      rw [if_neg c30] at H; exact absurd H (by simp)
   ·
    rw [if_neg c9] at H; have c9b0 := decide_eq_false c9; clear c9; obtain rfl := Option.some.inj H; go_wp2
    go_ret
    exact ⟨_, rt, rq HO_7, hq HB⟩

/-! ### spec_l4At: function 51 -/
def spec_l4At.f (a0_0 : Int) (a0_1 : Int) (a0_2 : Int) (l0_3 : List Int) (a1 : Int) : Option (Int × Int × Int × List Int) := some (a1, a0_1, a0_2, l0_3)
set_option maxHeartbeats 8000000 in
set_option maxRecDepth 100000 in
theorem spec_l4At.calls (a0_0 : Int) (a0_1 : Int) (a0_2 : Int) (P0_3_ : Nat → Prop) (A0_3 : Option Addr) (c0_3 : Nat) (l0_3 : List Int) (a1 : Int) (r1 : Int) (r2 : Int) (r3 : Int) (r4 : List Int) (w : World) (hs0_3 : Kd.V (Kd.int .i64) 3 w w.heap.size (fun k_ => P0_3_ k_) (.slice A0_3 l0_3.length c0_3) l0_3) (h : spec_l4At.f a0_0 a0_1 a0_2 l0_3 a1 = some (r1, r2, r3, r4)) :
    Calls Try.prog 51 #[.agg #[.int .i64 a0_0, .int .i64 a0_1, .int .i64 a0_2, .slice A0_3 l0_3.length c0_3], .int .i64 a1] w fun e w' => ∃ v3_ : Value, e = .returned (.agg #[.int .i64 r1, .int .i64 r2, .int .i64 r3, v3_]) ∧ Kd.V (Kd.int .i64) 3 w' w.heap.size (fun k_ => (P0_3_ k_ ∨ w.heap.size ≤ k_)) v3_ r4 ∧ Below w.heap.size w w' := by
 have hu52 := Try.underlying52; have HO0_3 := A_ (show Kd.V (Kd.int .i64) 3 w w.heap.size (fun k_ => (P0_3_ k_ ∨ w.heap.size ≤ k_)) (.slice A0_3 l0_3.length c0_3) l0_3 from Kd.V_mono hs0_3 (fun k_ hk => .inl hk)); have HB := A_ (Below.refl w.heap.size w); have H : (some (a1, a0_1, a0_2, l0_3)) = some (r1, r2, r3, r4) := h; clear h; simp only [Option.some.injEq, Prod.mk.injEq] at H
 obtain ⟨rfl, rfl, rfl, rfl⟩ := H; go_enter Try.func51, Try.ntmps51
 go_wp2_with (first | ((with_reducible refine gate_dst (N := 2) rfl ?_); refine bx (N := 2) #[.int .i64 a0_0, .int .i64 a0_1, .int .i64 a0_2, .slice A0_3 l0_3.length c0_3] 52 ?_; intro gb153 hg w3 hbox hb; replace HO0_3 := A_ (Kd.V_below (Kd.V_elderB (vq HO0_3) gb153 (Nat.le_of_eq hg.symm)) hb); have BK153 := A_ (hbox); have GW153 := A_ (bs hg (hq HB) : w.heap.size ≤ gb153); have GE153 := A_ (bs hg (hq HB) : w.heap.size ≤ gb153); replace HB := A_ (below_step (hq HB) hb); clear hb hbox hg) | ((with_reducible refine gate_dst (N := 4) rfl ?_); refine bx (N := 4) #[.int .i64 0, .int .i64 0, .int .i64 0, .slice none 0 0] 52 ?_; intro gb154 hg w4 hbox hb; replace HO0_3 := A_ (Kd.V_below (Kd.V_elderB (vq HO0_3) gb154 (Nat.le_of_eq hg.symm)) hb); have BK154 := A_ (hbox); have GW154 := A_ (bs hg (hq HB) : w.heap.size ≤ gb154); have GE154 := A_ (bs hg (hq HB) : w.heap.size ≤ gb154); replace HB := A_ (below_step (hq HB) hb); have NB153_154 := A_ ((by rw [hg]; exact Nat.ne_of_lt (blk_lt (bq BK153)) : gb153 ≠ gb154)); have NB154_153 := A_ ((by rw [hg]; exact Nat.ne_of_gt (blk_lt (bq BK153)) : gb154 ≠ gb153)); replace BK153 := A_ (blk_below (bq BK153) hb); clear hb hbox hg; have hnb5 := NB153_154.out; have hnc5 := NB154_153.out; have hcz6_0 : w4.cell? ⟨gb153, 0, none⟩ = some (.int .i64 a0_0) := bc BK153 0; have hcz6_1 : w4.cell? ⟨gb153, 1, none⟩ = some (.int .i64 a0_1) := bc BK153 1; have hcz6_2 : w4.cell? ⟨gb153, 2, none⟩ = some (.int .i64 a0_2) := bc BK153 2; have hcz6_3 : w4.cell? ⟨gb153, 3, none⟩ = some (.slice A0_3 l0_3.length c0_3) := bc BK153 3; have hfz6_0 := blk_frozen BK153.out 0; have hfz6_1 := blk_frozen BK153.out 1; have hfz6_2 := blk_frozen BK153.out 2; have hfz6_3 := blk_frozen BK153.out 3; have hcz7_0 : w4.cell? ⟨gb154, 0, none⟩ = some (.int .i64 0) := bc BK154 0; have hcz7_1 : w4.cell? ⟨gb154, 1, none⟩ = some (.int .i64 0) := bc BK154 1; have hcz7_2 : w4.cell? ⟨gb154, 2, none⟩ = some (.int .i64 0) := bc BK154 2; have hcz7_3 : w4.cell? ⟨gb154, 3, none⟩ = some (.slice none 0 0) := bc BK154 3; have hfz7_0 := blk_frozen BK154.out 0; have hfz7_1 := blk_frozen BK154.out 1; have hfz7_2 := blk_frozen BK154.out 2; have hfz7_3 := blk_frozen BK154.out 3))
 refine bodyPost_ret (results_cell_row rfl _ _ gb154 52 #[.int .i64 a1, .int .i64 a0_1, .int .i64 a0_2, .slice A0_3 l0_3.length c0_3] (0, 0) _ rfl (by (with_reducible repeat (first | refine blk_drewN ?_ _ | refine blk_drew ?_ | refine blk_alloc ?_ _)); refine blk_put (cs := #[.int .i64 a1, .int .i64 a0_1, .int .i64 a0_2, .slice none 0 0]) ?_ 3 _ rfl; (with_reducible repeat (first | refine blk_drewN ?_ _ | refine blk_drew ?_ | refine blk_alloc ?_ _)); refine blk_put (cs := #[.int .i64 a1, .int .i64 a0_1, .int .i64 0, .slice none 0 0]) ?_ 2 _ rfl; (with_reducible repeat (first | refine blk_drewN ?_ _ | refine blk_drew ?_ | refine blk_alloc ?_ _)); refine blk_put (cs := #[.int .i64 a1, .int .i64 0, .int .i64 0, .slice none 0 0]) ?_ 1 _ rfl; (with_reducible repeat (first | refine blk_drewN ?_ _ | refine blk_drew ?_ | refine blk_alloc ?_ _)); refine blk_put (cs := #[.int .i64 0, .int .i64 0, .int .i64 0, .slice none 0 0]) ?_ 0 _ rfl; (with_reducible repeat (first | refine blk_drewN ?_ _ | refine blk_drew ?_ | refine blk_alloc ?_ _)); exact BK154.out) Try.underlying52 rfl (by kernel_rfl)) rfl ?_; exact ⟨_, rt, by (with_reducible repeat (first | apply Kd.V_alloc | apply Kd.V_drewN | apply Kd.V_drew)); exact Kd.V_mono (Kd.V_far (p := ⟨gb154, 3, none⟩) (Kd.V_far (p := ⟨gb154, 2, none⟩) (Kd.V_far (p := ⟨gb154, 1, none⟩) (Kd.V_far (p := ⟨gb154, 0, none⟩) (Kd.V_mono HO0_3.out (fun k_ hk => (⟨hk, hk.2⟩ : _ ∧ k_ ≠ gb154))) (fun _ hk => hk.2) (.int .i64 a1)) (fun _ hk => hk.2) (.int .i64 a0_1)) (fun _ hk => hk.2) (.int .i64 a0_2)) (fun _ hk => hk.2) (.slice A0_3 l0_3.length c0_3)) (fun _ hk => hk.1.1.1), hq HB⟩

/-! ### spec_l4Meet: function 52 -/
mutual
def spec_l4Meet.l0 : Nat → List (List Int) → Int → Option (Int)
  | 0, _, _ => none
  | k + 1, x0, x3 => if x3 ≤ 60 then (spec_l4Meet.l1 k x0 x3 true 1) else (some (-1))
def spec_l4Meet.l1 : Nat → List (List Int) → Int → Bool → Int → Option (Int)
  | 0, _, _, _, _ => none
  | k + 1, x0, x3, x4, x5 => if x5 < (x0.length : Int) then (if x4 = true then (if 0 ≤ x5 then (if 0 ≤ x3 then (if x3 < ((rd_L1 x0 x5).length : Int) then (if 0 < (x0.length : Int) then (if x3 < ((rd_L1 x0 0).length : Int) then (spec_l4Meet.l1 k x0 x3 ((rd (rd_L1 x0 x5) x3) == (rd (rd_L1 x0 0) x3)) (wrap64 (x5 + 1))) else (none)) else (none)) else (none)) else (none)) else (none)) else (spec_l4Meet.l1 k x0 x3 false (wrap64 (x5 + 1)))) else (if x4 = true then (some x3) else (spec_l4Meet.l0 k x0 (wrap64 (x3 + 1))))
end
def spec_l4Meet.f (k : Nat) (l0 : List (List Int)) : Option (Int) := spec_l4Meet.l0 k l0 0
theorem spec_l4Meet.mono_l : ∀ k, (∀ y0 y1, LeO (spec_l4Meet.l0 k y0 y1) (spec_l4Meet.l0 (k + 1) y0 y1)) ∧ (∀ y0 y1 y2 y3, LeO (spec_l4Meet.l1 k y0 y1 y2 y3) (spec_l4Meet.l1 (k + 1) y0 y1 y2 y3))
  | 0 => ⟨fun _ _ r h => by simp [spec_l4Meet.l0] at h, fun _ _ _ _ r h => by simp [spec_l4Meet.l1] at h⟩
  | k + 1 => by
    obtain ⟨ih0, ih1⟩ := spec_l4Meet.mono_l k
    refine ⟨?_, ?_⟩
    · intro y0 y1
      unfold spec_l4Meet.l0
      repeat' first
      | (with_reducible exact ih0 _ _)
      | (with_reducible exact ih1 _ _ _ _)
      | (with_reducible exact LeO.refl _)
      | (with_reducible exact LeO.none _)
      | (with_reducible refine LeO.ite ?_ ?_)
      | (with_reducible refine LeO.bind ?_ (fun _ => ?_))
      | exact ih0 _ _
      | exact ih1 _ _ _ _
      | exact LeO.none _
      | refine LeO.ite ?_ ?_
      | refine LeO.bind ?_ (fun _ => ?_)
    · intro y0 y1 y2 y3
      unfold spec_l4Meet.l1
      repeat' first
      | (with_reducible exact ih0 _ _)
      | (with_reducible exact ih1 _ _ _ _)
      | (with_reducible exact LeO.refl _)
      | (with_reducible exact LeO.none _)
      | (with_reducible refine LeO.ite ?_ ?_)
      | (with_reducible refine LeO.bind ?_ (fun _ => ?_))
      | exact ih0 _ _
      | exact ih1 _ _ _ _
      | exact LeO.none _
      | refine LeO.ite ?_ ?_
      | refine LeO.bind ?_ (fun _ => ?_)
theorem spec_l4Meet.mono : ∀ a0 k, LeO (spec_l4Meet.f k a0) (spec_l4Meet.f (k + 1) a0) := by
  intro a0 k
  obtain ⟨ih0, ih1⟩ := spec_l4Meet.mono_l k
  unfold spec_l4Meet.f
  repeat' first
      | (with_reducible exact ih0 _ _)
      | (with_reducible exact ih1 _ _ _ _)
      | (with_reducible exact LeO.refl _)
      | (with_reducible exact LeO.none _)
      | (with_reducible refine LeO.ite ?_ ?_)
      | (with_reducible refine LeO.bind ?_ (fun _ => ?_))
      | exact ih0 _ _
      | exact ih1 _ _ _ _
      | exact LeO.none _
      | refine LeO.ite ?_ ?_
      | refine LeO.bind ?_ (fun _ => ?_)
set_option maxHeartbeats 8000000 in
set_option maxRecDepth 100000 in
theorem spec_l4Meet.calls (k : Nat) (A0 : Option Addr) (c0 : Nat) (l0 : List (List Int)) (r : Int) (w : World) (hr0 : Kd.C (Kd.slice 3 (Kd.int .i64)) w A0 l0.length l0) (hc0 : l0.length ≤ c0) (h : spec_l4Meet.f k l0 = some r) :
    Calls Try.prog 52 #[.slice A0 l0.length c0] w fun e w' => e = .returned (.int .i64 r) ∧ Drawn0 w w' := by
 have HR0 := A_ hr0; have HC0 := A_ hc0; clear hr0 hc0; have H : (spec_l4Meet.l0 k l0 0) = some r := h; clear h; have H' := A_ H; clear H; go_enter Try.func52, Try.ntmps52
 go_wp2
 repeat (go_quiet (fail); try go_wp2)
 go_loopg [3] k (fun kq v3 w' => ∃ (x3_1 : Int), v3 = .int .i64 x3_1 ∧ Aside0 (spec_l4Meet.l0 kq l0 x3_1 = some r) ∧ Aside0 (kq ≤ k) ∧ Drawn0 w w')
 case atStart => exact ⟨(0), rf, H', ⟨Nat.le_refl _⟩, by repeat (first | exact Drawn0.refl _ | apply Drawn0.step)⟩
 case round =>
  clear H'; obtain ⟨x3_1, rfl, HA, HK1, ⟨m1, rfl⟩⟩ := hrel
  cases gk with
  | zero => exact absurd HA.out (by simp [spec_l4Meet.l0])
  | succ k1 =>
   have H := HA.out; clear HA; simp only [spec_l4Meet.l0] at H
   by_cases c2 : x3_1 ≤ 60
   ·
    rw [if_pos c2] at H; have c2b0 := decide_eq_true c2; clear c2; have H' := A_ H; clear H; go_wp2
    repeat (go_quiet (fail); try go_wp2)
    go_loopg [4, 5] k1 (fun kq v4 v5 w' => ∃ (x4_2 : Bool) (x5_2 : Int), v4 = .bool x4_2 ∧ v5 = .int .i64 x5_2 ∧ Aside0 (spec_l4Meet.l1 kq l0 x3_1 x4_2 x5_2 = some r) ∧ Aside0 (kq ≤ k1) ∧ Drawn0 w w')
    case atStart => exact ⟨(true), (1), rf, rf, H', ⟨Nat.le_refl _⟩, by repeat (first | exact Drawn0.refl _ | apply Drawn0.step)⟩
    case round =>
     clear H'; (try clear c2); (try clear c2b0); obtain ⟨x4_2, x5_2, rfl, rfl, HA, HK2, ⟨m2, rfl⟩⟩ := hrel
     cases gk with
     | zero => exact absurd HA.out (by simp [spec_l4Meet.l1])
     | succ k2 =>
      have H := HA.out; clear HA; simp only [spec_l4Meet.l1] at H
      by_cases c3 : x5_2 < (l0.length : Int)
      ·
       rw [if_pos c3] at H; have c3b0 := decide_eq_true c3; clear c3; by_cases c4 : x4_2 = true
       ·
        subst c4
        have H1 : (if 0 ≤ x5_2 then (if 0 ≤ x3_1 then (if x3_1 < ((rd_L1 l0 x5_2).length : Int) then (if 0 < (l0.length : Int) then (if x3_1 < ((rd_L1 l0 0).length : Int) then (spec_l4Meet.l1 k2 l0 x3_1 ((rd (rd_L1 l0 x5_2) x3_1) == (rd (rd_L1 l0 0) x3_1)) (wrap64 (x5_2 + 1))) else (none)) else (none)) else (none)) else (none)) else (none)) = some r := by rw [if_pos rfl] at H; exact H
        clear H; have H := H1; clear H1; by_cases c5 : 0 ≤ x5_2
        ·
         rw [if_pos c5] at H; have c5b0 := decide_eq_true c5; clear c5; by_cases c6 : 0 ≤ x3_1
         ·
          rw [if_pos c6] at H; have c6b0 := decide_eq_true c6; clear c6; by_cases c7 : x3_1 < ((rd_L1 l0 x5_2).length : Int)
          ·
           rw [if_pos c7] at H; have c7b0 := decide_eq_true c7; clear c7; by_cases c8 : 0 < (l0.length : Int)
           ·
            rw [if_pos c8] at H; have c8b0 := decide_eq_true c8; have c8b1 : decide (0 < l0.length) = true := decide_eq_true (by omega); clear c8; by_cases c9 : x3_1 < ((rd_L1 l0 0).length : Int)
            ·
             rw [if_pos c9] at H; have c9b0 := decide_eq_true c9; clear c9; have H' := A_ H; clear H; have p155 : 0 ≤ (x5_2 : Int) := dq; have q155 : x5_2 < (l0.length : Int) := dq; obtain ⟨ad155, A155_0, c155_0, e155, hx155_0, hl155_0, hi155_0⟩ := at_L1 HR0.out x5_2 p155 q155
             cases e155
             have HR155_0 := A_ hi155_0; have HC155_0 := A_ hl155_0; clear hi155_0 hl155_0; replace p155 := eq_true p155; replace q155 := eq_true q155; have p156 : 0 ≤ (x3_1 : Int) := dq; have q156 : x3_1 < ((rd_L1 l0 x5_2).length : Int) := dq; obtain ⟨ad156, e156, hx156_0⟩ := Kd.at_int HR155_0.out x3_1 p156 q156
             cases e156
             replace p156 := eq_true p156; replace q156 := eq_true q156
             have p157 : 0 ≤ (0 : Int) := (by omega)
             have q157 : 0 < (l0.length : Int) := dq; obtain ⟨ad157, A157_0, c157_0, e157, hx157_0, hl157_0, hi157_0⟩ := at_L1 HR0.out 0 p157 q157
             obtain rfl : ad155 = ad157 := (by injection e157)
             have qi157 : (0 < l0.length) = True := eq_true (by omega); (try rw [show ((0 : Int)).toNat = 0 from rfl] at hx157_0); (try rw [Addr.add_zero'] at hx157_0); have HR157_0 := A_ hi157_0; have HC157_0 := A_ hl157_0; clear hi157_0 hl157_0; replace p157 := eq_true p157; replace q157 := eq_true q157; have p158 : 0 ≤ (x3_1 : Int) := dq; have q158 : x3_1 < ((rd_L1 l0 0).length : Int) := dq; obtain ⟨ad158, e158, hx158_0⟩ := Kd.at_int HR157_0.out x3_1 p158 q158
             cases e158
             replace p158 := eq_true p158; replace q158 := eq_true q158; go_wp2
             repeat (go_quiet (fail); try go_wp2)
             go_roundg k2
             case measure => have := HK1.out; have := HK2.out; omega
             case rel => exact ⟨(((rd (rd_L1 l0 x5_2) x3_1) == (rd (rd_L1 l0 0) x3_1))), (wrap64 (x5_2 + 1)), rf, rf, H', ⟨by have := HK1.out; have := HK2.out; omega⟩, by repeat (first | exact Drawn0.refl _ | apply Drawn0.step)⟩
            ·
             rw [if_neg c9] at H; exact absurd H (by simp)
           ·
            rw [if_neg c8] at H; exact absurd H (by simp)
          ·
           rw [if_neg c7] at H; exact absurd H (by simp)
         ·
          rw [if_neg c6] at H; exact absurd H (by simp)
        ·
         rw [if_neg c5] at H; exact absurd H (by simp)
       ·
        replace c4 := Bool.eq_false_iff.mpr c4; subst c4
        have H1 : (spec_l4Meet.l1 k2 l0 x3_1 false (wrap64 (x5_2 + 1))) = some r := by rw [if_neg (show ¬ (false = true) by decide)] at H; exact H
        clear H; have H := H1; clear H1; have H' := A_ H; clear H; go_wp2
        repeat (go_quiet (fail); try go_wp2)
        go_roundg k2
        case measure => have := HK1.out; have := HK2.out; omega
        case rel => exact ⟨(false), (wrap64 (x5_2 + 1)), rf, rf, H', ⟨by have := HK1.out; have := HK2.out; omega⟩, by repeat (first | exact Drawn0.refl _ | apply Drawn0.step)⟩
      ·
       rw [if_neg c3] at H; have c3b0 := decide_eq_false c3; clear c3; by_cases c10 : x4_2 = true
       ·
        subst c10
        have H1 : (some x3_1) = some r := by rw [if_pos rfl] at H; exact H
        clear H; have H := H1; clear H1; obtain rfl := Option.some.inj H; go_wp2
        repeat (go_quiet (fail); try go_wp2)
        go_ret
        exact ⟨rf, by repeat (first | exact Drawn0.refl _ | apply Drawn0.step)⟩
       ·
        replace c10 := Bool.eq_false_iff.mpr c10; subst c10
        have H1 : (spec_l4Meet.l0 k2 l0 (wrap64 (x3_1 + 1))) = some r := by rw [if_neg (show ¬ (false = true) by decide)] at H; exact H
        clear H; have H := H1; clear H1; have H' := A_ H; clear H; go_wp2
        repeat (go_quiet (fail); try go_wp2)
        go_roundg k2
        case measure => have := HK1.out; have := HK2.out; omega
        case rel => exact ⟨(wrap64 (x3_1 + 1)), rf, H', ⟨by have := HK1.out; have := HK2.out; omega⟩, by repeat (first | exact Drawn0.refl _ | apply Drawn0.step)⟩
   ·
    rw [if_neg c2] at H; have c2b0 := decide_eq_false c2; clear c2; obtain rfl := Option.some.inj H; go_wp2
    repeat (go_quiet (fail); try go_wp2)
    go_ret
    exact ⟨rf, by repeat (first | exact Drawn0.refl _ | apply Drawn0.step)⟩

end Go.Proofs.Ythgbkekfekcfaaa.PFnExactBestPlans
