-- Printed, and told shorter by this session's program shrink.py.
-- Printed by this session's program myprint.py.
import Derived.Test.YtmamhnbhahafgaaPFnLabelsx0
import Derived.Test.YtmamhnbhahafgaaPFnLabelsx7
namespace Go.Proofs.Ytmamhnbhahafgaa.PFnLabels
open Go.RowKit Go.Proofs.Ytmamhnbhahafgaa.Own Go.Proofs.YtmamhnbhahafgaaW.PrintWords Go.Proofs.YtmamhnbhahafgaaW.PrintLast Go.Proofs.YtmamhnbhahafgaaW.PrintMore
attribute [local go_sem] max2_int min2_int max_two min_two max_three min_three max_four min_four   -- for this text's walks alone
set_option linter.unusedVariables false
set_option linter.unusedSimpArgs false

/-! ### spec_l4Walk: function 120 -/
def spec_l4Walk.l0 : Nat → Int → List Int → Int → Int → Int → Bool → Int → Int → Int → List Int → Option (List Int)
  | 0, _, _, _, _, _, _, _, _, _, _ => none
  | k + 1, x2, x7, x8, x9, x348000, x348001, x349000, x349001, x349002, x349003 => if x9 < x2 then (if x9 ≥ x349002 then (if (x349003.length : Int) = 0 then (none) else (if 0 ≤ (Int.tmod (wrap64 (x9 - x349002)) (x349003.length : Int)) then (if (Int.tmod (wrap64 (x9 - x349002)) (x349003.length : Int)) < (x349003.length : Int) then (if (rd x349003 (Int.tmod (wrap64 (x9 - x349002)) (x349003.length : Int))) = 0 then (if x7.length < 17592186044416 then (spec_l4Walk.l0 k x2 (x7 ++ [x8]) x8 (wrap64 (x9 + 1)) x348000 x348001 x349000 x349001 x349002 x349003) else (none)) else ((spec_l2Step.f x348000 x348001 x8 (wrap64 ((rd x349003 (Int.tmod (wrap64 (x9 - x349002)) (x349003.length : Int))) * x349001))).bind fun t356 => (if x7.length < 17592186044416 then (spec_l4Walk.l0 k x2 (x7 ++ [t356]) t356 (wrap64 (x9 + 1)) x348000 x348001 x349000 x349001 x349002 x349003) else (none)))) else (none)) else (none))) else (if x7.length < 17592186044416 then (spec_l4Walk.l0 k x2 (x7 ++ [x8]) x8 (wrap64 (x9 + 1)) x348000 x348001 x349000 x349001 x349002 x349003) else (none))) else (some x7)
def spec_l4Walk.f (k : Nat) (a0_0 : Int) (a0_1 : Bool) (a1_0 : Int) (a1_1 : Int) (a1_2 : Int) (l1_3 : List Int) (a2 : Int) : Option (List Int) := spec_l4Walk.l0 k a2 (([a1_0] : List Int)) a1_0 0 a0_0 a0_1 a1_0 a1_1 a1_2 l1_3
theorem spec_l4Walk.mono_l : ∀ k, (∀ y0 y1 y2 y3 y4 y5 y6 y7 y8 y9, LeO (spec_l4Walk.l0 k y0 y1 y2 y3 y4 y5 y6 y7 y8 y9) (spec_l4Walk.l0 (k + 1) y0 y1 y2 y3 y4 y5 y6 y7 y8 y9))
  | 0 => fun _ _ _ _ _ _ _ _ _ _ r h => by simp [spec_l4Walk.l0] at h
  | k + 1 => by
    have ih0 := spec_l4Walk.mono_l k
    · intro y0 y1 y2 y3 y4 y5 y6 y7 y8 y9
      unfold spec_l4Walk.l0
      repeat' first
      | (with_reducible exact ih0 _ _ _ _ _ _ _ _ _ _)
      | (with_reducible exact LeO.refl _)
      | (with_reducible exact LeO.none _)
      | (with_reducible refine LeO.ite ?_ ?_)
      | (with_reducible refine LeO.bind ?_ (fun _ => ?_))
      | exact ih0 _ _ _ _ _ _ _ _ _ _
      | exact LeO.none _
      | refine LeO.ite ?_ ?_
      | refine LeO.bind ?_ (fun _ => ?_)
theorem spec_l4Walk.mono : ∀ a0 a1 a2 a3 a4 a5 a6 k, LeO (spec_l4Walk.f k a0 a1 a2 a3 a4 a5 a6) (spec_l4Walk.f (k + 1) a0 a1 a2 a3 a4 a5 a6) := by
  intro a0 a1 a2 a3 a4 a5 a6 k
  have ih0 := spec_l4Walk.mono_l k
  unfold spec_l4Walk.f
  repeat' first
      | (with_reducible exact ih0 _ _ _ _ _ _ _ _ _ _)
      | (with_reducible exact LeO.refl _)
      | (with_reducible exact LeO.none _)
      | (with_reducible refine LeO.ite ?_ ?_)
      | (with_reducible refine LeO.bind ?_ (fun _ => ?_))
      | exact ih0 _ _ _ _ _ _ _ _ _ _
      | exact LeO.none _
      | refine LeO.ite ?_ ?_
      | refine LeO.bind ?_ (fun _ => ?_)
def spec_l4Walk.T6 : Bool × List (List Nat × List Nat) := (true, [([], []), ([0], [0]), ([], []), ([], []), ([3], [3]), ([2, 4], [2, 4]), ([], []), ([6], [6]), ([7], [7]), ([5, 8], [5, 8]), ([1, 9], [1, 9]), ([10], [10]), ([11, 0, 1, 2, 3, 4, 5, 6, 7, 8, 9, 10, 11], [11])])
def spec_l4Walk.B6 : List Nat := [0, 1, 0, 0, 8, 28, 0, 64, 192, 508, 1023, 2047, 4095]
theorem spec_l4Walk.tab6 : rtab .any (opsOf Try.f120 6) = spec_l4Walk.T6 := by kernel_rfl
theorem spec_l4Walk.bits6 : waitsOk spec_l4Walk.T6.2 spec_l4Walk.B6 = true := by kernel_rfl
set_option maxHeartbeats 8000000 in
set_option maxRecDepth 100000 in
theorem spec_l4Walk.calls (k : Nat) (a0_0 : Int) (a0_1 : Bool) (a1_0 : Int) (a1_1 : Int) (a1_2 : Int) (A1_3 : Option Addr) (c1_3 : Nat) (l1_3 : List Int) (a2 : Int) (r : List Int) (w : World) (hr1_3 : Kd.C (Kd.int .i64) w A1_3 l1_3.length l1_3) (hc1_3 : l1_3.length ≤ c1_3) (h : spec_l4Walk.f k a0_0 a0_1 a1_0 a1_1 a1_2 l1_3 a2 = some r) :
    Calls Try.prog 120 #[.agg #[.int .i64 a0_0, .bool a0_1], .agg #[.int .i64 a1_0, .int .i64 a1_1, .int .i64 a1_2, .slice A1_3 l1_3.length c1_3], .int .i64 a2] w fun e w' => ∃ v0_ : Value, e = .returned (v0_) ∧ Kd.R (Kd.int .i64) 3 w' w.heap.size (fun _ => True) v0_ r ∧ Below w.heap.size w w' := by
 have hu25 := Try.underlying25
 have hu93 := Try.underlying93
 have HR1_3 := A_ hr1_3
 have HC1_3 := A_ hc1_3
 clear hr1_3 hc1_3
 have HB := A_ (Below.refl w.heap.size w)
 have H : (spec_l4Walk.l0 k a2 (([a1_0] : List Int)) a1_0 0 a0_0 a0_1 a1_0 a1_1 a1_2 l1_3) = some r := h
 clear h
 obtain ⟨y349, hy349⟩ : ∃ y_ : List Int, y_ = (([a1_0] : List Int)) := ⟨_, rfl⟩
 replace H : (spec_l4Walk.l0 k a2 y349 a1_0 0 a0_0 a0_1 a1_0 a1_1 a1_2 l1_3) = some r := by first | (rw [hy349]; with_reducible exact H) | (have H2_ := (Option.bind_some _ _).symm.trans H; rw [hy349]; with_reducible exact H2_) | (have H2_ := (Option.bind_some _ _).symm.trans H; with_reducible exact H2_) | with_reducible exact H | (rw [hy349]; exact H) | exact H
 have Ny349 := A_ hy349
 clear hy349
 have H' := A_ H
 clear H
 go_enter Try.func120, Try.ntmps120
 try go_wp2_with (first | ((with_reducible refine gate_dst (N := 3) rfl ?_); refine box_event ?hg (N := 3) ?hd (cs := #[.int .i64 a0_0, .bool a0_1]) (t := 25) ?hr ?_; (case hd => rfl); (case hg => rfl); (case hr => first | (go_simp; done) | (go_simp; rfl)); intro gb347 hg w4 hbox hb; have n0_ := A_ (below_step (hq HB) hb); have n1_ := A_ (hbox); have n2_ := A_ ((by rw [hg]; exact (below_size (hq HB)) : w.heap.size ≤ gb347)); have n3_ := A_ ((by rw [hg]; exact (below_size (hq HB)) : w.heap.size ≤ gb347)); clear HB; have HB := n0_; have BK347 := n1_; have GW347 := n2_; have GE347 := n3_; clear n0_ n1_ n2_ n3_; clear hb hbox hg) | ((with_reducible refine gate_dst (N := 4) rfl ?_); refine box_event ?hg (N := 4) ?hd (cs := #[.int .i64 a1_0, .int .i64 a1_1, .int .i64 a1_2, .slice A1_3 l1_3.length c1_3]) (t := 93) ?hr ?_; (case hd => rfl); (case hg => rfl); (case hr => first | (go_simp; done) | (go_simp; rfl)); intro gb348 hg w5 hbox hb; have n0_ := A_ (blk_below (bq BK347) hb); have n1_ := A_ (below_step (hq HB) hb); have n2_ := A_ (hbox); have n3_ := A_ ((by rw [hg]; exact (below_size (hq HB)) : w.heap.size ≤ gb348)); have n4_ := A_ ((by rw [hg]; exact (below_size (hq HB)) : w.heap.size ≤ gb348)); have n5_ := A_ ((by rw [hg]; exact Nat.ne_of_lt (blk_lt (bq BK347)) : gb347 ≠ gb348)); have n6_ := A_ ((by rw [hg]; exact Nat.ne_of_gt (blk_lt (bq BK347)) : gb348 ≠ gb347)); clear BK347; clear HB; have BK347 := n0_; have HB := n1_; have BK348 := n2_; have GW348 := n3_; have GE348 := n4_; have NB347_348 := n5_; have NB348_347 := n6_; clear n0_ n1_ n2_ n3_ n4_ n5_ n6_; clear hb hbox hg))
 have n0_ := A_ (blk_drew BK347.out)
 have n1_ := A_ (blk_drew BK348.out)
 have n2_ := A_ (below_drew1 HB.out)
 clear BK347 BK348 HB; have BK347 := n0_; have BK348 := n1_; have HB := n2_; clear n0_ n1_ n2_
 refine start_ (n := 7) (S := fun w' => w'.cell? ⟨gb348, 0, none⟩ = some (.int .i64 a1_0) ∧ w'.cell? ⟨gb348, 1, none⟩ = some (.int .i64 a1_1) ∧ w'.cell? ⟨gb348, 2, none⟩ = some (.int .i64 a1_2) ∧ w'.cell? ⟨gb348, 3, none⟩ = some (.slice A1_3 l1_3.length c1_3)) (ds := []) #[false, false, false, false, false, false, false] (by kernel_rfl) rfl rfl ⟨bc BK348 0, bc BK348 1, bc BK348 2, bc BK348 3⟩ (fun hHeld => ?_)
 generalize w5.drew = w6 at BK347 BK348 HB hHeld ⊢
 refine pure_ (i := 0) (N := some 11) (v := ?_) (a' := ?_) #[true, false, false, false, false, false, false] rfl rfl (by kernel_rfl) (fun _ _ _ h => h) (Or.inl ⟨by rfl, ?_⟩) ?_ ?_
 rotate_left
 ·
  intro w'
  go_simp
  with_reducible rfl
 rotate_left
 ·
  simp only [Act.put, List.setIfInBounds_toArray, List.set_cons_zero, List.set_cons_succ, i64_w, i32_w]
  rfl
 refine pure_ (i := 3) (N := some 14) (v := ?_) (a' := ?_) #[true, false, false, true, false, false, false] rfl rfl (by kernel_rfl) (fun _ _ _ h => h) (Or.inl ⟨by rfl, ?_⟩) ?_ ?_
 rotate_left
 ·
  intro w'
  go_simp
  with_reducible rfl
 rotate_left
 ·
  simp only [Act.put, List.setIfInBounds_toArray, List.set_cons_zero, List.set_cons_succ, i64_w, i32_w]
  rfl
 refine take_ (i := 1) (N := some 12) (v := ?_) (a' := ?_) #[true, true, false, true, false, false, false] rfl rfl (by kernel_rfl) (fun _ _ _ h => h) (Or.inl ⟨by rfl, ?_⟩) hHeld ?_ ?_
 rotate_left
 ·
  rintro w' ⟨s0, s1, s2, s3⟩
  go_simp
  with_reducible rfl
 rotate_left
 ·
  simp only [Act.put, List.setIfInBounds_toArray, List.set_cons_zero, List.set_cons_succ, i64_w, i32_w]
  rfl
 refine take_ (i := 4) (N := some 15) (v := ?_) (a' := ?_) #[true, true, false, true, true, false, false] rfl rfl (by kernel_rfl) (fun _ _ _ h => h) (Or.inl ⟨by rfl, ?_⟩) hHeld ?_ ?_
 rotate_left
 ·
  rintro w' ⟨s0, s1, s2, s3⟩
  go_simp
  with_reducible rfl
 rotate_left
 ·
  simp only [Act.put, List.setIfInBounds_toArray, List.set_cons_zero, List.set_cons_succ, i64_w, i32_w]
  rfl
 refine one_ (i := 2) (N := some 13) #[true, true, true, true, true, false, false] rfl rfl (by kernel_rfl) (by decide) (fun K hK => ?_)
 refine Kd.R_lit_step (Kd.int .i64) _ 3 ?hg (N := 13) ?hd (xs := ([a1_0] : List Int)) (inner := [.int .i64 a1_0]) (ok := fun _ => True) (okp := fun _ => True) ?hr ?hp (fun _ hk => hk) trivial (Below.refl _ _) (Nat.le_refl _) (by simp) ?_; (case hd => rfl); (case hg => rfl); (case hr => first | (go_simp; done) | (go_simp; rfl)); (case hp => exact (Reps.one (show Kd.M (Kd.int .i64) _ _ _ a1_0 [.int .i64 a1_0] from rfl) (Reps.none _ _)))
 intro v350 w7 ho8 hb hg_ hnew_
 clear hg_ hnew_
 (first | rw [← Ny349.out] at ho8 | (simp only [Int.reduceToNat] at ho8; rw [← Ny349.out] at ho8))
 have n0_ := A_ (Kd.R_lower ho8 (below_size (hq HB)))
 have n1_ := A_ (blk_below (bq BK347) hb)
 have n2_ := A_ (blk_below (bq BK348) hb)
 have n3_ := A_ (below_step (hq HB) hb)
 clear BK347 BK348 HB; have HO351 := n0_; have BK347 := n1_; have BK348 := n2_; have HB := n3_; clear n0_ n1_ n2_ n3_ hb ho8
 refine hK.out _ _ ⟨bc BK348 0, bc BK348 1, bc BK348 2, bc BK348 3⟩ (fun hHeld => ?_)
 clear hK K
 refine norm_ (a' := ?_) ?_ ?_
 rotate_left
 ·
  exact pq (d := some 13)
 refine pure_ (i := 5) (N := some 7) (v := ?_) (a' := ?_) #[true, true, true, true, true, true, false] rfl rfl (by kernel_rfl) (fun _ _ _ h => h) (Or.inl ⟨by rfl, ?_⟩) ?_ ?_
 rotate_left
 ·
  intro w'
  go_simp
  with_reducible rfl
 rotate_left
 ·
  simp only [Act.put, List.setIfInBounds_toArray, List.set_cons_zero, List.set_cons_succ, i64_w, i32_w]
  rfl
 refine pure_ (i := 6) (N := some 8) (v := ?_) (a' := ?_) #[true, true, true, true, true, true, true] rfl rfl (by kernel_rfl) (fun _ _ _ h => h) (Or.inl ⟨by rfl, ?_⟩) ?_ ?_
 rotate_left
 ·
  intro w'
  go_simp
  with_reducible rfl
 rotate_left
 ·
  simp only [Act.put, List.setIfInBounds_toArray, List.set_cons_zero, List.set_cons_succ, i64_w, i32_w]
  rfl
 refine done_ (by kernel_rfl) ?_
 try go_wp2
 go_loopg [7, 8, 9] k (fun kq v7 v8 v9 w' => ∃ (x7_1 : List Int) (x8_1 : Int) (x9_1 : Int), v8 = .int .i64 x8_1 ∧ v9 = .int .i64 x9_1 ∧ Aside0 (spec_l4Walk.l0 kq a2 x7_1 x8_1 x9_1 a0_0 a0_1 a1_0 a1_1 a1_2 l1_3 = some r) ∧ Aside0 (kq ≤ k) ∧ Aside0 (Kd.R (Kd.int .i64) 3 w' w.heap.size (fun _ => True) v7 x7_1) ∧ Aside0 (w'.heap[gb347]? = some (.cells #[.int .i64 a0_0, .bool a0_1] 25 (0, 0))) ∧ Aside0 (w'.heap[gb348]? = some (.cells #[.int .i64 a1_0, .int .i64 a1_1, .int .i64 a1_2, (.slice A1_3 l1_3.length c1_3)] 93 (0, 0))) ∧ Aside0 (Below w.heap.size w w'))
 case atStart => exact ⟨(y349), (a1_0), (0), (by first | rfl | (simp; done) | (simp [*]; done)), (by first | rfl | (simp; done) | (simp [*]; done)), H', ⟨Nat.le_refl _⟩, ⟨rq HO351⟩, ⟨bq BK347⟩, ⟨bq BK348⟩, ⟨hq HB⟩⟩
 case round =>
  clear H'
  try clear c1
  try clear p2
  obtain ⟨x7_1, x8_1, x9_1, rfl, rfl, HA, HK1, HO_7, BK347, BK348, HB⟩ := hrel
  cases gk with
  | zero => exact absurd HA.out (by simp [spec_l4Walk.l0])
  | succ k1 =>
   have H := HA.out
   clear HA
   simp only [spec_l4Walk.l0] at H
   by_cases c9 : x9_1 < a2
   ·
    rw [if_pos c9] at H
    have c9b0 : decide (x9_1 < a2) = true := decide_eq_true c9
    clear c9
    by_cases c10 : x9_1 ≥ a1_2
    ·
     rw [if_pos c10] at H
     have c10b0 : decide (a1_2 ≤ x9_1) = true := decide_eq_true c10
     clear c10
     by_cases c11 : (l1_3.length : Int) = 0
     ·
      rw [if_pos c11] at H
      exact absurd H (by simp)
     ·
      rw [if_neg c11] at H
      have c11b0 : ((l1_3.length : Int) == 0) = false := beq_eq_false_iff_ne.mpr c11
      have c11b1 : ((l1_3.length : Int) != 0) = true := bne_iff_ne.mpr c11
      have c11b2 : ¬ (l1_3 = []) := fun h_ => c11 (by rw [h_]; rfl)
      obtain ⟨ji12, hji12⟩ : ∃ j_ : Int, (Int.tmod (wrap64 (x9_1 - a1_2)) (l1_3.length : Int)) = j_ := ⟨_, rfl⟩
      replace H : (if 0 ≤ (ji12) then (if (ji12) < (l1_3.length : Int) then (if (rd l1_3 (ji12)) = 0 then (if x7_1.length < 17592186044416 then (spec_l4Walk.l0 k1 a2 (x7_1 ++ [x8_1]) x8_1 (wrap64 (x9_1 + 1)) a0_0 a0_1 a1_0 a1_1 a1_2 l1_3) else (none)) else ((spec_l2Step.f a0_0 a0_1 x8_1 (wrap64 ((rd l1_3 (ji12)) * a1_1))).bind fun t356 => (if x7_1.length < 17592186044416 then (spec_l4Walk.l0 k1 a2 (x7_1 ++ [t356]) t356 (wrap64 (x9_1 + 1)) a0_0 a0_1 a1_0 a1_1 a1_2 l1_3) else (none)))) else (none)) else (none)) = some r := by first | (rw [hji12] at H; exact H) | (simp only [hji12] at H ⊢; exact H)
      by_cases c13 : 0 ≤ (ji12)
      ·
       rw [if_pos c13] at H
       have c13b0 : decide (0 ≤ (ji12)) = true := decide_eq_true c13
       clear c13
       by_cases c14 : (ji12) < (l1_3.length : Int)
       ·
        rw [if_pos c14] at H
        have c14b0 : decide ((ji12) < (l1_3.length : Int)) = true := decide_eq_true c14
        clear c14
        by_cases c15 : (rd l1_3 (ji12)) = 0
        ·
         rw [if_pos c15] at H
         have c15b0 : ((rd l1_3 (ji12)) == 0) = true := beq_iff_eq.mpr c15
         have c15b1 : ((rd l1_3 (ji12)) != 0) = false := bne_eq_false_iff_eq.mpr c15
         clear c15
         by_cases c16 : x7_1.length < 17592186044416
         ·
          rw [if_pos c16] at H
          have LMc16 := A_ c16
          clear c16
          obtain ⟨y353, hy353⟩ : ∃ y_ : List Int, y_ = (x7_1 ++ [x8_1]) := ⟨_, rfl⟩
          replace H : (spec_l4Walk.l0 k1 a2 y353 x8_1 (wrap64 (x9_1 + 1)) a0_0 a0_1 a1_0 a1_1 a1_2 l1_3) = some r := by first | (rw [hy353]; with_reducible exact H) | (have H2_ := (Option.bind_some _ _).symm.trans H; rw [hy353]; with_reducible exact H2_) | (have H2_ := (Option.bind_some _ _).symm.trans H; with_reducible exact H2_) | with_reducible exact H | (rw [hy353]; exact H) | exact H
          have Ny353 := A_ hy353
          clear hy353
          have H' := A_ H
          clear H
          have hnb17 := NB348_347.out
          have hnc17 := NB347_348.out
          have hcz18_0 : wr.cell? ⟨gb348, 0, none⟩ = some (.int .i64 a1_0) := bc BK348 0
          have hcz18_1 : wr.cell? ⟨gb348, 1, none⟩ = some (.int .i64 a1_1) := bc BK348 1
          have hcz18_2 : wr.cell? ⟨gb348, 2, none⟩ = some (.int .i64 a1_2) := bc BK348 2
          have hcz18_3 : wr.cell? ⟨gb348, 3, none⟩ = some (.slice A1_3 l1_3.length c1_3) := bc BK348 3
          have hfz18_0 := blk_frozen BK348.out 0
          have hfz18_1 := blk_frozen BK348.out 1
          have hfz18_2 := blk_frozen BK348.out 2
          have hfz18_3 := blk_frozen BK348.out 3
          try go_wp2
          have n0_ := A_ (Kd.R_drew HO_7.out)
          have n1_ := A_ (blk_drew BK347.out)
          have n2_ := A_ (blk_drew BK348.out)
          have n3_ := A_ (below_drew1 HB.out)
          clear HO_7 BK347 BK348 HB; have HO_7 := n0_; have BK347 := n1_; have BK348 := n2_; have HB := n3_; clear n0_ n1_ n2_ n3_
          have p352 : 0 ≤ ((ji12) : Int) := of_decide_eq_true (by first | (with_reducible assumption) | assumption)
          have q352 : (ji12) < (l1_3.length : Int) := of_decide_eq_true (by first | (with_reducible assumption) | assumption)
          obtain ⟨ad352, e352, hx352_0⟩ := Kd.at_int HR1_3.out (ji12) p352 q352
          have hw352_0 := hx352_0
          cases e352
          replace hx352_0 := (HB.out.cell (World.block_lt_of_cell? w _ hx352_0)).trans hx352_0
          replace p352 := eq_true p352
          replace q352 := eq_true q352
          refine start_ (n := 13) (S := fun w' => w'.cell? ⟨gb348, 0, none⟩ = some (.int .i64 a1_0) ∧ w'.cell? ⟨gb348, 1, none⟩ = some (.int .i64 a1_1) ∧ w'.cell? ⟨gb348, 2, none⟩ = some (.int .i64 a1_2) ∧ w'.cell? ⟨gb348, 3, none⟩ = some (.slice (some ad352) l1_3.length c1_3) ∧ w'.cell? (ad352.add ((ji12)).toNat) = some (.int .i64 (rd l1_3 (ji12)))) (ds := []) #[false, false, false, false, false, false, false, false, false, false, false, false, false] (by kernel_rfl) rfl rfl ⟨bc BK348 0, bc BK348 1, bc BK348 2, bc BK348 3, ((HB.out.cell (World.block_lt_of_cell? w _ hw352_0)).trans hw352_0)⟩ (fun hHeld => ?_); refine with_tabW spec_l4Walk.tab6 spec_l4Walk.bits6 (fun HT_ HW_ => ?_)
          generalize wr.drew = w19 at HO_7 BK347 BK348 HB hx352_0 hHeld ⊢
          refine pure_ (i := 0) (N := some 25) (v := ?_) (a' := ?_) #[true, false, false, false, false, false, false, false, false, false, false, false, false] rfl rfl (any_of HT_.out (by kernel_rfl)) (fun _ _ _ h => h) (Or.inl ⟨by rfl, ?_⟩) ?_ ?_
          rotate_left
          ·
           intro w'
           go_simp
           with_reducible rfl
          rotate_left
          ·
           simp only [Act.put, List.setIfInBounds_toArray, List.set_cons_zero, List.set_cons_succ, i64_w, i32_w]
           rfl
          refine pure_ (i := 2) (N := some 27) (v := ?_) (a' := ?_) #[true, false, true, false, false, false, false, false, false, false, false, false, false] rfl rfl (any_of HT_.out (by kernel_rfl)) (fun _ _ _ h => h) (Or.inl ⟨by rfl, ?_⟩) ?_ ?_
          rotate_left
          ·
           intro w'
           go_simp
           with_reducible rfl
          rotate_left
          ·
           simp only [Act.put, List.setIfInBounds_toArray, List.set_cons_zero, List.set_cons_succ, i64_w, i32_w]
           rfl
          refine pure_ (i := 3) (N := some 28) (v := ?_) (a' := ?_) #[true, false, true, true, false, false, false, false, false, false, false, false, false] rfl rfl (any_of HT_.out (by kernel_rfl)) (fun _ _ _ h => h) (Or.inl ⟨by rfl, ?_⟩) ?_ ?_
          rotate_left
          ·
           intro w'
           go_simp
           with_reducible rfl
          rotate_left
          ·
           simp only [Act.put, List.setIfInBounds_toArray, List.set_cons_zero, List.set_cons_succ, i64_w, i32_w]
           rfl
          refine pure_ (i := 6) (N := some 31) (v := ?_) (a' := ?_) #[true, false, true, true, false, false, true, false, false, false, false, false, false] rfl rfl (any_of HT_.out (by kernel_rfl)) (fun _ _ _ h => h) (Or.inl ⟨by rfl, ?_⟩) ?_ ?_
          rotate_left
          ·
           intro w'
           go_simp
           with_reducible rfl
          rotate_left
          ·
           simp only [Act.put, List.setIfInBounds_toArray, List.set_cons_zero, List.set_cons_succ, i64_w, i32_w]
           rfl
          refine take_ (i := 1) (N := some 26) (v := ?_) (a' := ?_) #[true, true, true, true, false, false, true, false, false, false, false, false, false] rfl rfl (take_ofW HT_.out HW_.out (by kernel_rfl)) (fun _ _ _ h => h) (Or.inl ⟨by rfl, ?_⟩) hHeld ?_ ?_
          rotate_left
          ·
           rintro w' ⟨s0, s1, s2, s3, s4⟩
           go_simp
           with_reducible rfl
          rotate_left
          ·
           simp only [Act.put, List.setIfInBounds_toArray, List.set_cons_zero, List.set_cons_succ, i64_w, i32_w]
           rfl
          refine take_ (i := 4) (N := some 29) (v := ?_) (a' := ?_) #[true, true, true, true, true, false, true, false, false, false, false, false, false] rfl rfl (take_ofW HT_.out HW_.out (by kernel_rfl)) (fun _ _ _ h => h) (Or.inl ⟨by rfl, ?_⟩) hHeld ?_ ?_
          rotate_left
          ·
           rintro w' ⟨s0, s1, s2, s3, s4⟩
           go_simp
           with_reducible rfl
          rotate_left
          ·
           simp only [Act.put, List.setIfInBounds_toArray, List.set_cons_zero, List.set_cons_succ, i64_w, i32_w]
           rfl
          refine pure_ (i := 5) (N := some 30) (v := ?_) (a' := ?_) #[true, true, true, true, true, true, true, false, false, false, false, false, false] rfl rfl (any_of HT_.out (by kernel_rfl)) (fun _ _ _ h => h) (Or.inl ⟨by rfl, ?_⟩) ?_ ?_
          rotate_left
          ·
           intro w'
           go_simp
           with_reducible rfl
          rotate_left
          ·
           simp only [Act.put, List.setIfInBounds_toArray, List.set_cons_zero, List.set_cons_succ, i64_w, i32_w]
           rfl
          refine take_ (i := 7) (N := some 32) (v := ?_) (a' := ?_) #[true, true, true, true, true, true, true, true, false, false, false, false, false] rfl rfl (take_ofW HT_.out HW_.out (by kernel_rfl)) (fun _ _ _ h => h) (Or.inl ⟨by rfl, ?_⟩) hHeld ?_ ?_
          rotate_left
          ·
           rintro w' ⟨s0, s1, s2, s3, s4⟩
           go_simp
           with_reducible rfl
          rotate_left
          ·
           simp only [Act.put, List.setIfInBounds_toArray, List.set_cons_zero, List.set_cons_succ, i64_w, i32_w]
           rfl
          refine pure_ (i := 8) (N := some 33) (v := ?_) (a' := ?_) #[true, true, true, true, true, true, true, true, true, false, false, false, false] rfl rfl (any_of HT_.out (by kernel_rfl)) (fun _ _ _ h => h) (Or.inl ⟨by rfl, ?_⟩) ?_ ?_
          rotate_left
          ·
           intro w'
           go_simp
           with_reducible rfl
          rotate_left
          ·
           simp only [Act.put, List.setIfInBounds_toArray, List.set_cons_zero, List.set_cons_succ, i64_w, i32_w]
           rfl
          refine pure_ (i := 9) (N := some 34) (v := ?_) (a' := ?_) #[true, true, true, true, true, true, true, true, true, true, false, false, false] rfl rfl (any_of HT_.out (by kernel_rfl)) (fun _ _ _ h => h) (Or.inl ⟨by rfl, ?_⟩) ?_ ?_
          rotate_left
          ·
           intro w'
           go_simp
           with_reducible rfl
          rotate_left
          ·
           simp only [Act.put, List.setIfInBounds_toArray, List.set_cons_zero, List.set_cons_succ, i64_w, i32_w]
           rfl
          refine pure_ (i := 10) (N := some 35) (v := ?_) (a' := ?_) #[true, true, true, true, true, true, true, true, true, true, true, false, false] rfl rfl (any_of HT_.out (by kernel_rfl)) (fun _ _ _ h => h) (Or.inl ⟨by rfl, ?_⟩) ?_ ?_
          rotate_left
          ·
           intro w'
           go_simp
           with_reducible rfl
          rotate_left
          ·
           simp only [Act.put, List.setIfInBounds_toArray, List.set_cons_zero, List.set_cons_succ, i64_w, i32_w]
           rfl
          refine take_ (i := 11) (N := some 36) (v := ?_) (a' := ?_) #[true, true, true, true, true, true, true, true, true, true, true, true, false] rfl rfl (take_ofW HT_.out HW_.out (by kernel_rfl)) (fun _ _ _ h => h) (Or.inl ⟨by rfl, ?_⟩) hHeld ?_ ?_
          rotate_left
          ·
           rintro w' ⟨s0, s1, s2, s3, s4⟩
           go_simp
           with_reducible rfl
          rotate_left
          ·
           simp only [Act.put, List.setIfInBounds_toArray, List.set_cons_zero, List.set_cons_succ, i64_w, i32_w]
           rfl
          refine pure_ (i := 12) (N := some 10) (v := ?_) (a' := ?_) #[true, true, true, true, true, true, true, true, true, true, true, true, true] rfl rfl (any_of HT_.out (by kernel_rfl)) (fun _ _ _ h => h) (Or.inl ⟨by rfl, ?_⟩) ?_ ?_
          rotate_left
          ·
           intro w'
           go_simp
           with_reducible rfl
          rotate_left
          ·
           simp only [Act.put, List.setIfInBounds_toArray, List.set_cons_zero, List.set_cons_succ, i64_w, i32_w]
           rfl
          refine done_ (done_of HT_.out (by kernel_rfl)) ?_
          try go_wp2_with (first | ((with_reducible refine gate_builtin (b := .append) (xs := #[.tmp 46, .tmp 48]) rfl ?_); at_builtin; refine Kd.R_append (Kd.int .i64) (w0 := w) w.heap.size rfl (.tmp 46) (.tmp 48) 26 3 (.int .i64 0) 8 rfl Try.underlying26 info3 rfl (by decide) (by omega) u7 x7_1 x8_1 [.int .i64 x8_1] (fun _ => True) (fun _ => False) rfl rfl ?aP (fun _ hk => hk.elim) ?aF ?aO ?aB ?aS ?aL ?_; (case aP => exact rfl); (case aB => exact (hq HB)); (case aF => exact (fun _ _ => trivial)); (case aO => exact (rq HO_7)); (case aS => exact (below_size (hq HB))); (case aL => have := LMc16.out; omega); intro v354 w20 ho hb hg hat; rw [← Ny353.out] at ho; have n0_ := A_ (blk_grown (g := gb347) (o := .cells #[.int .i64 a0_0, .bool a0_1] 25 (0, 0)) (bq BK347) hg (Kd.R_ne HO_7.out BK347.out (by decide))); have n1_ := A_ (blk_grown (g := gb348) (o := .cells #[.int .i64 a1_0, .int .i64 a1_1, .int .i64 a1_2, .slice (some ad352) l1_3.length c1_3] 93 (0, 0)) (bq BK348) hg (Kd.R_ne HO_7.out BK348.out (by decide))); have n2_ := A_ (hb); have n3_ := A_ (ho); clear BK347; clear BK348; clear HB; clear HO_7; have BK347 := n0_; have BK348 := n1_; have HB := n2_; have HO355 := n3_; clear n0_ n1_ n2_ n3_; clear ho hb hg hat))
          go_roundg k1
          case measure => have := HK1.out; omega
          case rel => exact ⟨(y353), (x8_1), (wrap64 (x9_1 + 1)), (by first | rfl | (simp; done) | (simp [*]; done)), (by first | rfl | (simp; done) | (simp [*]; done)), H', ⟨by have := HK1.out; omega⟩, ⟨rq HO355⟩, ⟨bq BK347⟩, ⟨bq BK348⟩, ⟨hq HB⟩⟩
         ·
          rw [if_neg c16] at H
          exact absurd H (by simp)
        ·
         rw [if_neg c15] at H
         have c15b0 : ((rd l1_3 (ji12)) == 0) = false := beq_eq_false_iff_ne.mpr c15
         have c15b1 : ((rd l1_3 (ji12)) != 0) = true := bne_iff_ne.mpr c15
         replace H := Option.bind_eq_some_iff.mp H
         obtain ⟨t356, A210, H⟩ := H
         replace H : (if x7_1.length < 17592186044416 then (spec_l4Walk.l0 k1 a2 (x7_1 ++ [t356]) t356 (wrap64 (x9_1 + 1)) a0_0 a0_1 a1_0 a1_1 a1_2 l1_3) else (none)) = some r := H
         have A21 := A_ A210
         clear A210
         by_cases c22 : x7_1.length < 17592186044416
         ·
          rw [if_pos c22] at H
          have LMc22 := A_ c22
          clear c22
          obtain ⟨y357, hy357⟩ : ∃ y_ : List Int, y_ = (x7_1 ++ [t356]) := ⟨_, rfl⟩
          replace H : (spec_l4Walk.l0 k1 a2 y357 t356 (wrap64 (x9_1 + 1)) a0_0 a0_1 a1_0 a1_1 a1_2 l1_3) = some r := by first | (rw [hy357]; with_reducible exact H) | (have H2_ := (Option.bind_some _ _).symm.trans H; rw [hy357]; with_reducible exact H2_) | (have H2_ := (Option.bind_some _ _).symm.trans H; with_reducible exact H2_) | with_reducible exact H | (rw [hy357]; exact H) | exact H
          have Ny357 := A_ hy357
          clear hy357
          have H' := A_ H
          clear H
          have hnb23 := NB348_347.out
          have hnc23 := NB347_348.out
          have hcz24_0 : wr.cell? ⟨gb348, 0, none⟩ = some (.int .i64 a1_0) := bc BK348 0
          have hcz24_1 : wr.cell? ⟨gb348, 1, none⟩ = some (.int .i64 a1_1) := bc BK348 1
          have hcz24_2 : wr.cell? ⟨gb348, 2, none⟩ = some (.int .i64 a1_2) := bc BK348 2
          have hcz24_3 : wr.cell? ⟨gb348, 3, none⟩ = some (.slice A1_3 l1_3.length c1_3) := bc BK348 3
          have hfz24_0 := blk_frozen BK348.out 0
          have hfz24_1 := blk_frozen BK348.out 1
          have hfz24_2 := blk_frozen BK348.out 2
          have hfz24_3 := blk_frozen BK348.out 3
          try go_wp2
          have n0_ := A_ (Kd.R_drew HO_7.out)
          have n1_ := A_ (blk_drew BK347.out)
          have n2_ := A_ (blk_drew BK348.out)
          have n3_ := A_ (below_drew1 HB.out)
          clear HO_7 BK347 BK348 HB; have HO_7 := n0_; have BK347 := n1_; have BK348 := n2_; have HB := n3_; clear n0_ n1_ n2_ n3_
          have p352 : 0 ≤ ((ji12) : Int) := of_decide_eq_true (by first | (with_reducible assumption) | assumption)
          have q352 : (ji12) < (l1_3.length : Int) := of_decide_eq_true (by first | (with_reducible assumption) | assumption)
          obtain ⟨ad352, e352, hx352_0⟩ := Kd.at_int HR1_3.out (ji12) p352 q352
          have hw352_0 := hx352_0
          cases e352
          replace hx352_0 := (HB.out.cell (World.block_lt_of_cell? w _ hx352_0)).trans hx352_0
          replace p352 := eq_true p352
          replace q352 := eq_true q352
          refine start_ (n := 13) (S := fun w' => w'.cell? ⟨gb348, 0, none⟩ = some (.int .i64 a1_0) ∧ w'.cell? ⟨gb348, 1, none⟩ = some (.int .i64 a1_1) ∧ w'.cell? ⟨gb348, 2, none⟩ = some (.int .i64 a1_2) ∧ w'.cell? ⟨gb348, 3, none⟩ = some (.slice (some ad352) l1_3.length c1_3) ∧ w'.cell? (ad352.add ((ji12)).toNat) = some (.int .i64 (rd l1_3 (ji12)))) (ds := []) #[false, false, false, false, false, false, false, false, false, false, false, false, false] (by kernel_rfl) rfl rfl ⟨bc BK348 0, bc BK348 1, bc BK348 2, bc BK348 3, ((HB.out.cell (World.block_lt_of_cell? w _ hw352_0)).trans hw352_0)⟩ (fun hHeld => ?_); refine with_tabW spec_l4Walk.tab6 spec_l4Walk.bits6 (fun HT_ HW_ => ?_)
          generalize wr.drew = w25 at HO_7 BK347 BK348 HB hx352_0 hHeld ⊢
          refine pure_ (i := 0) (N := some 25) (v := ?_) (a' := ?_) #[true, false, false, false, false, false, false, false, false, false, false, false, false] rfl rfl (any_of HT_.out (by kernel_rfl)) (fun _ _ _ h => h) (Or.inl ⟨by rfl, ?_⟩) ?_ ?_
          rotate_left
          ·
           intro w'
           go_simp
           with_reducible rfl
          rotate_left
          ·
           simp only [Act.put, List.setIfInBounds_toArray, List.set_cons_zero, List.set_cons_succ, i64_w, i32_w]
           rfl
          refine pure_ (i := 2) (N := some 27) (v := ?_) (a' := ?_) #[true, false, true, false, false, false, false, false, false, false, false, false, false] rfl rfl (any_of HT_.out (by kernel_rfl)) (fun _ _ _ h => h) (Or.inl ⟨by rfl, ?_⟩) ?_ ?_
          rotate_left
          ·
           intro w'
           go_simp
           with_reducible rfl
          rotate_left
          ·
           simp only [Act.put, List.setIfInBounds_toArray, List.set_cons_zero, List.set_cons_succ, i64_w, i32_w]
           rfl
          refine pure_ (i := 3) (N := some 28) (v := ?_) (a' := ?_) #[true, false, true, true, false, false, false, false, false, false, false, false, false] rfl rfl (any_of HT_.out (by kernel_rfl)) (fun _ _ _ h => h) (Or.inl ⟨by rfl, ?_⟩) ?_ ?_
          rotate_left
          ·
           intro w'
           go_simp
           with_reducible rfl
          rotate_left
          ·
           simp only [Act.put, List.setIfInBounds_toArray, List.set_cons_zero, List.set_cons_succ, i64_w, i32_w]
           rfl
          refine pure_ (i := 6) (N := some 31) (v := ?_) (a' := ?_) #[true, false, true, true, false, false, true, false, false, false, false, false, false] rfl rfl (any_of HT_.out (by kernel_rfl)) (fun _ _ _ h => h) (Or.inl ⟨by rfl, ?_⟩) ?_ ?_
          rotate_left
          ·
           intro w'
           go_simp
           with_reducible rfl
          rotate_left
          ·
           simp only [Act.put, List.setIfInBounds_toArray, List.set_cons_zero, List.set_cons_succ, i64_w, i32_w]
           rfl
          refine take_ (i := 1) (N := some 26) (v := ?_) (a' := ?_) #[true, true, true, true, false, false, true, false, false, false, false, false, false] rfl rfl (take_ofW HT_.out HW_.out (by kernel_rfl)) (fun _ _ _ h => h) (Or.inl ⟨by rfl, ?_⟩) hHeld ?_ ?_
          rotate_left
          ·
           rintro w' ⟨s0, s1, s2, s3, s4⟩
           go_simp
           with_reducible rfl
          rotate_left
          ·
           simp only [Act.put, List.setIfInBounds_toArray, List.set_cons_zero, List.set_cons_succ, i64_w, i32_w]
           rfl
          refine take_ (i := 4) (N := some 29) (v := ?_) (a' := ?_) #[true, true, true, true, true, false, true, false, false, false, false, false, false] rfl rfl (take_ofW HT_.out HW_.out (by kernel_rfl)) (fun _ _ _ h => h) (Or.inl ⟨by rfl, ?_⟩) hHeld ?_ ?_
          rotate_left
          ·
           rintro w' ⟨s0, s1, s2, s3, s4⟩
           go_simp
           with_reducible rfl
          rotate_left
          ·
           simp only [Act.put, List.setIfInBounds_toArray, List.set_cons_zero, List.set_cons_succ, i64_w, i32_w]
           rfl
          refine pure_ (i := 5) (N := some 30) (v := ?_) (a' := ?_) #[true, true, true, true, true, true, true, false, false, false, false, false, false] rfl rfl (any_of HT_.out (by kernel_rfl)) (fun _ _ _ h => h) (Or.inl ⟨by rfl, ?_⟩) ?_ ?_
          rotate_left
          ·
           intro w'
           go_simp
           with_reducible rfl
          rotate_left
          ·
           simp only [Act.put, List.setIfInBounds_toArray, List.set_cons_zero, List.set_cons_succ, i64_w, i32_w]
           rfl
          refine take_ (i := 7) (N := some 32) (v := ?_) (a' := ?_) #[true, true, true, true, true, true, true, true, false, false, false, false, false] rfl rfl (take_ofW HT_.out HW_.out (by kernel_rfl)) (fun _ _ _ h => h) (Or.inl ⟨by rfl, ?_⟩) hHeld ?_ ?_
          rotate_left
          ·
           rintro w' ⟨s0, s1, s2, s3, s4⟩
           go_simp
           with_reducible rfl
          rotate_left
          ·
           simp only [Act.put, List.setIfInBounds_toArray, List.set_cons_zero, List.set_cons_succ, i64_w, i32_w]
           rfl
          refine pure_ (i := 8) (N := some 33) (v := ?_) (a' := ?_) #[true, true, true, true, true, true, true, true, true, false, false, false, false] rfl rfl (any_of HT_.out (by kernel_rfl)) (fun _ _ _ h => h) (Or.inl ⟨by rfl, ?_⟩) ?_ ?_
          rotate_left
          ·
           intro w'
           go_simp
           with_reducible rfl
          rotate_left
          ·
           simp only [Act.put, List.setIfInBounds_toArray, List.set_cons_zero, List.set_cons_succ, i64_w, i32_w]
           rfl
          refine pure_ (i := 9) (N := some 34) (v := ?_) (a' := ?_) #[true, true, true, true, true, true, true, true, true, true, false, false, false] rfl rfl (any_of HT_.out (by kernel_rfl)) (fun _ _ _ h => h) (Or.inl ⟨by rfl, ?_⟩) ?_ ?_
          rotate_left
          ·
           intro w'
           go_simp
           with_reducible rfl
          rotate_left
          ·
           simp only [Act.put, List.setIfInBounds_toArray, List.set_cons_zero, List.set_cons_succ, i64_w, i32_w]
           rfl
          refine pure_ (i := 10) (N := some 35) (v := ?_) (a' := ?_) #[true, true, true, true, true, true, true, true, true, true, true, false, false] rfl rfl (any_of HT_.out (by kernel_rfl)) (fun _ _ _ h => h) (Or.inl ⟨by rfl, ?_⟩) ?_ ?_
          rotate_left
          ·
           intro w'
           go_simp
           with_reducible rfl
          rotate_left
          ·
           simp only [Act.put, List.setIfInBounds_toArray, List.set_cons_zero, List.set_cons_succ, i64_w, i32_w]
           rfl
          refine take_ (i := 11) (N := some 36) (v := ?_) (a' := ?_) #[true, true, true, true, true, true, true, true, true, true, true, true, false] rfl rfl (take_ofW HT_.out HW_.out (by kernel_rfl)) (fun _ _ _ h => h) (Or.inl ⟨by rfl, ?_⟩) hHeld ?_ ?_
          rotate_left
          ·
           rintro w' ⟨s0, s1, s2, s3, s4⟩
           go_simp
           with_reducible rfl
          rotate_left
          ·
           simp only [Act.put, List.setIfInBounds_toArray, List.set_cons_zero, List.set_cons_succ, i64_w, i32_w]
           rfl
          refine pure_ (i := 12) (N := some 10) (v := ?_) (a' := ?_) #[true, true, true, true, true, true, true, true, true, true, true, true, true] rfl rfl (any_of HT_.out (by kernel_rfl)) (fun _ _ _ h => h) (Or.inl ⟨by rfl, ?_⟩) ?_ ?_
          rotate_left
          ·
           intro w'
           go_simp
           with_reducible rfl
          rotate_left
          ·
           simp only [Act.put, List.setIfInBounds_toArray, List.set_cons_zero, List.set_cons_succ, i64_w, i32_w]
           rfl
          refine done_ (done_of HT_.out (by kernel_rfl)) ?_
          have hcz26_0 : w25.cell? ⟨gb347, 0, none⟩ = some (.int .i64 a0_0) := bc BK347 0
          have hcz26_1 : w25.cell? ⟨gb347, 1, none⟩ = some (.bool a0_1) := bc BK347 1
          have hfz26_0 := blk_frozen BK347.out 0
          have hfz26_1 := blk_frozen BK347.out 1
          have hcz27_0 : w25.cell? ⟨gb348, 0, none⟩ = some (.int .i64 a1_0) := bc BK348 0
          have hcz27_1 : w25.cell? ⟨gb348, 1, none⟩ = some (.int .i64 a1_1) := bc BK348 1
          have hcz27_2 : w25.cell? ⟨gb348, 2, none⟩ = some (.int .i64 a1_2) := bc BK348 2
          have hcz27_3 : w25.cell? ⟨gb348, 3, none⟩ = some (.slice (some ad352) l1_3.length c1_3) := bc BK348 3
          have hfz27_0 := blk_frozen BK348.out 0
          have hfz27_1 := blk_frozen BK348.out 1
          have hfz27_2 := blk_frozen BK348.out 2
          have hfz27_3 := blk_frozen BK348.out 3
          try go_wp2_with (first | ((with_reducible refine gate_callee (f := 104) rfl ?_); refine goesL_ (some 45) rfl rfl Try.func104 (by kernel_rfl) rfl #[.agg #[.int .i64 a0_0, .bool a0_1], .int .i64 x8_1, .int .i64 (wrap64 ((rd l1_3 (ji12)) * a1_1))] rfl (by (try simp only [List.map_toArray, List.map_cons, List.map_nil]); first | done | (simp only [hji12]; rfl) | rfl | (simp only [List.length_drop, List.length_take]; rfl)) ?_; (with_reducible refine (spec_l2Step.calls a0_0 a0_1 x8_1 (wrap64 ((rd l1_3 (ji12)) * a1_1)) t356 _ A21.out).mono ?_); rintro e w28 ⟨rfl, hb⟩; refine ⟨_, rfl, ?_⟩; have n0_ := A_ (Kd.R_below (rq HO_7) hb); have n1_ := A_ (blk_below (bq BK347) hb); have n2_ := A_ (blk_below (bq BK348) hb); have n3_ := A_ (below_step (hq HB) hb); clear HO_7; clear BK347; clear BK348; clear HB; have HO_7 := n0_; have BK347 := n1_; have BK348 := n2_; have HB := n3_; clear n0_ n1_ n2_ n3_; (try clear hb); (try clear hb2); (try clear hk); (try clear hi)) | ((with_reducible refine gate_builtin (b := .append) (xs := #[.tmp 46, .tmp 48]) rfl ?_); at_builtin; refine Kd.R_append (Kd.int .i64) (w0 := w) w.heap.size rfl (.tmp 46) (.tmp 48) 26 3 (.int .i64 0) 8 rfl Try.underlying26 info3 rfl (by decide) (by omega) u7 x7_1 t356 [.int .i64 t356] (fun _ => True) (fun _ => False) rfl rfl ?aP (fun _ hk => hk.elim) ?aF ?aO ?aB ?aS ?aL ?_; (case aP => exact rfl); (case aB => exact (hq HB)); (case aF => exact (fun _ _ => trivial)); (case aO => exact (rq HO_7)); (case aS => exact (below_size (hq HB))); (case aL => have := LMc22.out; omega); intro v358 w29 ho hb hg hat; rw [← Ny357.out] at ho; have n0_ := A_ (blk_grown (g := gb347) (o := .cells #[.int .i64 a0_0, .bool a0_1] 25 (0, 0)) (bq BK347) hg (Kd.R_ne HO_7.out BK347.out (by decide))); have n1_ := A_ (blk_grown (g := gb348) (o := .cells #[.int .i64 a1_0, .int .i64 a1_1, .int .i64 a1_2, .slice (some ad352) l1_3.length c1_3] 93 (0, 0)) (bq BK348) hg (Kd.R_ne HO_7.out BK348.out (by decide))); have n2_ := A_ (hb); have n3_ := A_ (ho); clear BK347; clear BK348; clear HB; clear HO_7; have BK347 := n0_; have BK348 := n1_; have HB := n2_; have HO359 := n3_; clear n0_ n1_ n2_ n3_; clear ho hb hg hat))
          go_roundg k1
          case measure => have := HK1.out; omega
          case rel => exact ⟨(y357), (t356), (wrap64 (x9_1 + 1)), (by first | rfl | (simp; done) | (simp [*]; done)), (by first | rfl | (simp; done) | (simp [*]; done)), H', ⟨by have := HK1.out; omega⟩, ⟨rq HO359⟩, ⟨bq BK347⟩, ⟨bq BK348⟩, ⟨hq HB⟩⟩
         ·
          rw [if_neg c22] at H
          exact absurd H (by simp)
       ·
        rw [if_neg c14] at H
        exact absurd H (by simp)
      ·
       rw [if_neg c13] at H
       exact absurd H (by simp)
    ·
     rw [if_neg c10] at H
     have c10b0 : decide (a1_2 ≤ x9_1) = false := decide_eq_false c10
     clear c10
     by_cases c30 : x7_1.length < 17592186044416
     ·
      rw [if_pos c30] at H
      have LMc30 := A_ c30
      clear c30
      obtain ⟨y360, hy360⟩ : ∃ y_ : List Int, y_ = (x7_1 ++ [x8_1]) := ⟨_, rfl⟩
      replace H : (spec_l4Walk.l0 k1 a2 y360 x8_1 (wrap64 (x9_1 + 1)) a0_0 a0_1 a1_0 a1_1 a1_2 l1_3) = some r := by first | (rw [hy360]; with_reducible exact H) | (have H2_ := (Option.bind_some _ _).symm.trans H; rw [hy360]; with_reducible exact H2_) | (have H2_ := (Option.bind_some _ _).symm.trans H; with_reducible exact H2_) | with_reducible exact H | (rw [hy360]; exact H) | exact H
      have Ny360 := A_ hy360
      clear hy360
      have H' := A_ H
      clear H
      have hnb31 := NB348_347.out
      have hnc31 := NB347_348.out
      have hcz32_0 : wr.cell? ⟨gb348, 0, none⟩ = some (.int .i64 a1_0) := bc BK348 0
      have hcz32_1 : wr.cell? ⟨gb348, 1, none⟩ = some (.int .i64 a1_1) := bc BK348 1
      have hcz32_2 : wr.cell? ⟨gb348, 2, none⟩ = some (.int .i64 a1_2) := bc BK348 2
      have hcz32_3 : wr.cell? ⟨gb348, 3, none⟩ = some (.slice A1_3 l1_3.length c1_3) := bc BK348 3
      have hfz32_0 := blk_frozen BK348.out 0
      have hfz32_1 := blk_frozen BK348.out 1
      have hfz32_2 := blk_frozen BK348.out 2
      have hfz32_3 := blk_frozen BK348.out 3
      go_wp2_with (first | ((with_reducible refine gate_builtin (b := .append) (xs := #[.tmp 46, .tmp 48]) rfl ?_); at_builtin; refine Kd.R_append (Kd.int .i64) (w0 := w) w.heap.size rfl (.tmp 46) (.tmp 48) 26 3 (.int .i64 0) 8 rfl Try.underlying26 info3 rfl (by decide) (by omega) u7 x7_1 x8_1 [.int .i64 x8_1] (fun _ => True) (fun _ => False) rfl rfl ?aP (fun _ hk => hk.elim) ?aF ?aO ?aB ?aS ?aL ?_; (case aP => exact rfl); (case aB => exact (hq HB)); (case aF => exact (fun _ _ => trivial)); (case aO => exact (rq HO_7)); (case aS => exact (below_size (hq HB))); (case aL => have := LMc30.out; omega); intro v361 w33 ho hb hg hat; rw [← Ny360.out] at ho; have n0_ := A_ (blk_grown (g := gb347) (o := .cells #[.int .i64 a0_0, .bool a0_1] 25 (0, 0)) (bq BK347) hg (Kd.R_ne HO_7.out BK347.out (by decide))); have n1_ := A_ (blk_grown (g := gb348) (o := .cells #[.int .i64 a1_0, .int .i64 a1_1, .int .i64 a1_2, .slice A1_3 l1_3.length c1_3] 93 (0, 0)) (bq BK348) hg (Kd.R_ne HO_7.out BK348.out (by decide))); have n2_ := A_ (hb); have n3_ := A_ (ho); clear BK347; clear BK348; clear HB; clear HO_7; have BK347 := n0_; have BK348 := n1_; have HB := n2_; have HO362 := n3_; clear n0_ n1_ n2_ n3_; clear ho hb hg hat))
      go_roundg k1
      case measure => have := HK1.out; omega
      case rel => exact ⟨(y360), (x8_1), (wrap64 (x9_1 + 1)), (by first | rfl | (simp; done) | (simp [*]; done)), (by first | rfl | (simp; done) | (simp [*]; done)), H', ⟨by have := HK1.out; omega⟩, ⟨rq HO362⟩, ⟨bq BK347⟩, ⟨bq BK348⟩, ⟨hq HB⟩⟩
     ·
      rw [if_neg c30] at H
      exact absurd H (by simp)
   ·
    rw [if_neg c9] at H
    have c9b0 : decide (x9_1 < a2) = false := decide_eq_false c9
    clear c9
    obtain rfl := Option.some.inj H
    go_wp2
    go_ret
    exact ⟨_, rt, rq HO_7, hq HB⟩

/-! ### spec_l4At: function 121 -/
def spec_l4At.f (a0_0 : Int) (a0_1 : Int) (a0_2 : Int) (l0_3 : List Int) (a1 : Int) : Option (Int × Int × Int × List Int) := some (a1, a0_1, a0_2, l0_3)
set_option maxHeartbeats 8000000 in
set_option maxRecDepth 100000 in
theorem spec_l4At.calls (a0_0 : Int) (a0_1 : Int) (a0_2 : Int) (P0_3_ : Nat → Prop) (A0_3 : Option Addr) (c0_3 : Nat) (l0_3 : List Int) (a1 : Int) (r1 : Int) (r2 : Int) (r3 : Int) (r4 : List Int) (w : World) (hs0_3 : Kd.V (Kd.int .i64) 3 w w.heap.size (fun k_ => P0_3_ k_) (.slice A0_3 l0_3.length c0_3) l0_3) (h : spec_l4At.f a0_0 a0_1 a0_2 l0_3 a1 = some (r1, r2, r3, r4)) :
    Calls Try.prog 121 #[.agg #[.int .i64 a0_0, .int .i64 a0_1, .int .i64 a0_2, .slice A0_3 l0_3.length c0_3], .int .i64 a1] w fun e w' => ∃ v3_ : Value, e = .returned (.agg #[.int .i64 r1, .int .i64 r2, .int .i64 r3, v3_]) ∧ Kd.V (Kd.int .i64) 3 w' w.heap.size (fun k_ => (P0_3_ k_ ∨ w.heap.size ≤ k_)) v3_ r4 ∧ Below w.heap.size w w' := by
 have hu93 := Try.underlying93
 have HO0_3 := A_ (show Kd.V (Kd.int .i64) 3 w w.heap.size (fun k_ => (P0_3_ k_ ∨ w.heap.size ≤ k_)) (.slice A0_3 l0_3.length c0_3) l0_3 from Kd.V_mono hs0_3 (fun k_ hk => .inl hk))
 have HB := A_ (Below.refl w.heap.size w)
 have H : (some (a1, a0_1, a0_2, l0_3)) = some (r1, r2, r3, r4) := h
 clear h
 simp only [Option.some.injEq, Prod.mk.injEq] at H
 obtain ⟨rfl, rfl, rfl, rfl⟩ := H
 go_enter Try.func121, Try.ntmps121
 go_wp2_with (first | ((with_reducible refine gate_dst (N := 2) rfl ?_); refine box_event ?hg (N := 2) ?hd (cs := #[.int .i64 a0_0, .int .i64 a0_1, .int .i64 a0_2, .slice A0_3 l0_3.length c0_3]) (t := 93) ?hr ?_; (case hd => rfl); (case hg => rfl); (case hr => first | (go_simp; done) | (go_simp; rfl)); intro gb363 hg w3 hbox hb; have n0_ := A_ (Kd.V_below (Kd.V_elderB (vq HO0_3) gb363 (Nat.le_of_eq hg.symm)) hb); have n1_ := A_ (below_step (hq HB) hb); have n2_ := A_ (hbox); have n3_ := A_ ((by rw [hg]; exact (below_size (hq HB)) : w.heap.size ≤ gb363)); have n4_ := A_ ((by rw [hg]; exact (below_size (hq HB)) : w.heap.size ≤ gb363)); clear HO0_3; clear HB; have HO0_3 := n0_; have HB := n1_; have BK363 := n2_; have GW363 := n3_; have GE363 := n4_; clear n0_ n1_ n2_ n3_ n4_; clear hb hbox hg) | ((with_reducible refine gate_dst (N := 4) rfl ?_); refine box_event ?hg (N := 4) ?hd (cs := #[.int .i64 0, .int .i64 0, .int .i64 0, .slice none 0 0]) (t := 93) ?hr ?_; (case hd => rfl); (case hg => rfl); (case hr => first | (go_simp; done) | (go_simp; rfl)); intro gb364 hg w4 hbox hb; have n0_ := A_ (Kd.V_below (Kd.V_elderB (vq HO0_3) gb364 (Nat.le_of_eq hg.symm)) hb); have n1_ := A_ (blk_below (bq BK363) hb); have n2_ := A_ (below_step (hq HB) hb); have n3_ := A_ (hbox); have n4_ := A_ ((by rw [hg]; exact (below_size (hq HB)) : w.heap.size ≤ gb364)); have n5_ := A_ ((by rw [hg]; exact (below_size (hq HB)) : w.heap.size ≤ gb364)); have n6_ := A_ ((by rw [hg]; exact Nat.ne_of_lt (blk_lt (bq BK363)) : gb363 ≠ gb364)); have n7_ := A_ ((by rw [hg]; exact Nat.ne_of_gt (blk_lt (bq BK363)) : gb364 ≠ gb363)); clear HO0_3; clear BK363; clear HB; have HO0_3 := n0_; have BK363 := n1_; have HB := n2_; have BK364 := n3_; have GW364 := n4_; have GE364 := n5_; have NB363_364 := n6_; have NB364_363 := n7_; clear n0_ n1_ n2_ n3_ n4_ n5_ n6_ n7_; clear hb hbox hg; have hnb5 := NB363_364.out; have hnc5 := NB364_363.out; have hcz6_0 : w4.cell? ⟨gb363, 0, none⟩ = some (.int .i64 a0_0) := bc BK363 0; have hcz6_1 : w4.cell? ⟨gb363, 1, none⟩ = some (.int .i64 a0_1) := bc BK363 1; have hcz6_2 : w4.cell? ⟨gb363, 2, none⟩ = some (.int .i64 a0_2) := bc BK363 2; have hcz6_3 : w4.cell? ⟨gb363, 3, none⟩ = some (.slice A0_3 l0_3.length c0_3) := bc BK363 3; have hfz6_0 := blk_frozen BK363.out 0; have hfz6_1 := blk_frozen BK363.out 1; have hfz6_2 := blk_frozen BK363.out 2; have hfz6_3 := blk_frozen BK363.out 3; have hcz7_0 : w4.cell? ⟨gb364, 0, none⟩ = some (.int .i64 0) := bc BK364 0; have hcz7_1 : w4.cell? ⟨gb364, 1, none⟩ = some (.int .i64 0) := bc BK364 1; have hcz7_2 : w4.cell? ⟨gb364, 2, none⟩ = some (.int .i64 0) := bc BK364 2; have hcz7_3 : w4.cell? ⟨gb364, 3, none⟩ = some (.slice none 0 0) := bc BK364 3; have hfz7_0 := blk_frozen BK364.out 0; have hfz7_1 := blk_frozen BK364.out 1; have hfz7_2 := blk_frozen BK364.out 2; have hfz7_3 := blk_frozen BK364.out 3))
 refine bodyPost_ret (results_cell_row rfl _ _ gb364 93 #[.int .i64 a1, .int .i64 a0_1, .int .i64 a0_2, .slice A0_3 l0_3.length c0_3] (0, 0) _ rfl (by (with_reducible repeat (first | refine blk_drewN ?_ _ | refine blk_drew ?_ | refine blk_alloc ?_ _)); refine blk_put (cs := #[.int .i64 a1, .int .i64 a0_1, .int .i64 a0_2, .slice none 0 0]) ?_ 3 _ rfl; (with_reducible repeat (first | refine blk_drewN ?_ _ | refine blk_drew ?_ | refine blk_alloc ?_ _)); refine blk_put (cs := #[.int .i64 a1, .int .i64 a0_1, .int .i64 0, .slice none 0 0]) ?_ 2 _ rfl; (with_reducible repeat (first | refine blk_drewN ?_ _ | refine blk_drew ?_ | refine blk_alloc ?_ _)); refine blk_put (cs := #[.int .i64 a1, .int .i64 0, .int .i64 0, .slice none 0 0]) ?_ 1 _ rfl; (with_reducible repeat (first | refine blk_drewN ?_ _ | refine blk_drew ?_ | refine blk_alloc ?_ _)); refine blk_put (cs := #[.int .i64 0, .int .i64 0, .int .i64 0, .slice none 0 0]) ?_ 0 _ rfl; (with_reducible repeat (first | refine blk_drewN ?_ _ | refine blk_drew ?_ | refine blk_alloc ?_ _)); exact BK364.out) Try.underlying93 rfl (by kernel_rfl)) rfl ?_
 exact ⟨_, rt, by (with_reducible repeat (first | apply Kd.V_alloc | apply Kd.V_drewN | apply Kd.V_drew)); exact Kd.V_mono (Kd.V_far (p := ⟨gb364, 3, none⟩) (Kd.V_far (p := ⟨gb364, 2, none⟩) (Kd.V_far (p := ⟨gb364, 1, none⟩) (Kd.V_far (p := ⟨gb364, 0, none⟩) (Kd.V_mono HO0_3.out (fun k_ hk => (⟨hk, hk.2⟩ : _ ∧ k_ ≠ gb364))) (fun _ hk => hk.2) (.int .i64 a1)) (fun _ hk => hk.2) (.int .i64 a0_1)) (fun _ hk => hk.2) (.int .i64 a0_2)) (fun _ hk => hk.2) (.slice A0_3 l0_3.length c0_3)) (fun _ hk => hk.1.1.1), hq HB⟩

/-! ### spec_l4Meet: function 122 -/
mutual
def spec_l4Meet.l0 : Nat → List (List Int) → Int → Option (Int)
  | 0, _, _ => none
  | k + 1, x0, x3 => if x3 ≤ 60 then (spec_l4Meet.l1 k x0 x3 true 1) else (some (-1))
def spec_l4Meet.l1 : Nat → List (List Int) → Int → Bool → Int → Option (Int)
  | 0, _, _, _, _ => none
  | k + 1, x0, x3, x4, x5 => if x5 < (x0.length : Int) then (if x4 = true then (if 0 ≤ x5 then (if 0 ≤ x3 then (if x3 < ((rd_L2 x0 x5).length : Int) then (if 0 < (x0.length : Int) then (if x3 < ((rd_L2 x0 0).length : Int) then (spec_l4Meet.l1 k x0 x3 ((rd (rd_L2 x0 x5) x3) == (rd (rd_L2 x0 0) x3)) (wrap64 (x5 + 1))) else (none)) else (none)) else (none)) else (none)) else (none)) else (spec_l4Meet.l1 k x0 x3 false (wrap64 (x5 + 1)))) else (if x4 = true then (some x3) else (spec_l4Meet.l0 k x0 (wrap64 (x3 + 1))))
end
def spec_l4Meet.f (k : Nat) (l0 : List (List Int)) : Option (Int) := spec_l4Meet.l0 k l0 0
theorem spec_l4Meet.mono_l : ∀ k, (∀ y0 y1, LeO (spec_l4Meet.l0 k y0 y1) (spec_l4Meet.l0 (k + 1) y0 y1)) ∧ (∀ y0 y1 y2 y3, LeO (spec_l4Meet.l1 k y0 y1 y2 y3) (spec_l4Meet.l1 (k + 1) y0 y1 y2 y3))
  | 0 => ⟨fun _ _ r h => by simp [spec_l4Meet.l0] at h, fun _ _ _ _ r h => by simp [spec_l4Meet.l1] at h⟩
  | k + 1 => by
    obtain ⟨ih0, ih1⟩ := spec_l4Meet.mono_l k
    refine ⟨?_, ?_⟩
    · intro y0 y1
      unfold spec_l4Meet.l0
      repeat' first
      | (with_reducible exact ih0 _ _)
      | (with_reducible exact ih1 _ _ _ _)
      | (with_reducible exact LeO.refl _)
      | (with_reducible exact LeO.none _)
      | (with_reducible refine LeO.ite ?_ ?_)
      | (with_reducible refine LeO.bind ?_ (fun _ => ?_))
      | exact ih0 _ _
      | exact ih1 _ _ _ _
      | exact LeO.none _
      | refine LeO.ite ?_ ?_
      | refine LeO.bind ?_ (fun _ => ?_)
    · intro y0 y1 y2 y3
      unfold spec_l4Meet.l1
      repeat' first
      | (with_reducible exact ih0 _ _)
      | (with_reducible exact ih1 _ _ _ _)
      | (with_reducible exact LeO.refl _)
      | (with_reducible exact LeO.none _)
      | (with_reducible refine LeO.ite ?_ ?_)
      | (with_reducible refine LeO.bind ?_ (fun _ => ?_))
      | exact ih0 _ _
      | exact ih1 _ _ _ _
      | exact LeO.none _
      | refine LeO.ite ?_ ?_
      | refine LeO.bind ?_ (fun _ => ?_)
theorem spec_l4Meet.mono : ∀ a0 k, LeO (spec_l4Meet.f k a0) (spec_l4Meet.f (k + 1) a0) := by
  intro a0 k
  obtain ⟨ih0, ih1⟩ := spec_l4Meet.mono_l k
  unfold spec_l4Meet.f
  repeat' first
      | (with_reducible exact ih0 _ _)
      | (with_reducible exact ih1 _ _ _ _)
      | (with_reducible exact LeO.refl _)
      | (with_reducible exact LeO.none _)
      | (with_reducible refine LeO.ite ?_ ?_)
      | (with_reducible refine LeO.bind ?_ (fun _ => ?_))
      | exact ih0 _ _
      | exact ih1 _ _ _ _
      | exact LeO.none _
      | refine LeO.ite ?_ ?_
      | refine LeO.bind ?_ (fun _ => ?_)
set_option maxHeartbeats 8000000 in
set_option maxRecDepth 100000 in
theorem spec_l4Meet.calls (k : Nat) (A0 : Option Addr) (c0 : Nat) (l0 : List (List Int)) (r : Int) (w : World) (hr0 : Kd.C (Kd.slice 3 (Kd.int .i64)) w A0 l0.length l0) (hc0 : l0.length ≤ c0) (h : spec_l4Meet.f k l0 = some r) :
    Calls Try.prog 122 #[.slice A0 l0.length c0] w fun e w' => e = .returned (.int .i64 r) ∧ Drawn0 w w' := by
 have HR0 := A_ hr0
 have HC0 := A_ hc0
 clear hr0 hc0
 have H : (spec_l4Meet.l0 k l0 0) = some r := h
 clear h
 have H' := A_ H
 clear H
 go_enter Try.func122, Try.ntmps122
 go_wp2
 repeat (go_quiet (fail); try go_wp2)
 go_loopg [3] k (fun kq v3 w' => ∃ (x3_1 : Int), v3 = .int .i64 x3_1 ∧ Aside0 (spec_l4Meet.l0 kq l0 x3_1 = some r) ∧ Aside0 (kq ≤ k) ∧ Drawn0 w w')
 case atStart => exact ⟨(0), (by first | rfl | (simp; done) | (simp [*]; done)), H', ⟨Nat.le_refl _⟩, by repeat (first | exact Drawn0.refl _ | apply Drawn0.step)⟩
 case round =>
  clear H'
  try clear c1
  obtain ⟨x3_1, rfl, HA, HK1, ⟨m1, rfl⟩⟩ := hrel
  cases gk with
  | zero => exact absurd HA.out (by simp [spec_l4Meet.l0])
  | succ k1 =>
   have H := HA.out
   clear HA
   simp only [spec_l4Meet.l0] at H
   by_cases c2 : x3_1 ≤ 60
   ·
    rw [if_pos c2] at H
    have c2b0 : decide (x3_1 ≤ 60) = true := decide_eq_true c2
    clear c2
    have H' := A_ H
    clear H
    go_wp2
    repeat (go_quiet (fail); try go_wp2)
    go_loopg [4, 5] k1 (fun kq v4 v5 w' => ∃ (x4_2 : Bool) (x5_2 : Int), v4 = .bool x4_2 ∧ v5 = .int .i64 x5_2 ∧ Aside0 (spec_l4Meet.l1 kq l0 x3_1 x4_2 x5_2 = some r) ∧ Aside0 (kq ≤ k1) ∧ Drawn0 w w')
    case atStart => exact ⟨(true), (1), (by first | rfl | (simp; done) | (simp [*]; done)), (by first | rfl | (simp; done) | (simp [*]; done)), H', ⟨Nat.le_refl _⟩, by repeat (first | exact Drawn0.refl _ | apply Drawn0.step)⟩
    case round =>
     clear H'
     try clear c1
     try clear c2
     try clear c2b0
     try clear p2
     obtain ⟨x4_2, x5_2, rfl, rfl, HA, HK2, ⟨m2, rfl⟩⟩ := hrel
     cases gk with
     | zero => exact absurd HA.out (by simp [spec_l4Meet.l1])
     | succ k2 =>
      have H := HA.out
      clear HA
      simp only [spec_l4Meet.l1] at H
      by_cases c3 : x5_2 < (l0.length : Int)
      ·
       rw [if_pos c3] at H
       have c3b0 : decide (x5_2 < (l0.length : Int)) = true := decide_eq_true c3
       clear c3
       by_cases c4 : x4_2 = true
       ·
        subst c4
        have H1 : (if 0 ≤ x5_2 then (if 0 ≤ x3_1 then (if x3_1 < ((rd_L2 l0 x5_2).length : Int) then (if 0 < (l0.length : Int) then (if x3_1 < ((rd_L2 l0 0).length : Int) then (spec_l4Meet.l1 k2 l0 x3_1 ((rd (rd_L2 l0 x5_2) x3_1) == (rd (rd_L2 l0 0) x3_1)) (wrap64 (x5_2 + 1))) else (none)) else (none)) else (none)) else (none)) else (none)) = some r := by rw [if_pos rfl] at H; exact H
        clear H
        have H := H1
        clear H1
        by_cases c5 : 0 ≤ x5_2
        ·
         rw [if_pos c5] at H
         have c5b0 : decide (0 ≤ x5_2) = true := decide_eq_true c5
         clear c5
         by_cases c6 : 0 ≤ x3_1
         ·
          rw [if_pos c6] at H
          have c6b0 : decide (0 ≤ x3_1) = true := decide_eq_true c6
          clear c6
          by_cases c7 : x3_1 < ((rd_L2 l0 x5_2).length : Int)
          ·
           rw [if_pos c7] at H
           have c7b0 : decide (x3_1 < ((rd_L2 l0 x5_2).length : Int)) = true := decide_eq_true c7
           clear c7
           by_cases c8 : 0 < (l0.length : Int)
           ·
            rw [if_pos c8] at H
            have c8b0 : decide (0 < (l0.length : Int)) = true := decide_eq_true c8
            have c8b1 : decide (0 < l0.length) = true := decide_eq_true (by omega)
            clear c8
            by_cases c9 : x3_1 < ((rd_L2 l0 0).length : Int)
            ·
             rw [if_pos c9] at H
             have c9b0 : decide (x3_1 < ((rd_L2 l0 0).length : Int)) = true := decide_eq_true c9
             clear c9
             have H' := A_ H
             clear H
             have p365 : 0 ≤ (x5_2 : Int) := of_decide_eq_true (by first | (with_reducible assumption) | assumption)
             have q365 : x5_2 < (l0.length : Int) := of_decide_eq_true (by first | (with_reducible assumption) | assumption)
             obtain ⟨ad365, A365_0, c365_0, e365, hx365_0, hl365_0, hi365_0⟩ := at_L2 HR0.out x5_2 p365 q365
             cases e365
             have HR365_0 := A_ hi365_0
             have HC365_0 := A_ hl365_0
             clear hi365_0 hl365_0
             replace p365 := eq_true p365
             replace q365 := eq_true q365
             have p366 : 0 ≤ (x3_1 : Int) := of_decide_eq_true (by first | (with_reducible assumption) | assumption)
             have q366 : x3_1 < ((rd_L2 l0 x5_2).length : Int) := of_decide_eq_true (by first | (with_reducible assumption) | assumption)
             obtain ⟨ad366, e366, hx366_0⟩ := Kd.at_int HR365_0.out x3_1 p366 q366
             cases e366
             replace p366 := eq_true p366
             replace q366 := eq_true q366
             have p367 : 0 ≤ (0 : Int) := (by omega)
             have q367 : 0 < (l0.length : Int) := of_decide_eq_true (by first | (with_reducible assumption) | assumption)
             obtain ⟨ad367, A367_0, c367_0, e367, hx367_0, hl367_0, hi367_0⟩ := at_L2 HR0.out 0 p367 q367
             obtain rfl : ad365 = ad367 := (by injection e367)
             have qi367 : (0 < l0.length) = True := eq_true (by omega)
             (try rw [show ((0 : Int)).toNat = 0 from rfl] at hx367_0)
             (try rw [Addr.add_zero'] at hx367_0)
             have HR367_0 := A_ hi367_0
             have HC367_0 := A_ hl367_0
             clear hi367_0 hl367_0
             replace p367 := eq_true p367
             replace q367 := eq_true q367
             have p368 : 0 ≤ (x3_1 : Int) := of_decide_eq_true (by first | (with_reducible assumption) | assumption)
             have q368 : x3_1 < ((rd_L2 l0 0).length : Int) := of_decide_eq_true (by first | (with_reducible assumption) | assumption)
             obtain ⟨ad368, e368, hx368_0⟩ := Kd.at_int HR367_0.out x3_1 p368 q368
             cases e368
             replace p368 := eq_true p368
             replace q368 := eq_true q368
             go_wp2
             repeat (go_quiet (fail); try go_wp2)
             go_roundg k2
             case measure => have := HK1.out; have := HK2.out; omega
             case rel => exact ⟨(((rd (rd_L2 l0 x5_2) x3_1) == (rd (rd_L2 l0 0) x3_1))), (wrap64 (x5_2 + 1)), (by first | rfl | (simp; done) | (simp [*]; done)), (by first | rfl | (simp; done) | (simp [*]; done)), H', ⟨by have := HK1.out; have := HK2.out; omega⟩, by repeat (first | exact Drawn0.refl _ | apply Drawn0.step)⟩
            ·
             rw [if_neg c9] at H
             exact absurd H (by simp)
           ·
            rw [if_neg c8] at H
            exact absurd H (by simp)
          ·
           rw [if_neg c7] at H
           exact absurd H (by simp)
         ·
          rw [if_neg c6] at H
          exact absurd H (by simp)
        ·
         rw [if_neg c5] at H
         exact absurd H (by simp)
       ·
        replace c4 := Bool.eq_false_iff.mpr c4
        subst c4
        have H1 : (spec_l4Meet.l1 k2 l0 x3_1 false (wrap64 (x5_2 + 1))) = some r := by rw [if_neg (show ¬ (false = true) by decide)] at H; exact H
        clear H
        have H := H1
        clear H1
        have H' := A_ H
        clear H
        go_wp2
        repeat (go_quiet (fail); try go_wp2)
        go_roundg k2
        case measure => have := HK1.out; have := HK2.out; omega
        case rel => exact ⟨(false), (wrap64 (x5_2 + 1)), (by first | rfl | (simp; done) | (simp [*]; done)), (by first | rfl | (simp; done) | (simp [*]; done)), H', ⟨by have := HK1.out; have := HK2.out; omega⟩, by repeat (first | exact Drawn0.refl _ | apply Drawn0.step)⟩
      ·
       rw [if_neg c3] at H
       have c3b0 : decide (x5_2 < (l0.length : Int)) = false := decide_eq_false c3
       clear c3
       by_cases c10 : x4_2 = true
       ·
        subst c10
        have H1 : (some x3_1) = some r := by rw [if_pos rfl] at H; exact H
        clear H
        have H := H1
        clear H1
        obtain rfl := Option.some.inj H
        go_wp2
        repeat (go_quiet (fail); try go_wp2)
        go_ret
        exact ⟨by first | rfl | (simp; done) | (simp [*]; done), by repeat (first | exact Drawn0.refl _ | apply Drawn0.step)⟩
       ·
        replace c10 := Bool.eq_false_iff.mpr c10
        subst c10
        have H1 : (spec_l4Meet.l0 k2 l0 (wrap64 (x3_1 + 1))) = some r := by rw [if_neg (show ¬ (false = true) by decide)] at H; exact H
        clear H
        have H := H1
        clear H1
        have H' := A_ H
        clear H
        go_wp2
        repeat (go_quiet (fail); try go_wp2)
        go_roundg k2
        case measure => have := HK1.out; have := HK2.out; omega
        case rel => exact ⟨(wrap64 (x3_1 + 1)), (by first | rfl | (simp; done) | (simp [*]; done)), H', ⟨by have := HK1.out; have := HK2.out; omega⟩, by repeat (first | exact Drawn0.refl _ | apply Drawn0.step)⟩
   ·
    rw [if_neg c2] at H
    have c2b0 : decide (x3_1 ≤ 60) = false := decide_eq_false c2
    clear c2
    obtain rfl := Option.some.inj H
    go_wp2
    repeat (go_quiet (fail); try go_wp2)
    go_ret
    exact ⟨by first | rfl | (simp; done) | (simp [*]; done), by repeat (first | exact Drawn0.refl _ | apply Drawn0.step)⟩

end Go.Proofs.Ytmamhnbhahafgaa.PFnLabels
