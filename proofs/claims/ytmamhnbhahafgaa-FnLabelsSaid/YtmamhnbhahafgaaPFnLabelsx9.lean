-- Printed, and told shorter by this session's program shrink.py.
-- Printed by this session's program myprint.py.
import Derived.Test.YtmamhnbhahafgaaPFnLabelsx0
import Derived.Test.YtmamhnbhahafgaaPFnLabelsx8
namespace Go.Proofs.Ytmamhnbhahafgaa.PFnLabels
open Go.RowKit Go.Proofs.Ytmamhnbhahafgaa.Own Go.Proofs.YtmamhnbhahafgaaW.PrintWords Go.Proofs.YtmamhnbhahafgaaW.PrintLast Go.Proofs.YtmamhnbhahafgaaW.PrintMore
attribute [local go_sem] max2_int min2_int max_two min_two max_three min_three max_four min_four   -- for this text's walks alone
set_option linter.unusedVariables false
set_option linter.unusedSimpArgs false

/-! ### spec_l4Table: function 113 -/
mutual
def spec_l4Table.l0 : Nat → List (List Int) → List (List Int) → List (List Int) → Int → Int → Bool → Int → Int → Int → List Int → Int → Int → Int → List Int → Option ((List (List Int)))
  | 0, _, _, _, _, _, _, _, _, _, _, _, _, _, _ => none
  | k + 1, x7, x8, x9, x10, x370000, x370001, x371000, x371001, x371002, x371003, x372000, x372001, x372002, x372003 => if x10 < x370000 then ((spec_l4At.f x371000 x371001 x371002 x371003 x10).bind fun bt381 => ((spec_l4Walk.f k x370000 x370001 bt381.1 bt381.2.1 bt381.2.2.1 bt381.2.2.2 60).bind fun t387 => (if x7.length < 5864062014805 then ((spec_l4At.f x372000 x372001 x372002 x372003 x10).bind fun bt393 => ((spec_l4Walk.f k x370000 x370001 bt393.1 bt393.2.1 bt393.2.2.1 bt393.2.2.2 60).bind fun t399 => (if x8.length < 5864062014805 then (spec_l4Table.l0 k (x7 ++ [t387]) (x8 ++ [t399]) x9 (wrap64 (x10 + 1)) x370000 x370001 x371000 x371001 x371002 x371003 x372000 x372001 x372002 x372003) else (none)))) else (none)))) else (spec_l4Table.l1 k x7 x8 x9 0 x370000 x370001)
def spec_l4Table.l1 : Nat → List (List Int) → List (List Int) → List (List Int) → Int → Int → Bool → Option ((List (List Int)))
  | 0, _, _, _, _, _, _ => none
  | k + 1, x7, x8, x9, x11, x370000, x370001 => if x11 < x370000 then (spec_l4Table.l2 k x7 x8 x9 x11 (([] : List Int)) 0 x370000 x370001) else (some x9)
def spec_l4Table.l2 : Nat → List (List Int) → List (List Int) → List (List Int) → Int → List Int → Int → Int → Bool → Option ((List (List Int)))
  | 0, _, _, _, _, _, _, _, _ => none
  | k + 1, x7, x8, x9, x11, x12, x13, x370000, x370001 => if x13 < x370000 then (if 0 ≤ x11 then (if x11 < (x7.length : Int) then (if 0 ≤ x13 then (if x13 < (x8.length : Int) then ((spec_l4Meet.f k (([rd_L2 x7 x11, rd_L2 x8 x13] : List (List Int)))).bind fun t413 => (if x12.length < 17592186044416 then (spec_l4Table.l2 k x7 x8 x9 x11 (x12 ++ [t413]) (wrap64 (x13 + 1)) x370000 x370001) else (none))) else (none)) else (none)) else (none)) else (none)) else (if x9.length < 5864062014805 then (spec_l4Table.l1 k x7 x8 (x9 ++ [x12]) (wrap64 (x11 + 1)) x370000 x370001) else (none))
end
def spec_l4Table.f (k : Nat) (a0_0 : Int) (a0_1 : Bool) (a1_0 : Int) (a1_1 : Int) (a1_2 : Int) (l1_3 : List Int) (a2_0 : Int) (a2_1 : Int) (a2_2 : Int) (l2_3 : List Int) : Option ((List (List Int))) := spec_l4Table.l0 k (([] : List (List Int))) (([] : List (List Int))) (([] : List (List Int))) 0 a0_0 a0_1 a1_0 a1_1 a1_2 l1_3 a2_0 a2_1 a2_2 l2_3
theorem spec_l4Table.mono_l : ∀ k, (∀ y0 y1 y2 y3 y4 y5 y6 y7 y8 y9 y10 y11 y12 y13, LeO (spec_l4Table.l0 k y0 y1 y2 y3 y4 y5 y6 y7 y8 y9 y10 y11 y12 y13) (spec_l4Table.l0 (k + 1) y0 y1 y2 y3 y4 y5 y6 y7 y8 y9 y10 y11 y12 y13)) ∧ (∀ y0 y1 y2 y3 y4 y5, LeO (spec_l4Table.l1 k y0 y1 y2 y3 y4 y5) (spec_l4Table.l1 (k + 1) y0 y1 y2 y3 y4 y5)) ∧ (∀ y0 y1 y2 y3 y4 y5 y6 y7, LeO (spec_l4Table.l2 k y0 y1 y2 y3 y4 y5 y6 y7) (spec_l4Table.l2 (k + 1) y0 y1 y2 y3 y4 y5 y6 y7))
  | 0 => ⟨fun _ _ _ _ _ _ _ _ _ _ _ _ _ _ r h => by simp [spec_l4Table.l0] at h, fun _ _ _ _ _ _ r h => by simp [spec_l4Table.l1] at h, fun _ _ _ _ _ _ _ _ r h => by simp [spec_l4Table.l2] at h⟩
  | k + 1 => by
    obtain ⟨ih0, ih1, ih2⟩ := spec_l4Table.mono_l k
    refine ⟨?_, ?_, ?_⟩
    · intro y0 y1 y2 y3 y4 y5 y6 y7 y8 y9 y10 y11 y12 y13
      unfold spec_l4Table.l0
      repeat' first
      | (with_reducible exact ih0 _ _ _ _ _ _ _ _ _ _ _ _ _ _)
      | (with_reducible exact ih1 _ _ _ _ _ _)
      | (with_reducible exact ih2 _ _ _ _ _ _ _ _)
      | (with_reducible exact spec_l4Meet.mono _ _)
      | (with_reducible exact spec_l4Walk.mono _ _ _ _ _ _ _ _)
      | (with_reducible exact LeO.refl _)
      | (with_reducible exact LeO.none _)
      | (with_reducible refine LeO.ite ?_ ?_)
      | (with_reducible refine LeO.bind ?_ (fun _ => ?_))
      | exact ih0 _ _ _ _ _ _ _ _ _ _ _ _ _ _
      | exact ih1 _ _ _ _ _ _
      | exact ih2 _ _ _ _ _ _ _ _
      | exact spec_l4Meet.mono _ _
      | exact spec_l4Walk.mono _ _ _ _ _ _ _ _
      | exact LeO.none _
      | refine LeO.ite ?_ ?_
      | refine LeO.bind ?_ (fun _ => ?_)
    · intro y0 y1 y2 y3 y4 y5
      unfold spec_l4Table.l1
      repeat' first
      | (with_reducible exact ih0 _ _ _ _ _ _ _ _ _ _ _ _ _ _)
      | (with_reducible exact ih1 _ _ _ _ _ _)
      | (with_reducible exact ih2 _ _ _ _ _ _ _ _)
      | (with_reducible exact spec_l4Meet.mono _ _)
      | (with_reducible exact spec_l4Walk.mono _ _ _ _ _ _ _ _)
      | (with_reducible exact LeO.refl _)
      | (with_reducible exact LeO.none _)
      | (with_reducible refine LeO.ite ?_ ?_)
      | (with_reducible refine LeO.bind ?_ (fun _ => ?_))
      | exact ih0 _ _ _ _ _ _ _ _ _ _ _ _ _ _
      | exact ih1 _ _ _ _ _ _
      | exact ih2 _ _ _ _ _ _ _ _
      | exact spec_l4Meet.mono _ _
      | exact spec_l4Walk.mono _ _ _ _ _ _ _ _
      | exact LeO.none _
      | refine LeO.ite ?_ ?_
      | refine LeO.bind ?_ (fun _ => ?_)
    · intro y0 y1 y2 y3 y4 y5 y6 y7
      unfold spec_l4Table.l2
      repeat' first
      | (with_reducible exact ih0 _ _ _ _ _ _ _ _ _ _ _ _ _ _)
      | (with_reducible exact ih1 _ _ _ _ _ _)
      | (with_reducible exact ih2 _ _ _ _ _ _ _ _)
      | (with_reducible exact spec_l4Meet.mono _ _)
      | (with_reducible exact spec_l4Walk.mono _ _ _ _ _ _ _ _)
      | (with_reducible exact LeO.refl _)
      | (with_reducible exact LeO.none _)
      | (with_reducible refine LeO.ite ?_ ?_)
      | (with_reducible refine LeO.bind ?_ (fun _ => ?_))
      | exact ih0 _ _ _ _ _ _ _ _ _ _ _ _ _ _
      | exact ih1 _ _ _ _ _ _
      | exact ih2 _ _ _ _ _ _ _ _
      | exact spec_l4Meet.mono _ _
      | exact spec_l4Walk.mono _ _ _ _ _ _ _ _
      | exact LeO.none _
      | refine LeO.ite ?_ ?_
      | refine LeO.bind ?_ (fun _ => ?_)
theorem spec_l4Table.mono : ∀ a0 a1 a2 a3 a4 a5 a6 a7 a8 a9 k, LeO (spec_l4Table.f k a0 a1 a2 a3 a4 a5 a6 a7 a8 a9) (spec_l4Table.f (k + 1) a0 a1 a2 a3 a4 a5 a6 a7 a8 a9) := by
  intro a0 a1 a2 a3 a4 a5 a6 a7 a8 a9 k
  obtain ⟨ih0, ih1, ih2⟩ := spec_l4Table.mono_l k
  unfold spec_l4Table.f
  repeat' first
      | (with_reducible exact ih0 _ _ _ _ _ _ _ _ _ _ _ _ _ _)
      | (with_reducible exact ih1 _ _ _ _ _ _)
      | (with_reducible exact ih2 _ _ _ _ _ _ _ _)
      | (with_reducible exact spec_l4Meet.mono _ _)
      | (with_reducible exact spec_l4Walk.mono _ _ _ _ _ _ _ _)
      | (with_reducible exact LeO.refl _)
      | (with_reducible exact LeO.none _)
      | (with_reducible refine LeO.ite ?_ ?_)
      | (with_reducible refine LeO.bind ?_ (fun _ => ?_))
      | exact ih0 _ _ _ _ _ _ _ _ _ _ _ _ _ _
      | exact ih1 _ _ _ _ _ _
      | exact ih2 _ _ _ _ _ _ _ _
      | exact spec_l4Meet.mono _ _
      | exact spec_l4Walk.mono _ _ _ _ _ _ _ _
      | exact LeO.none _
      | refine LeO.ite ?_ ?_
      | refine LeO.bind ?_ (fun _ => ?_)
def spec_l4Table.T5 : Bool × List (List Nat × List Nat) := (true, [([], []), ([], []), ([], []), ([], []), ([2, 3], [2, 3]), ([1, 4, 4], [1, 4]), ([5], [5]), ([0, 6, 5], [0, 6]), ([7, 7, 0, 1, 2, 3, 4, 5, 6, 7], [0, 7])])
def spec_l4Table.B5 : List Nat := [0, 0, 0, 0, 12, 30, 62, 127, 255]
theorem spec_l4Table.tab5 : rtab .any (opsOf Try.f113 5) = spec_l4Table.T5 := by kernel_rfl
theorem spec_l4Table.bits5 : waitsOk spec_l4Table.T5.2 spec_l4Table.B5 = true := by kernel_rfl
def spec_l4Table.T6 : Bool × List (List Nat × List Nat) := (true, [([], []), ([], []), ([], []), ([], []), ([2, 3], [2, 3]), ([1, 4, 4], [1, 4]), ([5], [5]), ([0, 6, 5], [0, 6]), ([7, 7, 0, 1, 2, 3, 4, 5, 6, 7], [0, 7])])
def spec_l4Table.B6 : List Nat := [0, 0, 0, 0, 12, 30, 62, 127, 255]
theorem spec_l4Table.tab6 : rtab .any (opsOf Try.f113 6) = spec_l4Table.T6 := by kernel_rfl
theorem spec_l4Table.bits6 : waitsOk spec_l4Table.T6.2 spec_l4Table.B6 = true := by kernel_rfl
def spec_l4Table.T14 : Bool × List (List Nat × List Nat) := (true, [([], []), ([], []), ([], []), ([1, 2], [1, 2]), ([3], [3]), ([], []), ([], []), ([5, 6], [5, 6]), ([7], [7]), ([4, 8], [4, 8]), ([9], [9]), ([10], [10]), ([0, 11, 10], [0, 11]), ([12, 12, 0, 1, 2, 3, 4, 5, 6, 7, 8, 9, 10, 11, 12], [0, 12])])
def spec_l4Table.B14 : List Nat := [0, 0, 0, 6, 14, 0, 0, 96, 224, 510, 1022, 2046, 4095, 8191]
theorem spec_l4Table.tab14 : rtab .any (opsOf Try.f113 14) = spec_l4Table.T14 := by kernel_rfl
theorem spec_l4Table.bits14 : waitsOk spec_l4Table.T14.2 spec_l4Table.B14 = true := by kernel_rfl
set_option maxHeartbeats 8000000 in
set_option maxRecDepth 100000 in
theorem spec_l4Table.calls (k : Nat) (a0_0 : Int) (a0_1 : Bool) (a1_0 : Int) (a1_1 : Int) (a1_2 : Int) (A1_3 : Option Addr) (c1_3 : Nat) (l1_3 : List Int) (a2_0 : Int) (a2_1 : Int) (a2_2 : Int) (A2_3 : Option Addr) (c2_3 : Nat) (l2_3 : List Int) (r : List (List Int)) (w : World) (hr1_3 : Kd.C (Kd.int .i64) w A1_3 l1_3.length l1_3) (hc1_3 : l1_3.length ≤ c1_3) (hr2_3 : Kd.C (Kd.int .i64) w A2_3 l2_3.length l2_3) (hc2_3 : l2_3.length ≤ c2_3) (h : spec_l4Table.f k a0_0 a0_1 a1_0 a1_1 a1_2 l1_3 a2_0 a2_1 a2_2 l2_3 = some r) :
    Calls Try.prog 113 #[.agg #[.int .i64 a0_0, .bool a0_1], .agg #[.int .i64 a1_0, .int .i64 a1_1, .int .i64 a1_2, .slice A1_3 l1_3.length c1_3], .agg #[.int .i64 a2_0, .int .i64 a2_1, .int .i64 a2_2, .slice A2_3 l2_3.length c2_3]] w fun e w' => ∃ v0_ : Value, e = .returned (v0_) ∧ Kd.S (Kd.slice 3 (Kd.int .i64)) 26 w' w.heap.size (fun _ => True) v0_ r ∧ Below w.heap.size w w' := by
 have hu25 := Try.underlying25
 have hu93 := Try.underlying93
 have HR1_3 := A_ hr1_3
 have HC1_3 := A_ hc1_3
 clear hr1_3 hc1_3
 have HR2_3 := A_ hr2_3
 have HC2_3 := A_ hc2_3
 clear hr2_3 hc2_3
 have HB := A_ (Below.refl w.heap.size w)
 have H : (spec_l4Table.l0 k (([] : List (List Int))) (([] : List (List Int))) (([] : List (List Int))) 0 a0_0 a0_1 a1_0 a1_1 a1_2 l1_3 a2_0 a2_1 a2_2 l2_3) = some r := h
 clear h
 obtain ⟨y372, hy372⟩ : ∃ y_ : List (List Int), y_ = (([] : List (List Int))) := ⟨_, rfl⟩
 replace H : (spec_l4Table.l0 k y372 (([] : List (List Int))) (([] : List (List Int))) 0 a0_0 a0_1 a1_0 a1_1 a1_2 l1_3 a2_0 a2_1 a2_2 l2_3) = some r := by first | (rw [hy372]; with_reducible exact H) | (have H2_ := (Option.bind_some _ _).symm.trans H; rw [hy372]; with_reducible exact H2_) | (have H2_ := (Option.bind_some _ _).symm.trans H; with_reducible exact H2_) | with_reducible exact H | (rw [hy372]; exact H) | exact H
 have Ny372 := A_ hy372
 clear hy372
 obtain ⟨y375, hy375⟩ : ∃ y_ : List (List Int), y_ = (([] : List (List Int))) := ⟨_, rfl⟩
 replace H : (spec_l4Table.l0 k y372 y375 (([] : List (List Int))) 0 a0_0 a0_1 a1_0 a1_1 a1_2 l1_3 a2_0 a2_1 a2_2 l2_3) = some r := by first | (rw [hy375]; with_reducible exact H) | (have H2_ := (Option.bind_some _ _).symm.trans H; rw [hy375]; with_reducible exact H2_) | (have H2_ := (Option.bind_some _ _).symm.trans H; with_reducible exact H2_) | with_reducible exact H | (rw [hy375]; exact H) | exact H
 have Ny375 := A_ hy375
 clear hy375
 obtain ⟨y378, hy378⟩ : ∃ y_ : List (List Int), y_ = (([] : List (List Int))) := ⟨_, rfl⟩
 replace H : (spec_l4Table.l0 k y372 y375 y378 0 a0_0 a0_1 a1_0 a1_1 a1_2 l1_3 a2_0 a2_1 a2_2 l2_3) = some r := by first | (rw [hy378]; with_reducible exact H) | (have H2_ := (Option.bind_some _ _).symm.trans H; rw [hy378]; with_reducible exact H2_) | (have H2_ := (Option.bind_some _ _).symm.trans H; with_reducible exact H2_) | with_reducible exact H | (rw [hy378]; exact H) | exact H
 have Ny378 := A_ hy378
 clear hy378
 have H' := A_ H
 clear H
 go_enter Try.func113, Try.ntmps113
 go_wp2_with (first | ((with_reducible refine gate_dst (N := 3) rfl ?_); refine box_event ?hg (N := 3) ?hd (cs := #[.int .i64 a0_0, .bool a0_1]) (t := 25) ?hr ?_; (case hd => rfl); (case hg => rfl); (case hr => first | (go_simp; done) | (go_simp; rfl)); intro gb369 hg w4 hbox hb; have n0_ := A_ (below_step (hq HB) hb); have n1_ := A_ (hbox); have n2_ := A_ ((by rw [hg]; exact (below_size (hq HB)) : w.heap.size ≤ gb369)); have n3_ := A_ ((by rw [hg]; exact (below_size (hq HB)) : w.heap.size ≤ gb369)); clear HB; have HB := n0_; have BK369 := n1_; have GW369 := n2_; have GE369 := n3_; clear n0_ n1_ n2_ n3_; clear hb hbox hg) | ((with_reducible refine gate_dst (N := 4) rfl ?_); refine box_event ?hg (N := 4) ?hd (cs := #[.int .i64 a1_0, .int .i64 a1_1, .int .i64 a1_2, .slice A1_3 l1_3.length c1_3]) (t := 93) ?hr ?_; (case hd => rfl); (case hg => rfl); (case hr => first | (go_simp; done) | (go_simp; rfl)); intro gb370 hg w5 hbox hb; have n0_ := A_ (blk_below (bq BK369) hb); have n1_ := A_ (below_step (hq HB) hb); have n2_ := A_ (hbox); have n3_ := A_ ((by rw [hg]; exact (below_size (hq HB)) : w.heap.size ≤ gb370)); have n4_ := A_ ((by rw [hg]; exact (below_size (hq HB)) : w.heap.size ≤ gb370)); have n5_ := A_ ((by rw [hg]; exact Nat.ne_of_lt (blk_lt (bq BK369)) : gb369 ≠ gb370)); have n6_ := A_ ((by rw [hg]; exact Nat.ne_of_gt (blk_lt (bq BK369)) : gb370 ≠ gb369)); clear BK369; clear HB; have BK369 := n0_; have HB := n1_; have BK370 := n2_; have GW370 := n3_; have GE370 := n4_; have NB369_370 := n5_; have NB370_369 := n6_; clear n0_ n1_ n2_ n3_ n4_ n5_ n6_; clear hb hbox hg) | ((with_reducible refine gate_dst (N := 5) rfl ?_); refine box_event ?hg (N := 5) ?hd (cs := #[.int .i64 a2_0, .int .i64 a2_1, .int .i64 a2_2, .slice A2_3 l2_3.length c2_3]) (t := 93) ?hr ?_; (case hd => rfl); (case hg => rfl); (case hr => first | (go_simp; done) | (go_simp; rfl)); intro gb371 hg w6 hbox hb; have n0_ := A_ (blk_below (bq BK369) hb); have n1_ := A_ (blk_below (bq BK370) hb); have n2_ := A_ (below_step (hq HB) hb); have n3_ := A_ (hbox); have n4_ := A_ ((by rw [hg]; exact (below_size (hq HB)) : w.heap.size ≤ gb371)); have n5_ := A_ ((by rw [hg]; exact (below_size (hq HB)) : w.heap.size ≤ gb371)); have n6_ := A_ ((by rw [hg]; exact Nat.ne_of_lt (blk_lt (bq BK369)) : gb369 ≠ gb371)); have n7_ := A_ ((by rw [hg]; exact Nat.ne_of_gt (blk_lt (bq BK369)) : gb371 ≠ gb369)); have n8_ := A_ ((by rw [hg]; exact Nat.ne_of_lt (blk_lt (bq BK370)) : gb370 ≠ gb371)); have n9_ := A_ ((by rw [hg]; exact Nat.ne_of_gt (blk_lt (bq BK370)) : gb371 ≠ gb370)); clear BK369; clear BK370; clear HB; have BK369 := n0_; have BK370 := n1_; have HB := n2_; have BK371 := n3_; have GW371 := n4_; have GE371 := n5_; have NB369_371 := n6_; have NB371_369 := n7_; have NB370_371 := n8_; have NB371_370 := n9_; clear n0_ n1_ n2_ n3_ n4_ n5_ n6_ n7_ n8_ n9_; clear hb hbox hg) | ((with_reducible refine gate_dst (N := 14) rfl ?_); refine Kd.S_lit (Kd.slice 3 (Kd.int .i64)) _ 26 ?hg (N := 14) ?hd (xs := ([] : List (List Int))) (inner := []) (ok := fun _ => True) (okp := fun _ => True) ?hr ?hp (fun _ hk => hk) trivial (Below.refl _ _) (Nat.le_refl _) (by simp) ?_; (case hd => rfl); (case hg => rfl); (case hr => first | (go_simp; done) | (go_simp; rfl)); (case hp => exact (Reps.none _ _)); intro v373 w7 ho8 hb hg_ hnew_; clear hg_ hnew_; (first | rw [← Ny372.out] at ho8 | (simp only [Int.reduceToNat] at ho8; rw [← Ny372.out] at ho8)); have n0_ := A_ (Kd.S_lower ho8 (below_size (hq HB))); have n1_ := A_ (blk_below (bq BK369) hb); have n2_ := A_ (blk_below (bq BK370) hb); have n3_ := A_ (blk_below (bq BK371) hb); have n4_ := A_ (below_step (hq HB) hb); clear BK369; clear BK370; clear BK371; clear HB; have HO374 := n0_; have BK369 := n1_; have BK370 := n2_; have BK371 := n3_; have HB := n4_; clear n0_ n1_ n2_ n3_ n4_; clear hb ho8) | ((with_reducible refine gate_dst (N := 15) rfl ?_); refine Kd.S_lit (Kd.slice 3 (Kd.int .i64)) _ 26 ?hg (N := 15) ?hd (xs := ([] : List (List Int))) (inner := []) (ok := fun _ => True) (okp := fun _ => True) ?hr ?hp (fun _ hk => hk) trivial (Below.refl _ _) (Nat.le_refl _) (by simp) ?_; (case hd => rfl); (case hg => rfl); (case hr => first | (go_simp; done) | (go_simp; rfl)); (case hp => exact (Reps.none _ _)); intro v376 w9 ho10 hb hg_ hnew_; clear hg_ hnew_; (first | rw [← Ny375.out] at ho10 | (simp only [Int.reduceToNat] at ho10; rw [← Ny375.out] at ho10)); have n0_ := A_ (Kd.S_elder' (sq HO374) (Kd.S_base ho10) hb); have n1_ := A_ (Kd.S_lower (Kd.S_new' ho10 (Kd.S_lt (sq HO374))) (below_size (hq HB))); have n2_ := A_ (blk_below (bq BK369) hb); have n3_ := A_ (blk_below (bq BK370) hb); have n4_ := A_ (blk_below (bq BK371) hb); have n5_ := A_ (below_step (hq HB) hb); clear HO374; clear BK369; clear BK370; clear BK371; clear HB; have HO374 := n0_; have HO377 := n1_; have BK369 := n2_; have BK370 := n3_; have BK371 := n4_; have HB := n5_; clear n0_ n1_ n2_ n3_ n4_ n5_; clear hb ho10) | ((with_reducible refine gate_dst (N := 16) rfl ?_); refine Kd.S_lit (Kd.slice 3 (Kd.int .i64)) _ 26 ?hg (N := 16) ?hd (xs := ([] : List (List Int))) (inner := []) (ok := fun _ => True) (okp := fun _ => True) ?hr ?hp (fun _ hk => hk) trivial (Below.refl _ _) (Nat.le_refl _) (by simp) ?_; (case hd => rfl); (case hg => rfl); (case hr => first | (go_simp; done) | (go_simp; rfl)); (case hp => exact (Reps.none _ _)); intro v379 w11 ho12 hb hg_ hnew_; clear hg_ hnew_; (first | rw [← Ny378.out] at ho12 | (simp only [Int.reduceToNat] at ho12; rw [← Ny378.out] at ho12)); have n0_ := A_ (Kd.S_elder' (sq HO374) (Kd.S_base ho12) hb); have n1_ := A_ (Kd.S_elder' (sq HO377) (Kd.S_base ho12) hb); have n2_ := A_ (Kd.S_lower (Kd.S_new' (Kd.S_new' ho12 (Kd.S_lt (sq HO374))) (Kd.S_lt (sq HO377))) (below_size (hq HB))); have n3_ := A_ (blk_below (bq BK369) hb); have n4_ := A_ (blk_below (bq BK370) hb); have n5_ := A_ (blk_below (bq BK371) hb); have n6_ := A_ (below_step (hq HB) hb); clear HO374; clear HO377; clear BK369; clear BK370; clear BK371; clear HB; have HO374 := n0_; have HO377 := n1_; have HO380 := n2_; have BK369 := n3_; have BK370 := n4_; have BK371 := n5_; have HB := n6_; clear n0_ n1_ n2_ n3_ n4_ n5_ n6_; clear hb ho12))
 go_loopg [7, 8, 10] k (fun kq v7 v8 v10 w' => ∃ (x7_1 : List (List Int)) (x8_1 : List (List Int)) (x10_1 : Int), v10 = .int .i64 x10_1 ∧ Aside0 (spec_l4Table.l0 kq x7_1 x8_1 y378 x10_1 a0_0 a0_1 a1_0 a1_1 a1_2 l1_3 a2_0 a2_1 a2_2 l2_3 = some r) ∧ Aside0 (kq ≤ k) ∧ Aside0 (Kd.S (Kd.slice 3 (Kd.int .i64)) 26 w' w.heap.size (fun k_ => some k_ ≠ (v8 : Value).ownBlock ∧ some k_ ≠ (v379 : Value).ownBlock) v7 x7_1) ∧ Aside0 (Kd.S (Kd.slice 3 (Kd.int .i64)) 26 w' w.heap.size (fun k_ => some k_ ≠ (v7 : Value).ownBlock ∧ some k_ ≠ (v379 : Value).ownBlock) v8 x8_1) ∧ Aside0 (Kd.S (Kd.slice 3 (Kd.int .i64)) 26 w' w.heap.size (fun k_ => some k_ ≠ (v7 : Value).ownBlock ∧ some k_ ≠ (v8 : Value).ownBlock) v379 y378) ∧ Aside0 (w'.heap[gb369]? = some (.cells #[.int .i64 a0_0, .bool a0_1] 25 (0, 0))) ∧ Aside0 (w'.heap[gb370]? = some (.cells #[.int .i64 a1_0, .int .i64 a1_1, .int .i64 a1_2, (.slice A1_3 l1_3.length c1_3)] 93 (0, 0))) ∧ Aside0 (w'.heap[gb371]? = some (.cells #[.int .i64 a2_0, .int .i64 a2_1, .int .i64 a2_2, (.slice A2_3 l2_3.length c2_3)] 93 (0, 0))) ∧ Aside0 (Below w.heap.size w w'))
 case atStart => exact ⟨(y372), (y375), (0), (by first | rfl | (simp; done) | (simp [*]; done)), H', ⟨Nat.le_refl _⟩, ⟨by (with_reducible repeat (first | apply Kd.S_alloc | apply Kd.S_drewN | apply Kd.S_drew)); exact Kd.S_mono HO374.out (fun _ hk => ⟨hk.1.2, hk.2⟩)⟩, ⟨by (with_reducible repeat (first | apply Kd.S_alloc | apply Kd.S_drewN | apply Kd.S_drew)); exact Kd.S_mono HO377.out (fun _ hk => ⟨hk.1.2, hk.2⟩)⟩, ⟨by (with_reducible repeat (first | apply Kd.S_alloc | apply Kd.S_drewN | apply Kd.S_drew)); exact Kd.S_mono HO380.out (fun _ hk => ⟨hk.1.2, hk.2⟩)⟩, ⟨bq BK369⟩, ⟨bq BK370⟩, ⟨bq BK371⟩, ⟨hq HB⟩⟩
 case round =>
  clear H'
  try clear c1
  try clear c2
  try clear p2
  try clear c11
  obtain ⟨x7_1, x8_1, x10_1, rfl, HA, HK1, HO_7, HO_8, HO_9, BK369, BK370, BK371, HB⟩ := hrel
  cases gk with
  | zero => exact absurd HA.out (by simp [spec_l4Table.l0])
  | succ k1 =>
   have H := HA.out
   clear HA
   simp only [spec_l4Table.l0] at H
   by_cases c13 : x10_1 < a0_0
   ·
    rw [if_pos c13] at H
    have c13b0 : decide (x10_1 < a0_0) = true := decide_eq_true c13
    clear c13
    replace H := Option.bind_eq_some_iff.mp H
    obtain ⟨⟨t381, t382, t383, t384⟩, A140, H⟩ := H
    replace H : ((spec_l4Walk.f k1 a0_0 a0_1 t381 t382 t383 t384 60).bind fun t387 => (if x7_1.length < 5864062014805 then ((spec_l4At.f a2_0 a2_1 a2_2 l2_3 x10_1).bind fun bt393 => ((spec_l4Walk.f k1 a0_0 a0_1 bt393.1 bt393.2.1 bt393.2.2.1 bt393.2.2.2 60).bind fun t399 => (if x8_1.length < 5864062014805 then (spec_l4Table.l0 k1 (x7_1 ++ [t387]) (x8_1 ++ [t399]) y378 (wrap64 (x10_1 + 1)) a0_0 a0_1 a1_0 a1_1 a1_2 l1_3 a2_0 a2_1 a2_2 l2_3) else (none)))) else (none))) = some r := H
    have A14 := A_ A140
    clear A140
    replace H := Option.bind_eq_some_iff.mp H
    obtain ⟨t387, A150, H⟩ := H
    replace H : (if x7_1.length < 5864062014805 then ((spec_l4At.f a2_0 a2_1 a2_2 l2_3 x10_1).bind fun bt393 => ((spec_l4Walk.f k1 a0_0 a0_1 bt393.1 bt393.2.1 bt393.2.2.1 bt393.2.2.2 60).bind fun t399 => (if x8_1.length < 5864062014805 then (spec_l4Table.l0 k1 (x7_1 ++ [t387]) (x8_1 ++ [t399]) y378 (wrap64 (x10_1 + 1)) a0_0 a0_1 a1_0 a1_1 a1_2 l1_3 a2_0 a2_1 a2_2 l2_3) else (none)))) else (none)) = some r := H
    have A15 := A_ A150
    clear A150
    by_cases c16 : x7_1.length < 5864062014805
    ·
     rw [if_pos c16] at H
     have LMc16 := A_ c16
     clear c16
     obtain ⟨y390, hy390⟩ : ∃ y_ : List (List Int), y_ = (x7_1 ++ [t387]) := ⟨_, rfl⟩
     replace H : ((spec_l4At.f a2_0 a2_1 a2_2 l2_3 x10_1).bind fun bt393 => ((spec_l4Walk.f k1 a0_0 a0_1 bt393.1 bt393.2.1 bt393.2.2.1 bt393.2.2.2 60).bind fun t399 => (if x8_1.length < 5864062014805 then (spec_l4Table.l0 k1 y390 (x8_1 ++ [t399]) y378 (wrap64 (x10_1 + 1)) a0_0 a0_1 a1_0 a1_1 a1_2 l1_3 a2_0 a2_1 a2_2 l2_3) else (none)))) = some r := by first | (rw [hy390]; with_reducible exact H) | (have H2_ := (Option.bind_some _ _).symm.trans H; rw [hy390]; with_reducible exact H2_) | (have H2_ := (Option.bind_some _ _).symm.trans H; with_reducible exact H2_) | with_reducible exact H | (rw [hy390]; exact H) | exact H
     have Ny390 := A_ hy390
     clear hy390
     replace H := Option.bind_eq_some_iff.mp H
     obtain ⟨⟨t393, t394, t395, t396⟩, A170, H⟩ := H
     replace H : ((spec_l4Walk.f k1 a0_0 a0_1 t393 t394 t395 t396 60).bind fun t399 => (if x8_1.length < 5864062014805 then (spec_l4Table.l0 k1 y390 (x8_1 ++ [t399]) y378 (wrap64 (x10_1 + 1)) a0_0 a0_1 a1_0 a1_1 a1_2 l1_3 a2_0 a2_1 a2_2 l2_3) else (none))) = some r := H
     have A17 := A_ A170
     clear A170
     replace H := Option.bind_eq_some_iff.mp H
     obtain ⟨t399, A180, H⟩ := H
     replace H : (if x8_1.length < 5864062014805 then (spec_l4Table.l0 k1 y390 (x8_1 ++ [t399]) y378 (wrap64 (x10_1 + 1)) a0_0 a0_1 a1_0 a1_1 a1_2 l1_3 a2_0 a2_1 a2_2 l2_3) else (none)) = some r := H
     have A18 := A_ A180
     clear A180
     by_cases c19 : x8_1.length < 5864062014805
     ·
      rw [if_pos c19] at H
      have LMc19 := A_ c19
      clear c19
      obtain ⟨y402, hy402⟩ : ∃ y_ : List (List Int), y_ = (x8_1 ++ [t399]) := ⟨_, rfl⟩
      replace H : (spec_l4Table.l0 k1 y390 y402 y378 (wrap64 (x10_1 + 1)) a0_0 a0_1 a1_0 a1_1 a1_2 l1_3 a2_0 a2_1 a2_2 l2_3) = some r := by first | (rw [hy402]; with_reducible exact H) | (have H2_ := (Option.bind_some _ _).symm.trans H; rw [hy402]; with_reducible exact H2_) | (have H2_ := (Option.bind_some _ _).symm.trans H; with_reducible exact H2_) | with_reducible exact H | (rw [hy402]; exact H) | exact H
      have Ny402 := A_ hy402
      clear hy402
      have H' := A_ H
      clear H
      have hnb20 := NB369_370.out
      have hnc20 := NB370_369.out
      have hnb21 := NB369_371.out
      have hnc21 := NB371_369.out
      have hcz22_0 : wr.cell? ⟨gb369, 0, none⟩ = some (.int .i64 a0_0) := bc BK369 0
      have hcz22_1 : wr.cell? ⟨gb369, 1, none⟩ = some (.bool a0_1) := bc BK369 1
      have hfz22_0 := blk_frozen BK369.out 0
      have hfz22_1 := blk_frozen BK369.out 1
      try go_wp2
      have n0_ := A_ (Kd.S_drew HO_7.out)
      have n1_ := A_ (Kd.S_drew HO_8.out)
      have n2_ := A_ (Kd.S_drew HO_9.out)
      have n3_ := A_ (blk_drew BK369.out)
      have n4_ := A_ (blk_drew BK370.out)
      have n5_ := A_ (blk_drew BK371.out)
      have n6_ := A_ (below_drew1 HB.out)
      clear HO_7 HO_8 HO_9 BK369 BK370 BK371 HB; have HO_7 := n0_; have HO_8 := n1_; have HO_9 := n2_; have BK369 := n3_; have BK370 := n4_; have BK371 := n5_; have HB := n6_; clear n0_ n1_ n2_ n3_ n4_ n5_ n6_
      refine start_ (n := 9) (S := fun w' => w'.cell? ⟨gb369, 0, none⟩ = some (.int .i64 a0_0) ∧ w'.cell? ⟨gb369, 1, none⟩ = some (.bool a0_1) ∧ w'.cell? ⟨gb370, 0, none⟩ = some (.int .i64 a1_0) ∧ w'.cell? ⟨gb370, 1, none⟩ = some (.int .i64 a1_1) ∧ w'.cell? ⟨gb370, 2, none⟩ = some (.int .i64 a1_2) ∧ w'.cell? ⟨gb370, 3, none⟩ = some (.slice A1_3 l1_3.length c1_3)) (ds := []) #[false, false, false, false, false, false, false, false, false] (by kernel_rfl) rfl rfl ⟨bc BK369 0, bc BK369 1, bc BK370 0, bc BK370 1, bc BK370 2, bc BK370 3⟩ (fun hHeld => ?_); refine with_tabW spec_l4Table.tab5 spec_l4Table.bits5 (fun HT_ HW_ => ?_)
      generalize wr.drew = w23 at HO_7 HO_8 HO_9 BK369 BK370 BK371 HB hHeld ⊢
      refine pure_ (i := 0) (N := some 23) (v := ?_) (a' := ?_) #[true, false, false, false, false, false, false, false, false] rfl rfl (any_of HT_.out (by kernel_rfl)) (fun _ _ _ h => h) (Or.inl ⟨by rfl, ?_⟩) ?_ ?_
      rotate_left
      ·
       intro w'
       go_simp
       with_reducible rfl
      rotate_left
      ·
       simp only [Act.put, List.setIfInBounds_toArray, List.set_cons_zero, List.set_cons_succ, i64_w, i32_w]
       rfl
      refine pure_ (i := 3) (N := some 26) (v := ?_) (a' := ?_) #[true, false, false, true, false, false, false, false, false] rfl rfl (any_of HT_.out (by kernel_rfl)) (fun _ _ _ h => h) (Or.inl ⟨by rfl, ?_⟩) ?_ ?_
      rotate_left
      ·
       intro w'
       go_simp
       with_reducible rfl
      rotate_left
      ·
       simp only [Act.put, List.setIfInBounds_toArray, List.set_cons_zero, List.set_cons_succ, i64_w, i32_w]
       rfl
      refine take_ (i := 1) (N := some 24) (v := ?_) (a' := ?_) #[true, true, false, true, false, false, false, false, false] rfl rfl (take_ofW HT_.out HW_.out (by kernel_rfl)) (fun _ _ _ h => h) (Or.inl ⟨by rfl, ?_⟩) hHeld ?_ ?_
      rotate_left
      ·
       rintro w' ⟨s0, s1, s2, s3, s4, s5⟩
       go_simp
       with_reducible rfl
      rotate_left
      ·
       simp only [Act.put, List.setIfInBounds_toArray, List.set_cons_zero, List.set_cons_succ, i64_w, i32_w]
       rfl
      refine take_ (i := 2) (N := some 25) (v := ?_) (a' := ?_) #[true, true, true, true, false, false, false, false, false] rfl rfl (take_ofW HT_.out HW_.out (by kernel_rfl)) (fun _ _ _ h => h) (Or.inl ⟨by rfl, ?_⟩) hHeld ?_ ?_
      rotate_left
      ·
       rintro w' ⟨s0, s1, s2, s3, s4, s5⟩
       go_simp
       with_reducible rfl
      rotate_left
      ·
       simp only [Act.put, List.setIfInBounds_toArray, List.set_cons_zero, List.set_cons_succ, i64_w, i32_w]
       rfl
      refine one_ (i := 4) (N := some 27) #[true, true, true, true, true, false, false, false, false] rfl rfl (one_of HT_.out (by kernel_rfl)) (by decide) (fun K hK => ?_)
      refine goes_ Try.func121 (by kernel_rfl) rfl #[.agg #[.int .i64 a1_0, .int .i64 a1_1, .int .i64 a1_2, .slice A1_3 l1_3.length c1_3], .int .i64 x10_1] (by rfl) rfl rfl gq ?_
      with_reducible refine (spec_l4At.calls a1_0 a1_1 a1_2 (fun k_ => k_ < w.heap.size) _ _ l1_3 x10_1 t381 t382 t383 t384 _ ?side1 A14.out).mono ?_
      (case side1 => exact Kd.V_mk HC1_3.out (Kd.F_below (Kd.C_F (Kd.heap_int .i64) HR1_3.out) (hq HB)))
      rintro e w24 ⟨v385, rfl, ho0, hb⟩
      refine ⟨_, rfl, ?_⟩
      have n0_ := A_ (Kd.S_below (sq HO_7) hb)
      have n1_ := A_ (Kd.S_below (sq HO_8) hb)
      have n2_ := A_ (Kd.S_below (sq HO_9) hb)
      have n3_ := A_ (Kd.V_lower (Kd.V_mono (ok' := fun k_ => some k_ ≠ (u7 : Value).ownBlock ∧ some k_ ≠ (u8 : Value).ownBlock ∧ some k_ ≠ (v379 : Value).ownBlock ∧ k_ ≠ gb369 ∧ k_ ≠ gb370 ∧ k_ ≠ gb371) ho0 (fun k_ hk_ => ⟨Or.elim hk_ (fun hs_ => fun e_ => Nat.not_le.2 hs_ (Kd.S_base HO_7.out k_ e_.symm)) (fun hn_ => (Kd.fresh' (Kd.S_lt (sq HO_7)) k_ hn_)), Or.elim hk_ (fun hs_ => fun e_ => Nat.not_le.2 hs_ (Kd.S_base HO_8.out k_ e_.symm)) (fun hn_ => (Kd.fresh' (Kd.S_lt (sq HO_8)) k_ hn_)), Or.elim hk_ (fun hs_ => fun e_ => Nat.not_le.2 hs_ (Kd.S_base HO_9.out k_ e_.symm)) (fun hn_ => (Kd.fresh' (Kd.S_lt (sq HO_9)) k_ hn_)), Or.elim hk_ (fun hs_ => fun e_ => Nat.not_le.2 hs_ (by rw [e_]; exact GW369.out)) (fun hn_ => (Kd.freshB (g := gb369) (o := .cells #[.int .i64 a0_0, .bool a0_1] 25 (0, 0)) (bq BK369) k_ hn_)), Or.elim hk_ (fun hs_ => fun e_ => Nat.not_le.2 hs_ (by rw [e_]; exact GW370.out)) (fun hn_ => (Kd.freshB (g := gb370) (o := .cells #[.int .i64 a1_0, .int .i64 a1_1, .int .i64 a1_2, .slice A1_3 l1_3.length c1_3] 93 (0, 0)) (bq BK370) k_ hn_)), Or.elim hk_ (fun hs_ => fun e_ => Nat.not_le.2 hs_ (by rw [e_]; exact GW371.out)) (fun hn_ => (Kd.freshB (g := gb371) (o := .cells #[.int .i64 a2_0, .int .i64 a2_1, .int .i64 a2_2, .slice A2_3 l2_3.length c2_3] 93 (0, 0)) (bq BK371) k_ hn_))⟩)) (below_size (hq HB)))
      have n4_ := A_ (blk_below (bq BK369) hb)
      have n5_ := A_ (blk_below (bq BK370) hb)
      have n6_ := A_ (blk_below (bq BK371) hb)
      have n7_ := A_ (below_step (hq HB) hb)
      clear HO_7 HO_8 HO_9 BK369 BK370 BK371 HB; have HO_7 := n0_; have HO_8 := n1_; have HO_9 := n2_; have HO386 := n3_; have BK369 := n4_; have BK370 := n5_; have BK371 := n6_; have HB := n7_; clear n0_ n1_ n2_ n3_ n4_ n5_ n6_ n7_; (try clear hb); (try clear hb2); (try clear hk); (try clear hi); (try clear ho0)
      obtain ⟨Ao25, co25, eo25⟩ := Kd.V_slice HO386.out
      (first | subst eo25 | (injection eo25 with f1_ f2_ f3_; have f4_ := f1_.symm; have f5_ := f3_.symm; clear f1_ f2_ f3_; subst f4_; subst f5_))
      refine hK.out _ _ ⟨bc BK369 0, bc BK369 1, bc BK370 0, bc BK370 1, bc BK370 2, bc BK370 3⟩ (fun hHeld => ?_)
      clear hK K
      refine norm_ (a' := ?_) ?_ ?_
      rotate_left
      ·
       exact pq (d := some 27)
      refine one_ (i := 5) (N := some 28) #[true, true, true, true, true, true, false, false, false] rfl rfl (one_of HT_.out (by kernel_rfl)) (by decide) (fun K hK => ?_)
      refine goes_ Try.func120 (by kernel_rfl) rfl #[.agg #[.int .i64 a0_0, .bool a0_1], .agg #[.int .i64 t381, .int .i64 t382, .int .i64 t383, .slice Ao25 t384.length co25], .int .i64 60] (by rfl) rfl rfl gq ?_
      with_reducible refine (spec_l4Walk.calls k1 a0_0 a0_1 t381 t382 t383 _ _ t384 60 t387 _ ?side1 ?side2 A15.out).mono ?_
      (case side1 => exact cq (Kd.V_reads' HO386.out).2.2)
      (case side2 => exact (Kd.V_reads' HO386.out).2.1)
      rintro e w26 ⟨v388, rfl, ho0, hb⟩
      refine ⟨_, rfl, ?_⟩
      have n0_ := A_ (Kd.S_elder' (sq HO_7) (Kd.R_base ho0) hb)
      have n1_ := A_ (Kd.S_elder' (sq HO_8) (Kd.R_base ho0) hb)
      have n2_ := A_ (Kd.S_elder' (sq HO_9) (Kd.R_base ho0) hb)
      have n3_ := A_ (Kd.V_elder' (vq HO386) (Kd.R_base ho0) hb)
      have n4_ := A_ (Kd.R_lower ho0 (below_size (hq HB)))
      have n5_ := A_ (blk_below (bq BK369) hb)
      have n6_ := A_ (blk_below (bq BK370) hb)
      have n7_ := A_ (blk_below (bq BK371) hb)
      have n8_ := A_ (below_step (hq HB) hb)
      clear HO_7 HO_8 HO_9 HO386 BK369 BK370 BK371 HB; have HO_7 := n0_; have HO_8 := n1_; have HO_9 := n2_; have HO386 := n3_; have HO389 := n4_; have BK369 := n5_; have BK370 := n6_; have BK371 := n7_; have HB := n8_; clear n0_ n1_ n2_ n3_ n4_ n5_ n6_ n7_ n8_; (try clear hb); (try clear hb2); (try clear hk); (try clear hi); (try clear ho0)
      obtain ⟨Ao28, co28, eo28⟩ := Kd.R_slice HO389.out
      (first | subst eo28 | (injection eo28 with f1_ f2_ f3_; have f4_ := f1_.symm; have f5_ := f3_.symm; clear f1_ f2_ f3_; subst f4_; subst f5_))
      refine hK.out _ _ ⟨bc BK369 0, bc BK369 1, bc BK370 0, bc BK370 1, bc BK370 2, bc BK370 3⟩ (fun hHeld => ?_)
      clear hK K
      refine norm_ (a' := ?_) ?_ ?_
      rotate_left
      ·
       exact pq (d := some 28)
      refine one_ (i := 6) (N := some 29) #[true, true, true, true, true, true, true, false, false] rfl rfl (one_of HT_.out (by kernel_rfl)) (by decide) (fun K hK => ?_)
      refine value_ (w1 := ?_) (v := ?_) (by rfl) rfl ?_ ?_
      rotate_left 2
      ·
       go_simp
       constructor
       ·
        rfl
       ·
        rfl
      refine hK.out _ _ ⟨(blk_cell (blk_alloc BK369.out _) 0).trans rfl, (blk_cell (blk_alloc BK369.out _) 1).trans rfl, (blk_cell (blk_alloc BK370.out _) 0).trans rfl, (blk_cell (blk_alloc BK370.out _) 1).trans rfl, (blk_cell (blk_alloc BK370.out _) 2).trans rfl, (blk_cell (blk_alloc BK370.out _) 3).trans rfl⟩ (fun hHeld => ?_)
      clear hK K
      refine norm_ (a' := ?_) ?_ ?_
      rotate_left
      ·
       exact pq (d := some 29)
      refine one_ (i := 7) (N := some 30) #[true, true, true, true, true, true, true, true, false] rfl rfl (one_of HT_.out (by kernel_rfl)) (by decide) (fun K hK => ?_)
      refine Kd.S_append_step (Kd.slice 3 (Kd.int .i64)) (w0 := w) w.heap.size (by rfl) (.tmp 23) (.tmp 29) 40 26 (.slice none 0 0) 24 rfl Try.underlying40 info26 rfl (by decide) (by omega) u7 x7_1 t387 [.slice Ao28 t387.length co28] (fun k_ => some k_ ≠ (u8 : Value).ownBlock ∧ some k_ ≠ (v379 : Value).ownBlock) (fun k_ => some k_ = (.slice Ao28 t387.length co28 : Value).ownBlock) rfl rfl ?aP (fun k_ hk_ => ((Kd.R_mono (ok' := fun k_ => ((fun k_ => some k_ ≠ (u8 : Value).ownBlock ∧ some k_ ≠ (v379 : Value).ownBlock)) k_ ∧ some k_ ≠ (u7 : Value).ownBlock) (Kd.R_apart' (Kd.R_apart' (Kd.R_apart' (HO389.out) (Kd.S_typed HO_8.out) (by decide)) (Kd.S_typed HO_9.out) (by decide)) (Kd.S_typed HO_7.out) (by decide)) (fun k_ hk => ⟨⟨hk.1.1.2, hk.1.2⟩, hk.2⟩))).1 k_ hk_.symm) ?aF ?aO ?aB ?aS ?aL ?_
      (case aP => exact Kd.M_row (Kd.R_mono (Kd.R_tight rfl (Kd.R_mono (ok' := fun k_ => ((fun k_ => some k_ ≠ (u8 : Value).ownBlock ∧ some k_ ≠ (v379 : Value).ownBlock)) k_ ∧ some k_ ≠ (u7 : Value).ownBlock) (Kd.R_apart' (Kd.R_apart' (Kd.R_apart' (HO389.out) (Kd.S_typed HO_8.out) (by decide)) (Kd.S_typed HO_9.out) (by decide)) (Kd.S_typed HO_7.out) (by decide)) (fun k_ hk => ⟨⟨hk.1.1.2, hk.1.2⟩, hk.2⟩))) (fun _ h_ => h_)))
      (case aB => exact (hq HB))
      (case aF => exact (fun k_ hk => ⟨Kd.fresh' (Kd.S_lt (sq HO_8)) k_ hk, Kd.fresh' (Kd.S_lt (sq HO_9)) k_ hk⟩))
      (case aO => exact (by (with_reducible repeat (first | apply Kd.S_alloc | apply Kd.S_drewN | apply Kd.S_drew)); exact Kd.S_mono HO_7.out (fun k_ hk => ⟨⟨hk.1.1, hk.1.2⟩, fun e_ => hk.2 e_⟩)))
      (case aS => exact (below_size (hq HB)))
      (case aL => have := LMc16.out; omega)
      intro v391 w27 ho hb hg hat
      rw [← Ny390.out] at ho
      have n0_ := A_ (Kd.S_after (ok := (fun k_ => some k_ ≠ (v379 : Value).ownBlock ∧ some k_ ≠ (.slice Ao28 t387.length co28 : Value).ownBlock)) (by (with_reducible repeat (first | apply Kd.S_alloc | apply Kd.S_drewN | apply Kd.S_drew)); exact Kd.S_mono HO_8.out (fun _ hk => ⟨⟨hk.1.2, hk.2⟩, hk.1.1⟩)) hg hat)
      have n1_ := A_ (Kd.S_after (ok := (fun k_ => some k_ ≠ (u8 : Value).ownBlock ∧ some k_ ≠ (.slice Ao28 t387.length co28 : Value).ownBlock)) (by (with_reducible repeat (first | apply Kd.S_alloc | apply Kd.S_drewN | apply Kd.S_drew)); exact Kd.S_mono HO_9.out (fun _ hk => ⟨⟨hk.1.2, hk.2⟩, hk.1.1⟩)) hg hat)
      have n2_ := A_ (blk_grown (g := gb369) (o := .cells #[.int .i64 a0_0, .bool a0_1] 25 (0, 0)) (bq BK369) hg (Kd.S_ne HO_7.out BK369.out (by decide)))
      have n3_ := A_ (blk_grown (g := gb370) (o := .cells #[.int .i64 a1_0, .int .i64 a1_1, .int .i64 a1_2, .slice A1_3 l1_3.length c1_3] 93 (0, 0)) (bq BK370) hg (Kd.S_ne HO_7.out BK370.out (by decide)))
      have n4_ := A_ (blk_grown (g := gb371) (o := .cells #[.int .i64 a2_0, .int .i64 a2_1, .int .i64 a2_2, .slice A2_3 l2_3.length c2_3] 93 (0, 0)) (bq BK371) hg (Kd.S_ne HO_7.out BK371.out (by decide)))
      have n5_ := A_ (Kd.V_afterv (ok := (fun k_ => some k_ ≠ (u8 : Value).ownBlock ∧ some k_ ≠ (v379 : Value).ownBlock ∧ some k_ ≠ (.slice Ao28 t387.length co28 : Value).ownBlock ∧ k_ ≠ gb369 ∧ k_ ≠ gb370 ∧ k_ ≠ gb371)) (by (with_reducible repeat (first | apply Kd.V_alloc | apply Kd.V_drewN | apply Kd.V_drew)); exact Kd.V_mono HO386.out (fun _ hk => ⟨⟨hk.1.2.1, ⟨hk.1.2.2.1, ⟨hk.2, ⟨hk.1.2.2.2.1, ⟨hk.1.2.2.2.2.1, hk.1.2.2.2.2.2⟩⟩⟩⟩⟩, hk.1.1⟩)) hg hat)
      have n6_ := A_ (hb)
      have n7_ := A_ (ho)
      clear HO_8 HO_9 BK369 BK370 BK371 HO386 HB HO_7 HO389; have HO_8 := n0_; have HO_9 := n1_; have BK369 := n2_; have BK370 := n3_; have BK371 := n4_; have HO386 := n5_; have HB := n6_; have HO392 := n7_; clear n0_ n1_ n2_ n3_ n4_ n5_ n6_ n7_ ho hb hg hat
      refine hK.out _ _ ⟨bc BK369 0, bc BK369 1, bc BK370 0, bc BK370 1, bc BK370 2, bc BK370 3⟩ (fun hHeld => ?_)
      clear hK K
      refine norm_ (a' := ?_) ?_ ?_
      rotate_left
      ·
       exact pq (d := some 30)
      refine pure_ (i := 8) (N := some 7) (v := ?_) (a' := ?_) #[true, true, true, true, true, true, true, true, true] rfl rfl (any_of HT_.out (by kernel_rfl)) (fun _ _ _ h => h) (Or.inl ⟨by rfl, ?_⟩) ?_ ?_
      rotate_left
      ·
       intro w'
       go_simp
       with_reducible rfl
      rotate_left
      ·
       simp only [Act.put, List.setIfInBounds_toArray, List.set_cons_zero, List.set_cons_succ, i64_w, i32_w]
       rfl
      refine done_ (done_of HT_.out (by kernel_rfl)) ?_
      try go_wp2
      have n0_ := A_ (Kd.S_drew HO_8.out)
      have n1_ := A_ (Kd.S_drew HO_9.out)
      have n2_ := A_ (Kd.V_drew HO386.out)
      have n3_ := A_ (Kd.S_drew HO392.out)
      have n4_ := A_ (blk_drew BK369.out)
      have n5_ := A_ (blk_drew BK370.out)
      have n6_ := A_ (blk_drew BK371.out)
      have n7_ := A_ (below_drew1 HB.out)
      clear HO_8 HO_9 HO386 HO392 BK369 BK370 BK371 HB; have HO_8 := n0_; have HO_9 := n1_; have HO386 := n2_; have HO392 := n3_; have BK369 := n4_; have BK370 := n5_; have BK371 := n6_; have HB := n7_; clear n0_ n1_ n2_ n3_ n4_ n5_ n6_ n7_
      refine start_ (n := 9) (S := fun w' => w'.cell? ⟨gb369, 0, none⟩ = some (.int .i64 a0_0) ∧ w'.cell? ⟨gb369, 1, none⟩ = some (.bool a0_1) ∧ w'.cell? ⟨gb371, 0, none⟩ = some (.int .i64 a2_0) ∧ w'.cell? ⟨gb371, 1, none⟩ = some (.int .i64 a2_1) ∧ w'.cell? ⟨gb371, 2, none⟩ = some (.int .i64 a2_2) ∧ w'.cell? ⟨gb371, 3, none⟩ = some (.slice A2_3 l2_3.length c2_3)) (ds := []) #[false, false, false, false, false, false, false, false, false] (by kernel_rfl) rfl rfl ⟨bc BK369 0, bc BK369 1, bc BK371 0, bc BK371 1, bc BK371 2, bc BK371 3⟩ (fun hHeld => ?_); refine with_tabW spec_l4Table.tab6 spec_l4Table.bits6 (fun HT_ HW_ => ?_)
      generalize w27.drew = w29 at HO_8 HO_9 HO386 HO392 BK369 BK370 BK371 HB hHeld ⊢
      refine pure_ (i := 0) (N := some 31) (v := ?_) (a' := ?_) #[true, false, false, false, false, false, false, false, false] rfl rfl (any_of HT_.out (by kernel_rfl)) (fun _ _ _ h => h) (Or.inl ⟨by rfl, ?_⟩) ?_ ?_
      rotate_left
      ·
       intro w'
       go_simp
       with_reducible rfl
      rotate_left
      ·
       simp only [Act.put, List.setIfInBounds_toArray, List.set_cons_zero, List.set_cons_succ, i64_w, i32_w]
       rfl
      refine pure_ (i := 3) (N := some 34) (v := ?_) (a' := ?_) #[true, false, false, true, false, false, false, false, false] rfl rfl (any_of HT_.out (by kernel_rfl)) (fun _ _ _ h => h) (Or.inl ⟨by rfl, ?_⟩) ?_ ?_
      rotate_left
      ·
       intro w'
       go_simp
       with_reducible rfl
      rotate_left
      ·
       simp only [Act.put, List.setIfInBounds_toArray, List.set_cons_zero, List.set_cons_succ, i64_w, i32_w]
       rfl
      refine take_ (i := 1) (N := some 32) (v := ?_) (a' := ?_) #[true, true, false, true, false, false, false, false, false] rfl rfl (take_ofW HT_.out HW_.out (by kernel_rfl)) (fun _ _ _ h => h) (Or.inl ⟨by rfl, ?_⟩) hHeld ?_ ?_
      rotate_left
      ·
       rintro w' ⟨s0, s1, s2, s3, s4, s5⟩
       go_simp
       with_reducible rfl
      rotate_left
      ·
       simp only [Act.put, List.setIfInBounds_toArray, List.set_cons_zero, List.set_cons_succ, i64_w, i32_w]
       rfl
      refine take_ (i := 2) (N := some 33) (v := ?_) (a' := ?_) #[true, true, true, true, false, false, false, false, false] rfl rfl (take_ofW HT_.out HW_.out (by kernel_rfl)) (fun _ _ _ h => h) (Or.inl ⟨by rfl, ?_⟩) hHeld ?_ ?_
      rotate_left
      ·
       rintro w' ⟨s0, s1, s2, s3, s4, s5⟩
       go_simp
       with_reducible rfl
      rotate_left
      ·
       simp only [Act.put, List.setIfInBounds_toArray, List.set_cons_zero, List.set_cons_succ, i64_w, i32_w]
       rfl
      refine one_ (i := 4) (N := some 35) #[true, true, true, true, true, false, false, false, false] rfl rfl (one_of HT_.out (by kernel_rfl)) (by decide) (fun K hK => ?_)
      refine goes_ Try.func121 (by kernel_rfl) rfl #[.agg #[.int .i64 a2_0, .int .i64 a2_1, .int .i64 a2_2, .slice A2_3 l2_3.length c2_3], .int .i64 x10_1] (by rfl) rfl rfl gq ?_
      with_reducible refine (spec_l4At.calls a2_0 a2_1 a2_2 (fun k_ => k_ < w.heap.size) _ _ l2_3 x10_1 t393 t394 t395 t396 _ ?side1 A17.out).mono ?_
      (case side1 => exact Kd.V_mk HC2_3.out (Kd.F_below (Kd.C_F (Kd.heap_int .i64) HR2_3.out) (hq HB)))
      rintro e w30 ⟨v397, rfl, ho0, hb⟩
      refine ⟨_, rfl, ?_⟩
      have n0_ := A_ (Kd.S_below (sq HO_8) hb)
      have n1_ := A_ (Kd.S_below (sq HO_9) hb)
      have n2_ := A_ (Kd.V_below (vq HO386) hb)
      have n3_ := A_ (Kd.S_below (sq HO392) hb)
      have n4_ := A_ (Kd.V_lower (Kd.V_mono (ok' := fun k_ => some k_ ≠ (u8 : Value).ownBlock ∧ some k_ ≠ (v379 : Value).ownBlock ∧ some k_ ≠ (v391 : Value).ownBlock ∧ k_ ≠ gb369 ∧ k_ ≠ gb370 ∧ k_ ≠ gb371) ho0 (fun k_ hk_ => ⟨Or.elim hk_ (fun hs_ => fun e_ => Nat.not_le.2 hs_ (Kd.S_base HO_8.out k_ e_.symm)) (fun hn_ => (Kd.fresh' (Kd.S_lt (sq HO_8)) k_ hn_)), Or.elim hk_ (fun hs_ => fun e_ => Nat.not_le.2 hs_ (Kd.S_base HO_9.out k_ e_.symm)) (fun hn_ => (Kd.fresh' (Kd.S_lt (sq HO_9)) k_ hn_)), Or.elim hk_ (fun hs_ => fun e_ => Nat.not_le.2 hs_ (Kd.S_base HO392.out k_ e_.symm)) (fun hn_ => (Kd.fresh' (Kd.S_lt (sq HO392)) k_ hn_)), Or.elim hk_ (fun hs_ => fun e_ => Nat.not_le.2 hs_ (by rw [e_]; exact GW369.out)) (fun hn_ => (Kd.freshB (g := gb369) (o := .cells #[.int .i64 a0_0, .bool a0_1] 25 (0, 0)) (bq BK369) k_ hn_)), Or.elim hk_ (fun hs_ => fun e_ => Nat.not_le.2 hs_ (by rw [e_]; exact GW370.out)) (fun hn_ => (Kd.freshB (g := gb370) (o := .cells #[.int .i64 a1_0, .int .i64 a1_1, .int .i64 a1_2, .slice A1_3 l1_3.length c1_3] 93 (0, 0)) (bq BK370) k_ hn_)), Or.elim hk_ (fun hs_ => fun e_ => Nat.not_le.2 hs_ (by rw [e_]; exact GW371.out)) (fun hn_ => (Kd.freshB (g := gb371) (o := .cells #[.int .i64 a2_0, .int .i64 a2_1, .int .i64 a2_2, .slice A2_3 l2_3.length c2_3] 93 (0, 0)) (bq BK371) k_ hn_))⟩)) (below_size (hq HB)))
      have n5_ := A_ (blk_below (bq BK369) hb)
      have n6_ := A_ (blk_below (bq BK370) hb)
      have n7_ := A_ (blk_below (bq BK371) hb)
      have n8_ := A_ (below_step (hq HB) hb)
      clear HO_8 HO_9 HO386 HO392 BK369 BK370 BK371 HB; have HO_8 := n0_; have HO_9 := n1_; have HO386 := n2_; have HO392 := n3_; have HO398 := n4_; have BK369 := n5_; have BK370 := n6_; have BK371 := n7_; have HB := n8_; clear n0_ n1_ n2_ n3_ n4_ n5_ n6_ n7_ n8_; (try clear hb); (try clear hb2); (try clear hk); (try clear hi); (try clear ho0)
      obtain ⟨Ao31, co31, eo31⟩ := Kd.V_slice HO398.out
      (first | subst eo31 | (injection eo31 with f1_ f2_ f3_; have f4_ := f1_.symm; have f5_ := f3_.symm; clear f1_ f2_ f3_; subst f4_; subst f5_))
      refine hK.out _ _ ⟨bc BK369 0, bc BK369 1, bc BK371 0, bc BK371 1, bc BK371 2, bc BK371 3⟩ (fun hHeld => ?_)
      clear hK K
      refine norm_ (a' := ?_) ?_ ?_
      rotate_left
      ·
       exact pq (d := some 35)
      refine one_ (i := 5) (N := some 36) #[true, true, true, true, true, true, false, false, false] rfl rfl (one_of HT_.out (by kernel_rfl)) (by decide) (fun K hK => ?_)
      refine goes_ Try.func120 (by kernel_rfl) rfl #[.agg #[.int .i64 a0_0, .bool a0_1], .agg #[.int .i64 t393, .int .i64 t394, .int .i64 t395, .slice Ao31 t396.length co31], .int .i64 60] (by rfl) rfl rfl gq ?_
      with_reducible refine (spec_l4Walk.calls k1 a0_0 a0_1 t393 t394 t395 _ _ t396 60 t399 _ ?side1 ?side2 A18.out).mono ?_
      (case side1 => exact cq (Kd.V_reads' HO398.out).2.2)
      (case side2 => exact (Kd.V_reads' HO398.out).2.1)
      rintro e w32 ⟨v400, rfl, ho0, hb⟩
      refine ⟨_, rfl, ?_⟩
      have n0_ := A_ (Kd.S_elder' (sq HO_8) (Kd.R_base ho0) hb)
      have n1_ := A_ (Kd.S_elder' (sq HO_9) (Kd.R_base ho0) hb)
      have n2_ := A_ (Kd.V_elder' (vq HO386) (Kd.R_base ho0) hb)
      have n3_ := A_ (Kd.S_elder' (sq HO392) (Kd.R_base ho0) hb)
      have n4_ := A_ (Kd.V_elder' (vq HO398) (Kd.R_base ho0) hb)
      have n5_ := A_ (Kd.R_lower ho0 (below_size (hq HB)))
      have n6_ := A_ (blk_below (bq BK369) hb)
      have n7_ := A_ (blk_below (bq BK370) hb)
      have n8_ := A_ (blk_below (bq BK371) hb)
      have n9_ := A_ (below_step (hq HB) hb)
      clear HO_8 HO_9 HO386 HO392 HO398 BK369 BK370 BK371 HB; have HO_8 := n0_; have HO_9 := n1_; have HO386 := n2_; have HO392 := n3_; have HO398 := n4_; have HO401 := n5_; have BK369 := n6_; have BK370 := n7_; have BK371 := n8_; have HB := n9_; clear n0_ n1_ n2_ n3_ n4_ n5_ n6_ n7_ n8_ n9_; (try clear hb); (try clear hb2); (try clear hk); (try clear hi); (try clear ho0)
      obtain ⟨Ao34, co34, eo34⟩ := Kd.R_slice HO401.out
      (first | subst eo34 | (injection eo34 with f1_ f2_ f3_; have f4_ := f1_.symm; have f5_ := f3_.symm; clear f1_ f2_ f3_; subst f4_; subst f5_))
      refine hK.out _ _ ⟨bc BK369 0, bc BK369 1, bc BK371 0, bc BK371 1, bc BK371 2, bc BK371 3⟩ (fun hHeld => ?_)
      clear hK K
      refine norm_ (a' := ?_) ?_ ?_
      rotate_left
      ·
       exact pq (d := some 36)
      refine one_ (i := 6) (N := some 37) #[true, true, true, true, true, true, true, false, false] rfl rfl (one_of HT_.out (by kernel_rfl)) (by decide) (fun K hK => ?_)
      refine value_ (w1 := ?_) (v := ?_) (by rfl) rfl ?_ ?_
      rotate_left 2
      ·
       go_simp
       constructor
       ·
        rfl
       ·
        rfl
      refine hK.out _ _ ⟨(blk_cell (blk_alloc BK369.out _) 0).trans rfl, (blk_cell (blk_alloc BK369.out _) 1).trans rfl, (blk_cell (blk_alloc BK371.out _) 0).trans rfl, (blk_cell (blk_alloc BK371.out _) 1).trans rfl, (blk_cell (blk_alloc BK371.out _) 2).trans rfl, (blk_cell (blk_alloc BK371.out _) 3).trans rfl⟩ (fun hHeld => ?_)
      clear hK K
      refine norm_ (a' := ?_) ?_ ?_
      rotate_left
      ·
       exact pq (d := some 37)
      refine one_ (i := 7) (N := some 38) #[true, true, true, true, true, true, true, true, false] rfl rfl (one_of HT_.out (by kernel_rfl)) (by decide) (fun K hK => ?_)
      refine Kd.S_append_step (Kd.slice 3 (Kd.int .i64)) (w0 := w) w.heap.size (by rfl) (.tmp 31) (.tmp 37) 40 26 (.slice none 0 0) 24 rfl Try.underlying40 info26 rfl (by decide) (by omega) u8 x8_1 t399 [.slice Ao34 t399.length co34] (fun k_ => some k_ ≠ (v379 : Value).ownBlock ∧ some k_ ≠ (v391 : Value).ownBlock) (fun k_ => some k_ = (.slice Ao34 t399.length co34 : Value).ownBlock) rfl rfl ?aP (fun k_ hk_ => ((Kd.R_mono (ok' := fun k_ => ((fun k_ => some k_ ≠ (v379 : Value).ownBlock ∧ some k_ ≠ (v391 : Value).ownBlock)) k_ ∧ some k_ ≠ (u8 : Value).ownBlock) (Kd.R_apart' (Kd.R_apart' (Kd.R_apart' (HO401.out) (Kd.S_typed HO_9.out) (by decide)) (Kd.S_typed HO392.out) (by decide)) (Kd.S_typed HO_8.out) (by decide)) (fun k_ hk => ⟨⟨hk.1.1.2, hk.1.2⟩, hk.2⟩))).1 k_ hk_.symm) ?aF ?aO ?aB ?aS ?aL ?_
      (case aP => exact Kd.M_row (Kd.R_mono (Kd.R_tight rfl (Kd.R_mono (ok' := fun k_ => ((fun k_ => some k_ ≠ (v379 : Value).ownBlock ∧ some k_ ≠ (v391 : Value).ownBlock)) k_ ∧ some k_ ≠ (u8 : Value).ownBlock) (Kd.R_apart' (Kd.R_apart' (Kd.R_apart' (HO401.out) (Kd.S_typed HO_9.out) (by decide)) (Kd.S_typed HO392.out) (by decide)) (Kd.S_typed HO_8.out) (by decide)) (fun k_ hk => ⟨⟨hk.1.1.2, hk.1.2⟩, hk.2⟩))) (fun _ h_ => h_)))
      (case aB => exact (hq HB))
      (case aF => exact (fun k_ hk => ⟨Kd.fresh' (Kd.S_lt (sq HO_9)) k_ hk, Kd.fresh' (Kd.S_lt (sq HO392)) k_ hk⟩))
      (case aO => exact (by (with_reducible repeat (first | apply Kd.S_alloc | apply Kd.S_drewN | apply Kd.S_drew)); exact Kd.S_mono HO_8.out (fun k_ hk => ⟨⟨hk.1.1.1, hk.1.2⟩, fun e_ => hk.2 e_⟩)))
      (case aS => exact (below_size (hq HB)))
      (case aL => have := LMc19.out; omega)
      intro v403 w33 ho hb hg hat
      rw [← Ny402.out] at ho
      have n0_ := A_ (Kd.S_after (ok := (fun k_ => some k_ ≠ (v391 : Value).ownBlock ∧ some k_ ≠ (.slice Ao34 t399.length co34 : Value).ownBlock)) (by (with_reducible repeat (first | apply Kd.S_alloc | apply Kd.S_drewN | apply Kd.S_drew)); exact Kd.S_mono HO_9.out (fun _ hk => ⟨⟨hk.1.2, hk.2⟩, hk.1.1.1⟩)) hg hat)
      have n1_ := A_ (blk_grown (g := gb369) (o := .cells #[.int .i64 a0_0, .bool a0_1] 25 (0, 0)) (bq BK369) hg (Kd.S_ne HO_8.out BK369.out (by decide)))
      have n2_ := A_ (blk_grown (g := gb370) (o := .cells #[.int .i64 a1_0, .int .i64 a1_1, .int .i64 a1_2, .slice A1_3 l1_3.length c1_3] 93 (0, 0)) (bq BK370) hg (Kd.S_ne HO_8.out BK370.out (by decide)))
      have n3_ := A_ (blk_grown (g := gb371) (o := .cells #[.int .i64 a2_0, .int .i64 a2_1, .int .i64 a2_2, .slice A2_3 l2_3.length c2_3] 93 (0, 0)) (bq BK371) hg (Kd.S_ne HO_8.out BK371.out (by decide)))
      have n4_ := A_ (Kd.V_afterv (ok := (fun k_ => some k_ ≠ (v379 : Value).ownBlock ∧ some k_ ≠ (v391 : Value).ownBlock ∧ some k_ ≠ (.slice Ao34 t399.length co34 : Value).ownBlock ∧ k_ ≠ gb369 ∧ k_ ≠ gb370 ∧ k_ ≠ gb371)) (by (with_reducible repeat (first | apply Kd.V_alloc | apply Kd.V_drewN | apply Kd.V_drew)); exact Kd.V_mono HO386.out (fun _ hk => ⟨⟨hk.1.1.2.1, ⟨hk.1.2, ⟨hk.2, ⟨hk.1.1.2.2.2.1, ⟨hk.1.1.2.2.2.2.1, hk.1.1.2.2.2.2.2⟩⟩⟩⟩⟩, hk.1.1.1⟩)) hg hat)
      have n5_ := A_ (Kd.S_after (ok := (fun k_ => some k_ ≠ (v379 : Value).ownBlock ∧ some k_ ≠ (.slice Ao34 t399.length co34 : Value).ownBlock)) (by (with_reducible repeat (first | apply Kd.S_alloc | apply Kd.S_drewN | apply Kd.S_drew)); exact Kd.S_mono HO392.out (fun _ hk => ⟨⟨hk.1.2, hk.2⟩, hk.1.1⟩)) hg hat)
      have n6_ := A_ (Kd.V_afterv (ok := (fun k_ => some k_ ≠ (v379 : Value).ownBlock ∧ some k_ ≠ (v391 : Value).ownBlock ∧ some k_ ≠ (.slice Ao34 t399.length co34 : Value).ownBlock ∧ k_ ≠ gb369 ∧ k_ ≠ gb370 ∧ k_ ≠ gb371)) (by (with_reducible repeat (first | apply Kd.V_alloc | apply Kd.V_drewN | apply Kd.V_drew)); exact Kd.V_mono HO398.out (fun _ hk => ⟨⟨hk.1.2.1, ⟨hk.1.2.2.1, ⟨hk.2, ⟨hk.1.2.2.2.1, ⟨hk.1.2.2.2.2.1, hk.1.2.2.2.2.2⟩⟩⟩⟩⟩, hk.1.1⟩)) hg hat)
      have n7_ := A_ (hb)
      have n8_ := A_ (ho)
      clear HO_9 BK369 BK370 BK371 HO386 HO392 HO398 HB HO_8 HO401; have HO_9 := n0_; have BK369 := n1_; have BK370 := n2_; have BK371 := n3_; have HO386 := n4_; have HO392 := n5_; have HO398 := n6_; have HB := n7_; have HO404 := n8_; clear n0_ n1_ n2_ n3_ n4_ n5_ n6_ n7_ n8_ ho hb hg hat
      refine hK.out _ _ ⟨bc BK369 0, bc BK369 1, bc BK371 0, bc BK371 1, bc BK371 2, bc BK371 3⟩ (fun hHeld => ?_)
      clear hK K
      refine norm_ (a' := ?_) ?_ ?_
      rotate_left
      ·
       exact pq (d := some 38)
      refine pure_ (i := 8) (N := some 8) (v := ?_) (a' := ?_) #[true, true, true, true, true, true, true, true, true] rfl rfl (any_of HT_.out (by kernel_rfl)) (fun _ _ _ h => h) (Or.inl ⟨by rfl, ?_⟩) ?_ ?_
      rotate_left
      ·
       intro w'
       go_simp
       with_reducible rfl
      rotate_left
      ·
       simp only [Act.put, List.setIfInBounds_toArray, List.set_cons_zero, List.set_cons_succ, i64_w, i32_w]
       rfl
      refine done_ (done_of HT_.out (by kernel_rfl)) ?_
      try go_wp2
      go_roundg k1
      case measure => have := HK1.out; omega
      case rel => exact ⟨(y390), (y402), (wrap64 (x10_1 + 1)), (by first | rfl | (simp; done) | (simp [*]; done)), H', ⟨by have := HK1.out; omega⟩, ⟨by (with_reducible repeat (first | apply Kd.S_alloc | apply Kd.S_drewN | apply Kd.S_drew)); exact Kd.S_mono HO392.out (fun _ hk => ⟨hk.2, hk.1.1⟩)⟩, ⟨by (with_reducible repeat (first | apply Kd.S_alloc | apply Kd.S_drewN | apply Kd.S_drew)); exact Kd.S_mono HO404.out (fun _ hk => ⟨hk.2, hk.1⟩)⟩, ⟨by (with_reducible repeat (first | apply Kd.S_alloc | apply Kd.S_drewN | apply Kd.S_drew)); exact Kd.S_mono HO_9.out (fun _ hk => ⟨hk.1.1, hk.2⟩)⟩, ⟨bq BK369⟩, ⟨bq BK370⟩, ⟨bq BK371⟩, ⟨hq HB⟩⟩
     ·
      rw [if_neg c19] at H
      exact absurd H (by simp)
    ·
     rw [if_neg c16] at H
     exact absurd H (by simp)
   ·
    rw [if_neg c13] at H
    have c13b0 : decide (x10_1 < a0_0) = false := decide_eq_false c13
    clear c13
    have H' := A_ H
    clear H
    have hnb35 := NB369_370.out
    have hnc35 := NB370_369.out
    have hnb36 := NB369_371.out
    have hnc36 := NB371_369.out
    have hcz37_0 : wr.cell? ⟨gb369, 0, none⟩ = some (.int .i64 a0_0) := bc BK369 0
    have hcz37_1 : wr.cell? ⟨gb369, 1, none⟩ = some (.bool a0_1) := bc BK369 1
    have hfz37_0 := blk_frozen BK369.out 0
    have hfz37_1 := blk_frozen BK369.out 1
    go_wp2
    go_loopg [9, 11] k1 (fun kq v9 v11 w' => ∃ (x9_2 : List (List Int)) (x11_2 : Int), v11 = .int .i64 x11_2 ∧ Aside0 (spec_l4Table.l1 kq x7_1 x8_1 x9_2 x11_2 a0_0 a0_1 = some r) ∧ Aside0 (kq ≤ k1) ∧ Aside0 (Kd.S (Kd.slice 3 (Kd.int .i64)) 26 w' w.heap.size (fun k_ => some k_ ≠ (u8 : Value).ownBlock ∧ some k_ ≠ (v9 : Value).ownBlock) u7 x7_1) ∧ Aside0 (Kd.S (Kd.slice 3 (Kd.int .i64)) 26 w' w.heap.size (fun k_ => some k_ ≠ (u7 : Value).ownBlock ∧ some k_ ≠ (v9 : Value).ownBlock) u8 x8_1) ∧ Aside0 (Kd.S (Kd.slice 3 (Kd.int .i64)) 26 w' w.heap.size (fun k_ => some k_ ≠ (u7 : Value).ownBlock ∧ some k_ ≠ (u8 : Value).ownBlock) v9 x9_2) ∧ Aside0 (w'.heap[gb369]? = some (.cells #[.int .i64 a0_0, .bool a0_1] 25 (0, 0))) ∧ Aside0 (w'.heap[gb370]? = some (.cells #[.int .i64 a1_0, .int .i64 a1_1, .int .i64 a1_2, (.slice A1_3 l1_3.length c1_3)] 93 (0, 0))) ∧ Aside0 (w'.heap[gb371]? = some (.cells #[.int .i64 a2_0, .int .i64 a2_1, .int .i64 a2_2, (.slice A2_3 l2_3.length c2_3)] 93 (0, 0))) ∧ Aside0 (Below w.heap.size w w'))
    case atStart => exact ⟨(y378), (0), (by first | rfl | (simp; done) | (simp [*]; done)), H', ⟨Nat.le_refl _⟩, ⟨sq HO_7⟩, ⟨sq HO_8⟩, ⟨sq HO_9⟩, ⟨bq BK369⟩, ⟨bq BK370⟩, ⟨bq BK371⟩, ⟨hq HB⟩⟩
    case round =>
     clear H'
     try clear c1
     try clear c2
     try clear p2
     try clear c3
     try clear p6
     try clear c11
     try clear c12
     try clear c13
     try clear c13b0
     try clear c16
     try clear c19
     try clear c20
     try clear c21
     try clear c35
     try clear c36
     try clear hcz22_0
     try clear hcz22_1
     try clear hcz37_0
     try clear hcz37_1
     try clear hfz22_0
     try clear hfz22_1
     try clear hfz37_0
     try clear hfz37_1
     try clear p2
     obtain ⟨x9_2, x11_2, rfl, HA, HK2, HO_7, HO_8, HO_9, BK369, BK370, BK371, HB⟩ := hrel
     cases gk with
     | zero => exact absurd HA.out (by simp [spec_l4Table.l1])
     | succ k2 =>
      have H := HA.out
      clear HA
      simp only [spec_l4Table.l1] at H
      by_cases c38 : x11_2 < a0_0
      ·
       rw [if_pos c38] at H
       have c38b0 : decide (x11_2 < a0_0) = true := decide_eq_true c38
       clear c38
       obtain ⟨y405, hy405⟩ : ∃ y_ : List Int, y_ = (([] : List Int)) := ⟨_, rfl⟩
       replace H : (spec_l4Table.l2 k2 x7_1 x8_1 x9_2 x11_2 y405 0 a0_0 a0_1) = some r := by first | (rw [hy405]; with_reducible exact H) | (have H2_ := (Option.bind_some _ _).symm.trans H; rw [hy405]; with_reducible exact H2_) | (have H2_ := (Option.bind_some _ _).symm.trans H; with_reducible exact H2_) | with_reducible exact H | (rw [hy405]; exact H) | exact H
       have Ny405 := A_ hy405
       clear hy405
       have H' := A_ H
       clear H
       have hnb39 := NB369_370.out
       have hnc39 := NB370_369.out
       have hnb40 := NB369_371.out
       have hnc40 := NB371_369.out
       have hcz41_0 : wr.cell? ⟨gb369, 0, none⟩ = some (.int .i64 a0_0) := bc BK369 0
       have hcz41_1 : wr.cell? ⟨gb369, 1, none⟩ = some (.bool a0_1) := bc BK369 1
       have hfz41_0 := blk_frozen BK369.out 0
       have hfz41_1 := blk_frozen BK369.out 1
       go_wp2_with (first | ((with_reducible refine gate_dst (N := 45) rfl ?_); refine Kd.R_lit (Kd.int .i64) _ 3 ?hg (N := 45) ?hd (xs := ([] : List Int)) (inner := []) (ok := fun _ => True) (okp := fun _ => True) ?hr ?hp (fun _ hk => hk) trivial (Below.refl _ _) (Nat.le_refl _) (by simp) ?_; (case hd => rfl); (case hg => rfl); (case hr => first | (go_simp; done) | (go_simp; rfl)); (case hp => exact (Reps.none _ _)); intro v406 w42 ho43 hb hg_ hnew_; clear hg_ hnew_; (first | rw [← Ny405.out] at ho43 | (simp only [Int.reduceToNat] at ho43; rw [← Ny405.out] at ho43)); have n0_ := A_ (Kd.S_elder' (sq HO_7) (Kd.R_base ho43) hb); have n1_ := A_ (Kd.S_elder' (sq HO_8) (Kd.R_base ho43) hb); have n2_ := A_ (Kd.S_elder' (sq HO_9) (Kd.R_base ho43) hb); have n3_ := A_ (Kd.R_lower ho43 (below_size (hq HB))); have n4_ := A_ (blk_below (bq BK369) hb); have n5_ := A_ (blk_below (bq BK370) hb); have n6_ := A_ (blk_below (bq BK371) hb); have n7_ := A_ (below_step (hq HB) hb); clear HO_7; clear HO_8; clear HO_9; clear BK369; clear BK370; clear BK371; clear HB; have HO_7 := n0_; have HO_8 := n1_; have HO_9 := n2_; have HO407 := n3_; have BK369 := n4_; have BK370 := n5_; have BK371 := n6_; have HB := n7_; clear n0_ n1_ n2_ n3_ n4_ n5_ n6_ n7_; clear hb ho43))
       go_loopg [12, 13] k2 (fun kq v12 v13 w' => ∃ (x12_3 : List Int) (x13_3 : Int), v13 = .int .i64 x13_3 ∧ Aside0 (spec_l4Table.l2 kq x7_1 x8_1 x9_2 x11_2 x12_3 x13_3 a0_0 a0_1 = some r) ∧ Aside0 (kq ≤ k2) ∧ Aside0 (Kd.S (Kd.slice 3 (Kd.int .i64)) 26 w' w.heap.size (fun k_ => some k_ ≠ (u8 : Value).ownBlock ∧ some k_ ≠ (u9 : Value).ownBlock ∧ some k_ ≠ (v12 : Value).ownBlock) u7 x7_1) ∧ Aside0 (Kd.S (Kd.slice 3 (Kd.int .i64)) 26 w' w.heap.size (fun k_ => some k_ ≠ (u7 : Value).ownBlock ∧ some k_ ≠ (u9 : Value).ownBlock ∧ some k_ ≠ (v12 : Value).ownBlock) u8 x8_1) ∧ Aside0 (Kd.S (Kd.slice 3 (Kd.int .i64)) 26 w' w.heap.size (fun k_ => some k_ ≠ (u7 : Value).ownBlock ∧ some k_ ≠ (u8 : Value).ownBlock ∧ some k_ ≠ (v12 : Value).ownBlock) u9 x9_2) ∧ Aside0 (Kd.R (Kd.int .i64) 3 w' w.heap.size (fun _ => True) v12 x12_3) ∧ Aside0 (w'.heap[gb369]? = some (.cells #[.int .i64 a0_0, .bool a0_1] 25 (0, 0))) ∧ Aside0 (w'.heap[gb370]? = some (.cells #[.int .i64 a1_0, .int .i64 a1_1, .int .i64 a1_2, (.slice A1_3 l1_3.length c1_3)] 93 (0, 0))) ∧ Aside0 (w'.heap[gb371]? = some (.cells #[.int .i64 a2_0, .int .i64 a2_1, .int .i64 a2_2, (.slice A2_3 l2_3.length c2_3)] 93 (0, 0))) ∧ Aside0 (Below w.heap.size w w'))
       case atStart => exact ⟨(y405), (0), (by first | rfl | (simp; done) | (simp [*]; done)), H', ⟨Nat.le_refl _⟩, ⟨by (with_reducible repeat (first | apply Kd.S_alloc | apply Kd.S_drewN | apply Kd.S_drew)); exact Kd.S_mono HO_7.out (fun _ hk => ⟨hk.1.1, ⟨hk.1.2, hk.2⟩⟩)⟩, ⟨by (with_reducible repeat (first | apply Kd.S_alloc | apply Kd.S_drewN | apply Kd.S_drew)); exact Kd.S_mono HO_8.out (fun _ hk => ⟨hk.1.1, ⟨hk.1.2, hk.2⟩⟩)⟩, ⟨by (with_reducible repeat (first | apply Kd.S_alloc | apply Kd.S_drewN | apply Kd.S_drew)); exact Kd.S_mono HO_9.out (fun _ hk => ⟨hk.1.1, ⟨hk.1.2, hk.2⟩⟩)⟩, ⟨rq HO407⟩, ⟨bq BK369⟩, ⟨bq BK370⟩, ⟨bq BK371⟩, ⟨hq HB⟩⟩
       case round =>
        clear H'
        try clear c1
        try clear c2
        try clear p2
        try clear c3
        try clear c4
        try clear p6
        try clear c11
        try clear c12
        try clear c13
        try clear c13b0
        try clear c16
        try clear c19
        try clear c20
        try clear c21
        try clear c35
        try clear c36
        try clear c38
        try clear c38b0
        try clear c39
        try clear c40
        try clear hcz22_0
        try clear hcz22_1
        try clear hcz37_0
        try clear hcz37_1
        try clear hcz41_0
        try clear hcz41_1
        try clear hfz22_0
        try clear hfz22_1
        try clear hfz37_0
        try clear hfz37_1
        try clear hfz41_0
        try clear hfz41_1
        try clear p2
        try clear p6
        obtain ⟨x12_3, x13_3, rfl, HA, HK3, HO_7, HO_8, HO_9, HO_12, BK369, BK370, BK371, HB⟩ := hrel
        cases gk with
        | zero => exact absurd HA.out (by simp [spec_l4Table.l2])
        | succ k3 =>
         have H := HA.out
         clear HA
         simp only [spec_l4Table.l2] at H
         by_cases c44 : x13_3 < a0_0
         ·
          rw [if_pos c44] at H
          have c44b0 : decide (x13_3 < a0_0) = true := decide_eq_true c44
          clear c44
          by_cases c45 : 0 ≤ x11_2
          ·
           rw [if_pos c45] at H
           have c45b0 : decide (0 ≤ x11_2) = true := decide_eq_true c45
           clear c45
           by_cases c46 : x11_2 < (x7_1.length : Int)
           ·
            rw [if_pos c46] at H
            have c46b0 : decide (x11_2 < (x7_1.length : Int)) = true := decide_eq_true c46
            clear c46
            by_cases c47 : 0 ≤ x13_3
            ·
             rw [if_pos c47] at H
             have c47b0 : decide (0 ≤ x13_3) = true := decide_eq_true c47
             clear c47
             by_cases c48 : x13_3 < (x8_1.length : Int)
             ·
              rw [if_pos c48] at H
              have c48b0 : decide (x13_3 < (x8_1.length : Int)) = true := decide_eq_true c48
              clear c48
              obtain ⟨y410, hy410⟩ : ∃ y_ : List (List Int), y_ = (([rd_L2 x7_1 x11_2, rd_L2 x8_1 x13_3] : List (List Int))) := ⟨_, rfl⟩
              replace H : ((spec_l4Meet.f k3 y410).bind fun t413 => (if x12_3.length < 17592186044416 then (spec_l4Table.l2 k3 x7_1 x8_1 x9_2 x11_2 (x12_3 ++ [t413]) (wrap64 (x13_3 + 1)) a0_0 a0_1) else (none))) = some r := by first | (rw [hy410]; with_reducible exact H) | (have H2_ := (Option.bind_some _ _).symm.trans H; rw [hy410]; with_reducible exact H2_) | (have H2_ := (Option.bind_some _ _).symm.trans H; with_reducible exact H2_) | with_reducible exact H | (rw [hy410]; exact H) | exact H
              have Ny410 := A_ hy410
              clear hy410
              replace H := Option.bind_eq_some_iff.mp H
              obtain ⟨t413, A490, H⟩ := H
              replace H : (if x12_3.length < 17592186044416 then (spec_l4Table.l2 k3 x7_1 x8_1 x9_2 x11_2 (x12_3 ++ [t413]) (wrap64 (x13_3 + 1)) a0_0 a0_1) else (none)) = some r := H
              have A49 := A_ A490
              clear A490
              by_cases c50 : x12_3.length < 17592186044416
              ·
               rw [if_pos c50] at H
               have LMc50 := A_ c50
               clear c50
               obtain ⟨y414, hy414⟩ : ∃ y_ : List Int, y_ = (x12_3 ++ [t413]) := ⟨_, rfl⟩
               replace H : (spec_l4Table.l2 k3 x7_1 x8_1 x9_2 x11_2 y414 (wrap64 (x13_3 + 1)) a0_0 a0_1) = some r := by first | (rw [hy414]; with_reducible exact H) | (have H2_ := (Option.bind_some _ _).symm.trans H; rw [hy414]; with_reducible exact H2_) | (have H2_ := (Option.bind_some _ _).symm.trans H; with_reducible exact H2_) | with_reducible exact H | (rw [hy414]; exact H) | exact H
               have Ny414 := A_ hy414
               clear hy414
               have H' := A_ H
               clear H
               have hnb51 := NB369_370.out
               have hnc51 := NB370_369.out
               have hnb52 := NB369_371.out
               have hnc52 := NB371_369.out
               have hcz53_0 : wr.cell? ⟨gb369, 0, none⟩ = some (.int .i64 a0_0) := bc BK369 0
               have hcz53_1 : wr.cell? ⟨gb369, 1, none⟩ = some (.bool a0_1) := bc BK369 1
               have hfz53_0 := blk_frozen BK369.out 0
               have hfz53_1 := blk_frozen BK369.out 1
               try go_wp2
               have n0_ := A_ (Kd.S_drew HO_7.out)
               have n1_ := A_ (Kd.S_drew HO_8.out)
               have n2_ := A_ (Kd.S_drew HO_9.out)
               have n3_ := A_ (Kd.R_drew HO_12.out)
               have n4_ := A_ (blk_drew BK369.out)
               have n5_ := A_ (blk_drew BK370.out)
               have n6_ := A_ (blk_drew BK371.out)
               have n7_ := A_ (below_drew1 HB.out)
               clear HO_7 HO_8 HO_9 HO_12 BK369 BK370 BK371 HB; have HO_7 := n0_; have HO_8 := n1_; have HO_9 := n2_; have HO_12 := n3_; have BK369 := n4_; have BK370 := n5_; have BK371 := n6_; have HB := n7_; clear n0_ n1_ n2_ n3_ n4_ n5_ n6_ n7_
               obtain ⟨Ao55, co55, eo55⟩ := Kd.S_slice HO_7.out
               (first | subst eo55 | (injection eo55 with f1_ f2_ f3_; have f4_ := f1_.symm; have f5_ := f3_.symm; clear f1_ f2_ f3_; subst f4_; subst f5_))
               have p408 : 0 ≤ (x11_2 : Int) := of_decide_eq_true (by first | (with_reducible assumption) | assumption)
               have q408 : x11_2 < (x7_1.length : Int) := of_decide_eq_true (by first | (with_reducible assumption) | assumption)
               obtain ⟨ad408, A408_0, c408_0, e408, hx408_0, hl408_0, hi408_0⟩ := at_L2 (Kd.S_reads' HO_7.out).2.2 x11_2 p408 q408
               cases e408
               obtain ⟨ce408, hce408, hMe408, hcc408⟩ := Kd.S_get HO_7.out [] x11_2 p408 (by first | exact q408 | exact of_decide_eq_true (by first | (with_reducible assumption) | assumption) | (have e_ := (Kd.S_reads' HO_7.out).1; omega))
               obtain ⟨ve408_0, rfl, ge408_0⟩ := hMe408
               have hv408_0 := hcc408 0 _ rfl
               rw [Nat.add_zero, show ((Kd.slice 3 (Kd.int .i64))).sz = 1 from rfl, Nat.mul_one] at hv408_0
               replace hv408_0 := Option.some.inj (hv408_0.symm.trans hx408_0)
               rw [hv408_0] at ge408_0
               have HL408_0 := A_ (show Kd.R (Kd.int .i64) 3 _ _ _ _ (rd_L2 x7_1 x11_2) from ge408_0)
               clear hv408_0 ge408_0 hcc408 hce408
               have HR408_0 := A_ hi408_0
               have HC408_0 := A_ hl408_0
               clear hi408_0 hl408_0
               replace p408 := eq_true p408
               replace q408 := eq_true q408
               obtain ⟨Ao56, co56, eo56⟩ := Kd.S_slice HO_8.out
               (first | subst eo56 | (injection eo56 with f1_ f2_ f3_; have f4_ := f1_.symm; have f5_ := f3_.symm; clear f1_ f2_ f3_; subst f4_; subst f5_))
               have p409 : 0 ≤ (x13_3 : Int) := of_decide_eq_true (by first | (with_reducible assumption) | assumption)
               have q409 : x13_3 < (x8_1.length : Int) := of_decide_eq_true (by first | (with_reducible assumption) | assumption)
               obtain ⟨ad409, A409_0, c409_0, e409, hx409_0, hl409_0, hi409_0⟩ := at_L2 (Kd.S_reads' HO_8.out).2.2 x13_3 p409 q409
               cases e409
               obtain ⟨ce409, hce409, hMe409, hcc409⟩ := Kd.S_get HO_8.out [] x13_3 p409 (by first | exact q409 | exact of_decide_eq_true (by first | (with_reducible assumption) | assumption) | (have e_ := (Kd.S_reads' HO_8.out).1; omega))
               obtain ⟨ve409_0, rfl, ge409_0⟩ := hMe409
               have hv409_0 := hcc409 0 _ rfl
               rw [Nat.add_zero, show ((Kd.slice 3 (Kd.int .i64))).sz = 1 from rfl, Nat.mul_one] at hv409_0
               replace hv409_0 := Option.some.inj (hv409_0.symm.trans hx409_0)
               rw [hv409_0] at ge409_0
               have HL409_0 := A_ (show Kd.R (Kd.int .i64) 3 _ _ _ _ (rd_L2 x8_1 x13_3) from ge409_0)
               clear hv409_0 ge409_0 hcc409 hce409
               have HR409_0 := A_ hi409_0
               have HC409_0 := A_ hl409_0
               clear hi409_0 hl409_0
               replace p409 := eq_true p409
               replace q409 := eq_true q409
               refine start_ (n := 14) (S := fun w' => w'.cell? (ad408.add (x11_2).toNat) = some (.slice A408_0 (rd_L2 x7_1 x11_2).length c408_0) ∧ w'.cell? (ad409.add (x13_3).toNat) = some (.slice A409_0 (rd_L2 x8_1 x13_3).length c409_0)) (ds := [11, 12]) #[false, false, false, false, false, false, false, false, false, false, false, false, false, false] (by kernel_rfl) rfl rfl ⟨hx408_0, hx409_0⟩ (fun hHeld => ?_); refine with_tabW spec_l4Table.tab14 spec_l4Table.bits14 (fun HT_ HW_ => ?_)
               generalize wr.drew = w54 at HO_7 HO_8 HO_9 HO_12 BK369 BK370 BK371 HB HL408_0 HL409_0 HR408_0 HR409_0 hx408_0 hx409_0 hHeld ⊢
               refine pure_ (i := 0) (N := some 52) (v := ?_) (a' := ?_) #[true, false, false, false, false, false, false, false, false, false, false, false, false, false] rfl rfl (any_of HT_.out (by kernel_rfl)) (fun _ _ _ h => h) (Or.inl ⟨by rfl, ?_⟩) ?_ ?_
               rotate_left
               ·
                intro w'
                go_simp
                with_reducible rfl
               rotate_left
               ·
                simp only [Act.put, List.setIfInBounds_toArray, List.set_cons_zero, List.set_cons_succ, i64_w, i32_w]
                rfl
               refine pure_ (i := 1) (N := some 53) (v := ?_) (a' := ?_) #[true, true, false, false, false, false, false, false, false, false, false, false, false, false] rfl rfl (any_of HT_.out (by kernel_rfl)) (fun _ _ _ h => h) (Or.inl ⟨by rfl, ?_⟩) ?_ ?_
               rotate_left
               ·
                intro w'
                go_simp
                with_reducible rfl
               rotate_left
               ·
                simp only [Act.put, List.setIfInBounds_toArray, List.set_cons_zero, List.set_cons_succ, i64_w, i32_w]
                rfl
               refine pure_ (i := 2) (N := some 54) (v := ?_) (a' := ?_) #[true, true, true, false, false, false, false, false, false, false, false, false, false, false] rfl rfl (any_of HT_.out (by kernel_rfl)) (fun _ _ _ h => h) (Or.inl ⟨by rfl, ?_⟩) ?_ ?_
               rotate_left
               ·
                intro w'
                go_simp
                with_reducible rfl
               rotate_left
               ·
                simp only [Act.put, List.setIfInBounds_toArray, List.set_cons_zero, List.set_cons_succ, i64_w, i32_w]
                rfl
               refine pure_ (i := 3) (N := some 55) (v := ?_) (a' := ?_) #[true, true, true, true, false, false, false, false, false, false, false, false, false, false] rfl rfl (any_of HT_.out (by kernel_rfl)) (fun _ _ _ h => h) (Or.inl ⟨by rfl, ?_⟩) ?_ ?_
               rotate_left
               ·
                intro w'
                go_simp
                with_reducible rfl
               rotate_left
               ·
                simp only [Act.put, List.setIfInBounds_toArray, List.set_cons_zero, List.set_cons_succ, i64_w, i32_w]
                rfl
               refine pure_ (i := 5) (N := some 57) (v := ?_) (a' := ?_) #[true, true, true, true, false, true, false, false, false, false, false, false, false, false] rfl rfl (any_of HT_.out (by kernel_rfl)) (fun _ _ _ h => h) (Or.inl ⟨by rfl, ?_⟩) ?_ ?_
               rotate_left
               ·
                intro w'
                go_simp
                with_reducible rfl
               rotate_left
               ·
                simp only [Act.put, List.setIfInBounds_toArray, List.set_cons_zero, List.set_cons_succ, i64_w, i32_w]
                rfl
               refine pure_ (i := 6) (N := some 58) (v := ?_) (a' := ?_) #[true, true, true, true, false, true, true, false, false, false, false, false, false, false] rfl rfl (any_of HT_.out (by kernel_rfl)) (fun _ _ _ h => h) (Or.inl ⟨by rfl, ?_⟩) ?_ ?_
               rotate_left
               ·
                intro w'
                go_simp
                with_reducible rfl
               rotate_left
               ·
                simp only [Act.put, List.setIfInBounds_toArray, List.set_cons_zero, List.set_cons_succ, i64_w, i32_w]
                rfl
               refine pure_ (i := 7) (N := some 59) (v := ?_) (a' := ?_) #[true, true, true, true, false, true, true, true, false, false, false, false, false, false] rfl rfl (any_of HT_.out (by kernel_rfl)) (fun _ _ _ h => h) (Or.inl ⟨by rfl, ?_⟩) ?_ ?_
               rotate_left
               ·
                intro w'
                go_simp
                with_reducible rfl
               rotate_left
               ·
                simp only [Act.put, List.setIfInBounds_toArray, List.set_cons_zero, List.set_cons_succ, i64_w, i32_w]
                rfl
               refine take_ (i := 4) (N := some 56) (v := ?_) (a' := ?_) #[true, true, true, true, true, true, true, true, false, false, false, false, false, false] rfl rfl (take_ofW HT_.out HW_.out (by kernel_rfl)) (fun _ _ _ h => h) (Or.inl ⟨by rfl, ?_⟩) hHeld ?_ ?_
               rotate_left
               ·
                rintro w' ⟨s0, s1⟩
                go_simp
                with_reducible rfl
               rotate_left
               ·
                simp only [Act.put, List.setIfInBounds_toArray, List.set_cons_zero, List.set_cons_succ, i64_w, i32_w]
                rfl
               refine take_ (i := 8) (N := some 60) (v := ?_) (a' := ?_) #[true, true, true, true, true, true, true, true, true, false, false, false, false, false] rfl rfl (take_ofW HT_.out HW_.out (by kernel_rfl)) (fun _ _ _ h => h) (Or.inl ⟨by rfl, ?_⟩) hHeld ?_ ?_
               rotate_left
               ·
                rintro w' ⟨s0, s1⟩
                go_simp
                with_reducible rfl
               rotate_left
               ·
                simp only [Act.put, List.setIfInBounds_toArray, List.set_cons_zero, List.set_cons_succ, i64_w, i32_w]
                rfl
               refine one_ (i := 9) (N := some 61) #[true, true, true, true, true, true, true, true, true, true, false, false, false, false] rfl rfl (one_of HT_.out (by kernel_rfl)) (by decide) (fun K hK => ?_)
               refine V_lit_step (Kd.slice 3 (Kd.int .i64)) 0 26 ?hg (N' := 61) ?hd (xs := ([rd_L2 x7_1 x11_2, rd_L2 x8_1 x13_3] : List (List Int))) (inner := [.slice A408_0 (rd_L2 x7_1 x11_2).length c408_0, .slice A409_0 (rd_L2 x8_1 x13_3).length c409_0]) ?hr ?hp (by simp) ?_; (case hd => rfl); (case hg => rfl); (case hr => first | (go_simp; done) | (go_simp; rfl)); (case hp => exact (Reps.one (show Kd.FK (Kd.slice 3 (Kd.int .i64)) _ _ (rd_L2 x7_1 x11_2) [.slice A408_0 (rd_L2 x7_1 x11_2).length c408_0] from (Kd.FK_slice_mk HC408_0.out (Kd.F_mono (Kd.C_F (Kd.heap_int .i64) (by repeat (first | (with_reducible exact HR408_0.out) | (with_reducible refine Kd.C_alloc ?_ _) | (with_reducible refine Kd.C_drewN ?_ _) | (with_reducible refine Kd.C_drew ?_) | exact HR408_0.out))) (fun _ _ => trivial)))) (Reps.one (show Kd.FK (Kd.slice 3 (Kd.int .i64)) _ _ (rd_L2 x8_1 x13_3) [.slice A409_0 (rd_L2 x8_1 x13_3).length c409_0] from (Kd.FK_slice_mk HC409_0.out (Kd.F_mono (Kd.C_F (Kd.heap_int .i64) (by repeat (first | (with_reducible exact HR409_0.out) | (with_reducible refine Kd.C_alloc ?_ _) | (with_reducible refine Kd.C_drewN ?_ _) | (with_reducible refine Kd.C_drew ?_) | exact HR409_0.out))) (fun _ _ => trivial)))) (Reps.none _ _))))
               intro v411 w57 ho58 hb
               have HS0_ := (hb.cell (World.block_lt_of_cell? _ _ (hHeld.1))).trans (hHeld.1)
               have HS1_ := (hb.cell (World.block_lt_of_cell? _ _ (hHeld.2))).trans (hHeld.2)
               (first | rw [← Ny410.out] at ho58 | (simp only [Int.reduceToNat] at ho58; rw [← Ny410.out] at ho58))
               have n0_ := A_ (Kd.S_below (sq HO_7) hb)
               have n1_ := A_ (Kd.S_below (sq HO_8) hb)
               have n2_ := A_ (Kd.S_below (sq HO_9) hb)
               have n3_ := A_ (Kd.R_below (rq HO_12) hb)
               have n4_ := A_ (Kd.R_below (by (with_reducible repeat (first | apply Kd.R_alloc | apply Kd.R_drewN | apply Kd.R_drew)); exact HL408_0.out) hb)
               have n5_ := A_ (Kd.R_below (by (with_reducible repeat (first | apply Kd.R_alloc | apply Kd.R_drewN | apply Kd.R_drew)); exact HL409_0.out) hb)
               have n6_ := A_ (blk_below (bq BK369) hb)
               have n7_ := A_ (blk_below (bq BK370) hb)
               have n8_ := A_ (blk_below (bq BK371) hb)
               have n9_ := A_ (Kd.C_below (by repeat (first | (with_reducible exact HR408_0.out) | (with_reducible refine Kd.C_alloc ?_ _) | (with_reducible refine Kd.C_drewN ?_ _) | (with_reducible refine Kd.C_drew ?_) | exact HR408_0.out)) hb)
               have n10_ := A_ (Kd.C_below (by repeat (first | (with_reducible exact HR409_0.out) | (with_reducible refine Kd.C_alloc ?_ _) | (with_reducible refine Kd.C_drewN ?_ _) | (with_reducible refine Kd.C_drew ?_) | exact HR409_0.out)) hb)
               have n11_ := A_ (below_step (hq HB) hb)
               have n12_ := A_ (ho58)
               clear HO_7 HO_8 HO_9 HO_12 HL408_0 HL409_0 BK369 BK370 BK371 HR408_0 HR409_0 HB; have HO_7 := n0_; have HO_8 := n1_; have HO_9 := n2_; have HO_12 := n3_; have HL408_0 := n4_; have HL409_0 := n5_; have BK369 := n6_; have BK370 := n7_; have BK371 := n8_; have HR408_0 := n9_; have HR409_0 := n10_; have HB := n11_; have HO412 := n12_; clear n0_ n1_ n2_ n3_ n4_ n5_ n6_ n7_ n8_ n9_ n10_ n11_ n12_ hb ho58
               obtain ⟨Ao59, co59, eo59⟩ := Kd.V_slice HO412.out
               (first | subst eo59 | (injection eo59 with f1_ f2_ f3_; have f4_ := f1_.symm; have f5_ := f3_.symm; clear f1_ f2_ f3_; subst f4_; subst f5_))
               refine hK.out _ _ ⟨HS0_, HS1_⟩ (fun hHeld => ?_)
               clear hK K
               refine norm_ (a' := ?_) ?_ ?_
               rotate_left
               ·
                exact pq (d := some 61)
               refine one_ (i := 10) (N := some 62) #[true, true, true, true, true, true, true, true, true, true, true, false, false, false] rfl rfl (one_of HT_.out (by kernel_rfl)) (by decide) (fun K hK => ?_)
               refine goes_ Try.func122 (by kernel_rfl) rfl #[.slice Ao59 y410.length co59] (by rfl) rfl rfl gq ?_
               with_reducible refine (spec_l4Meet.calls k3 _ _ y410 t413 _ ?side1 ?side2 A49.out).mono ?_
               (case side1 => exact cq (Kd.V_reads' HO412.out).2.2)
               (case side2 => exact (Kd.V_reads' HO412.out).2.1)
               rintro e w' ⟨rfl, ⟨nd, rfl⟩⟩
               refine ⟨_, rfl, ?_⟩
               refine hK.out _ _ ⟨hHeld.1, hHeld.2⟩ (fun hHeld => ?_)
               clear hK K
               refine norm_ (a' := ?_) ?_ ?_
               rotate_left
               ·
                exact pq (d := some 62)
               refine last_ (i := 11) (N := some 63) #[true, true, true, true, true, true, true, true, true, true, true, true, false, false] rfl rfl (one_of HT_.out (by kernel_rfl)) (by decide) (fun K hK => ?_)
               refine value_ (w1 := ?_) (v := ?_) (by rfl) rfl ?_ ?_
               rotate_left 2
               ·
                go_simp
                constructor
                ·
                 rfl
                ·
                 rfl
               refine hK.out _ _ ?_
               clear hK K
               refine norm_ (a' := ?_) ?_ ?_
               rotate_left
               ·
                exact pq (d := some 63)
               refine last_ (i := 12) (N := some 64) #[true, true, true, true, true, true, true, true, true, true, true, true, true, false] rfl rfl (one_of HT_.out (by kernel_rfl)) (by decide) (fun K hK => ?_)
               refine Kd.R_append_step (Kd.int .i64) (w0 := w) w.heap.size (by rfl) (.tmp 52) (.tmp 63) 26 3 (.int .i64 0) 8 rfl Try.underlying26 info3 rfl (by decide) (by omega) u12 x12_3 t413 [.int .i64 t413] (fun _ => True) (fun _ => False) rfl rfl ?aP (fun _ hk => hk.elim) ?aF ?aO ?aB ?aS ?aL ?_
               (case aP => exact rfl)
               (case aB => exact (hq HB))
               (case aF => exact (fun _ _ => trivial))
               (case aO => exact (rq HO_12))
               (case aS => exact (below_size (hq HB)))
               (case aL => have := LMc50.out; omega)
               intro v415 w60 ho hb hg hat
               rw [← Ny414.out] at ho
               have n0_ := A_ (Kd.S_after (ok := (fun k_ => some k_ ≠ (.slice (some ad409) x8_1.length co56 : Value).ownBlock ∧ some k_ ≠ (u9 : Value).ownBlock)) (by (with_reducible repeat (first | apply Kd.S_alloc | apply Kd.S_drewN | apply Kd.S_drew)); exact Kd.S_mono HO_7.out (fun _ hk => ⟨⟨hk.1, hk.2.1⟩, hk.2.2⟩)) hg hat)
               have n1_ := A_ (Kd.S_after (ok := (fun k_ => some k_ ≠ (.slice (some ad408) x7_1.length co55 : Value).ownBlock ∧ some k_ ≠ (u9 : Value).ownBlock)) (by (with_reducible repeat (first | apply Kd.S_alloc | apply Kd.S_drewN | apply Kd.S_drew)); exact Kd.S_mono HO_8.out (fun _ hk => ⟨⟨hk.1, hk.2.1⟩, hk.2.2⟩)) hg hat)
               have n2_ := A_ (Kd.S_after (ok := (fun k_ => some k_ ≠ (.slice (some ad408) x7_1.length co55 : Value).ownBlock ∧ some k_ ≠ (.slice (some ad409) x8_1.length co56 : Value).ownBlock)) (by (with_reducible repeat (first | apply Kd.S_alloc | apply Kd.S_drewN | apply Kd.S_drew)); exact Kd.S_mono HO_9.out (fun _ hk => ⟨⟨hk.1, hk.2.1⟩, hk.2.2⟩)) hg hat)
               have n3_ := A_ (blk_grown (g := gb369) (o := .cells #[.int .i64 a0_0, .bool a0_1] 25 (0, 0)) (bq BK369) hg (Kd.R_ne HO_12.out BK369.out (by decide)))
               have n4_ := A_ (blk_grown (g := gb370) (o := .cells #[.int .i64 a1_0, .int .i64 a1_1, .int .i64 a1_2, .slice A1_3 l1_3.length c1_3] 93 (0, 0)) (bq BK370) hg (Kd.R_ne HO_12.out BK370.out (by decide)))
               have n5_ := A_ (blk_grown (g := gb371) (o := .cells #[.int .i64 a2_0, .int .i64 a2_1, .int .i64 a2_2, .slice A2_3 l2_3.length c2_3] 93 (0, 0)) (bq BK371) hg (Kd.R_ne HO_12.out BK371.out (by decide)))
               have n6_ := A_ (Kd.R_after (ok := (fun k_ => some k_ ≠ (.slice (some ad408) x7_1.length co55 : Value).ownBlock ∧ some k_ ≠ (.slice (some ad409) x8_1.length co56 : Value).ownBlock ∧ some k_ ≠ (u9 : Value).ownBlock)) (by (with_reducible repeat (first | apply Kd.R_alloc | apply Kd.R_drewN | apply Kd.R_drew)); exact Kd.R_mono HL408_0.out (fun _ hk => ⟨⟨hk.2, ⟨hk.1.1, hk.1.2.1⟩⟩, hk.1.2.2⟩)) hg hat)
               have n7_ := A_ (Kd.R_after (ok := (fun k_ => some k_ ≠ (.slice (some ad408) x7_1.length co55 : Value).ownBlock ∧ some k_ ≠ (.slice (some ad409) x8_1.length co56 : Value).ownBlock ∧ some k_ ≠ (u9 : Value).ownBlock)) (by (with_reducible repeat (first | apply Kd.R_alloc | apply Kd.R_drewN | apply Kd.R_drew)); exact Kd.R_mono HL409_0.out (fun _ hk => ⟨⟨hk.1.1, ⟨hk.2, hk.1.2.1⟩⟩, hk.1.2.2⟩)) hg hat)
               have n8_ := A_ (hb)
               have n9_ := A_ (ho)
               clear HO_7 HO_8 HO_9 BK369 BK370 BK371 HL408_0 HL409_0 HB HO_12; have HO_7 := n0_; have HO_8 := n1_; have HO_9 := n2_; have BK369 := n3_; have BK370 := n4_; have BK371 := n5_; have HL408_0 := n6_; have HL409_0 := n7_; have HB := n8_; have HO416 := n9_; clear n0_ n1_ n2_ n3_ n4_ n5_ n6_ n7_ n8_ n9_ ho hb hg hat
               refine hK.out _ _ ?_
               clear hK K
               refine norm_ (a' := ?_) ?_ ?_
               rotate_left
               ·
                exact pq (d := some 64)
               refine pure_ (i := 13) (N := some 12) (v := ?_) (a' := ?_) #[true, true, true, true, true, true, true, true, true, true, true, true, true, true] rfl rfl (any_of HT_.out (by kernel_rfl)) (fun _ _ _ h => h) (Or.inl ⟨by rfl, ?_⟩) ?_ ?_
               rotate_left
               ·
                intro w'
                go_simp
                with_reducible rfl
               rotate_left
               ·
                simp only [Act.put, List.setIfInBounds_toArray, List.set_cons_zero, List.set_cons_succ, i64_w, i32_w]
                rfl
               refine done_ (done_of HT_.out (by kernel_rfl)) ?_
               try go_wp2
               go_roundg k3
               case measure => have := HK1.out; have := HK2.out; have := HK3.out; omega
               case rel => exact ⟨(y414), (wrap64 (x13_3 + 1)), (by first | rfl | (simp; done) | (simp [*]; done)), H', ⟨by have := HK1.out; have := HK2.out; have := HK3.out; omega⟩, ⟨by (with_reducible repeat (first | apply Kd.S_alloc | apply Kd.S_drewN | apply Kd.S_drew)); exact Kd.S_mono HO_7.out (fun _ hk => ⟨hk.1.1, ⟨hk.1.2, hk.2⟩⟩)⟩, ⟨by (with_reducible repeat (first | apply Kd.S_alloc | apply Kd.S_drewN | apply Kd.S_drew)); exact Kd.S_mono HO_8.out (fun _ hk => ⟨hk.1.1, ⟨hk.1.2, hk.2⟩⟩)⟩, ⟨by (with_reducible repeat (first | apply Kd.S_alloc | apply Kd.S_drewN | apply Kd.S_drew)); exact Kd.S_mono HO_9.out (fun _ hk => ⟨hk.1.1, ⟨hk.1.2, hk.2⟩⟩)⟩, ⟨rq HO416⟩, ⟨bq BK369⟩, ⟨bq BK370⟩, ⟨bq BK371⟩, ⟨hq HB⟩⟩
              ·
               rw [if_neg c50] at H
               exact absurd H (by simp)
             ·
              rw [if_neg c48] at H
              exact absurd H (by simp)
            ·
             rw [if_neg c47] at H
             exact absurd H (by simp)
           ·
            rw [if_neg c46] at H
            exact absurd H (by simp)
          ·
           rw [if_neg c45] at H
           exact absurd H (by simp)
         ·
          rw [if_neg c44] at H
          have c44b0 : decide (x13_3 < a0_0) = false := decide_eq_false c44
          clear c44
          by_cases c61 : x9_2.length < 5864062014805
          ·
           rw [if_pos c61] at H
           have LMc61 := A_ c61
           clear c61
           obtain ⟨y417, hy417⟩ : ∃ y_ : List (List Int), y_ = (x9_2 ++ [x12_3]) := ⟨_, rfl⟩
           replace H : (spec_l4Table.l1 k3 x7_1 x8_1 y417 (wrap64 (x11_2 + 1)) a0_0 a0_1) = some r := by first | (rw [hy417]; with_reducible exact H) | (have H2_ := (Option.bind_some _ _).symm.trans H; rw [hy417]; with_reducible exact H2_) | (have H2_ := (Option.bind_some _ _).symm.trans H; with_reducible exact H2_) | with_reducible exact H | (rw [hy417]; exact H) | exact H
           have Ny417 := A_ hy417
           clear hy417
           have H' := A_ H
           clear H
           have hnb62 := NB369_370.out
           have hnc62 := NB370_369.out
           have hnb63 := NB369_371.out
           have hnc63 := NB371_369.out
           have hcz64_0 : wr.cell? ⟨gb369, 0, none⟩ = some (.int .i64 a0_0) := bc BK369 0
           have hcz64_1 : wr.cell? ⟨gb369, 1, none⟩ = some (.bool a0_1) := bc BK369 1
           have hfz64_0 := blk_frozen BK369.out 0
           have hfz64_1 := blk_frozen BK369.out 1
           obtain ⟨Ao66, co66, eo66⟩ := Kd.R_slice HO_12.out
           subst eo66
           go_wp2_with (first | ((with_reducible refine gate_builtin (b := .append) (xs := #[.tmp 65, .tmp 67]) rfl ?_); at_builtin; refine Kd.S_append (Kd.slice 3 (Kd.int .i64)) (w0 := w) w.heap.size rfl (.tmp 65) (.tmp 67) 40 26 (.slice none 0 0) 24 rfl Try.underlying40 info26 rfl (by decide) (by omega) u9 x9_2 x12_3 [.slice Ao66 x12_3.length co66] (fun k_ => some k_ ≠ (u7 : Value).ownBlock ∧ some k_ ≠ (u8 : Value).ownBlock) (fun k_ => some k_ = (.slice Ao66 x12_3.length co66 : Value).ownBlock) rfl rfl ?aP (fun k_ hk_ => ((Kd.R_mono (ok' := fun k_ => ((fun k_ => some k_ ≠ (u7 : Value).ownBlock ∧ some k_ ≠ (u8 : Value).ownBlock)) k_ ∧ some k_ ≠ (u9 : Value).ownBlock) (Kd.R_apart' (Kd.R_apart' (Kd.R_apart' (HO_12.out) (Kd.S_typed HO_7.out) (by decide)) (Kd.S_typed HO_8.out) (by decide)) (Kd.S_typed HO_9.out) (by decide)) (fun k_ hk => ⟨⟨hk.1.1.2, hk.1.2⟩, hk.2⟩))).1 k_ hk_.symm) ?aF ?aO ?aB ?aS ?aL ?_; (case aP => exact Kd.M_row (Kd.R_mono (Kd.R_tight rfl (Kd.R_mono (ok' := fun k_ => ((fun k_ => some k_ ≠ (u7 : Value).ownBlock ∧ some k_ ≠ (u8 : Value).ownBlock)) k_ ∧ some k_ ≠ (u9 : Value).ownBlock) (Kd.R_apart' (Kd.R_apart' (Kd.R_apart' (HO_12.out) (Kd.S_typed HO_7.out) (by decide)) (Kd.S_typed HO_8.out) (by decide)) (Kd.S_typed HO_9.out) (by decide)) (fun k_ hk => ⟨⟨hk.1.1.2, hk.1.2⟩, hk.2⟩))) (fun _ h_ => h_))); (case aB => exact (hq HB)); (case aF => exact (fun k_ hk => ⟨Kd.fresh' (Kd.S_lt (sq HO_7)) k_ hk, Kd.fresh' (Kd.S_lt (sq HO_8)) k_ hk⟩)); (case aO => exact (by (with_reducible repeat (first | apply Kd.S_alloc | apply Kd.S_drewN | apply Kd.S_drew)); exact Kd.S_mono HO_9.out (fun k_ hk => ⟨⟨hk.1, hk.2.1⟩, fun e_ => hk.2.2 e_⟩))); (case aS => exact (below_size (hq HB))); (case aL => have := LMc61.out; omega); intro v418 w65 ho hb hg hat; rw [← Ny417.out] at ho; have n0_ := A_ (Kd.S_after (ok := (fun k_ => some k_ ≠ (u8 : Value).ownBlock ∧ some k_ ≠ (.slice Ao66 x12_3.length co66 : Value).ownBlock)) (by (with_reducible repeat (first | apply Kd.S_alloc | apply Kd.S_drewN | apply Kd.S_drew)); exact Kd.S_mono HO_7.out (fun _ hk => ⟨⟨hk.1, hk.2.2⟩, hk.2.1⟩)) hg hat); have n1_ := A_ (Kd.S_after (ok := (fun k_ => some k_ ≠ (u7 : Value).ownBlock ∧ some k_ ≠ (.slice Ao66 x12_3.length co66 : Value).ownBlock)) (by (with_reducible repeat (first | apply Kd.S_alloc | apply Kd.S_drewN | apply Kd.S_drew)); exact Kd.S_mono HO_8.out (fun _ hk => ⟨⟨hk.1, hk.2.2⟩, hk.2.1⟩)) hg hat); have n2_ := A_ (blk_grown (g := gb369) (o := .cells #[.int .i64 a0_0, .bool a0_1] 25 (0, 0)) (bq BK369) hg (Kd.S_ne HO_9.out BK369.out (by decide))); have n3_ := A_ (blk_grown (g := gb370) (o := .cells #[.int .i64 a1_0, .int .i64 a1_1, .int .i64 a1_2, .slice A1_3 l1_3.length c1_3] 93 (0, 0)) (bq BK370) hg (Kd.S_ne HO_9.out BK370.out (by decide))); have n4_ := A_ (blk_grown (g := gb371) (o := .cells #[.int .i64 a2_0, .int .i64 a2_1, .int .i64 a2_2, .slice A2_3 l2_3.length c2_3] 93 (0, 0)) (bq BK371) hg (Kd.S_ne HO_9.out BK371.out (by decide))); have n5_ := A_ (hb); have n6_ := A_ (ho); clear HO_7; clear HO_8; clear BK369; clear BK370; clear BK371; clear HB; clear HO_9; clear HO_12; have HO_7 := n0_; have HO_8 := n1_; have BK369 := n2_; have BK370 := n3_; have BK371 := n4_; have HB := n5_; have HO419 := n6_; clear n0_ n1_ n2_ n3_ n4_ n5_ n6_; clear ho hb hg hat))
           go_roundg k3
           case measure => have := HK1.out; have := HK2.out; have := HK3.out; omega
           case rel => exact ⟨(y417), (wrap64 (x11_2 + 1)), (by first | rfl | (simp; done) | (simp [*]; done)), H', ⟨by have := HK1.out; have := HK2.out; have := HK3.out; omega⟩, ⟨by (with_reducible repeat (first | apply Kd.S_alloc | apply Kd.S_drewN | apply Kd.S_drew)); exact Kd.S_mono HO_7.out (fun _ hk => ⟨hk.1.1, hk.2⟩)⟩, ⟨by (with_reducible repeat (first | apply Kd.S_alloc | apply Kd.S_drewN | apply Kd.S_drew)); exact Kd.S_mono HO_8.out (fun _ hk => ⟨hk.1.1, hk.2⟩)⟩, ⟨sq HO419⟩, ⟨bq BK369⟩, ⟨bq BK370⟩, ⟨bq BK371⟩, ⟨hq HB⟩⟩
          ·
           rw [if_neg c61] at H
           exact absurd H (by simp)
      ·
       rw [if_neg c38] at H
       have c38b0 : decide (x11_2 < a0_0) = false := decide_eq_false c38
       clear c38
       obtain rfl := Option.some.inj H
       have hnb67 := NB369_370.out
       have hnc67 := NB370_369.out
       have hnb68 := NB369_371.out
       have hnc68 := NB371_369.out
       have hcz69_0 : wr.cell? ⟨gb369, 0, none⟩ = some (.int .i64 a0_0) := bc BK369 0
       have hcz69_1 : wr.cell? ⟨gb369, 1, none⟩ = some (.bool a0_1) := bc BK369 1
       have hfz69_0 := blk_frozen BK369.out 0
       have hfz69_1 := blk_frozen BK369.out 1
       go_wp2
       go_ret
       exact ⟨_, rt, by (with_reducible repeat (first | apply Kd.S_alloc | apply Kd.S_drewN | apply Kd.S_drew)); exact Kd.S_mono HO_9.out (fun _ hk => trivial), hq HB⟩

end Go.Proofs.Ytmamhnbhahafgaa.PFnLabels
