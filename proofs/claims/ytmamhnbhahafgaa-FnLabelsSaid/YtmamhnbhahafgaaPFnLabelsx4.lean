-- Printed, and told shorter by this session's program shrink.py.
-- Printed by this session's program myprint.py.
import Derived.Test.YtmamhnbhahafgaaPFnLabelsx0
import Derived.Test.YtmamhnbhahafgaaPFnLabelsx3
namespace Go.Proofs.Ytmamhnbhahafgaa.PFnLabels
open Go.RowKit Go.Proofs.Ytmamhnbhahafgaa.Own Go.Proofs.YtmamhnbhahafgaaW.PrintWords Go.Proofs.YtmamhnbhahafgaaW.PrintLast Go.Proofs.YtmamhnbhahafgaaW.PrintMore
attribute [local go_sem] max2_int min2_int max_two min_two max_three min_three max_four min_four   -- for this text's walks alone
set_option linter.unusedVariables false
set_option linter.unusedSimpArgs false

/-! ### impl_Road_walk: function 117 -/
def impl_Road_walk.l0 : Nat → List Int → Int → Int → Int → Int → Bool → Int → Int → Int → List Int → Option (List Int)
  | 0, _, _, _, _, _, _, _, _, _, _ => none
  | k + 1, x7, x8, x16, x17, x219000, x219001, x220000, x220001, x220002, x220003 => if x17 < x16 then (if x17 ≥ x220002 then (if (x220003.length : Int) = 0 then (none) else (if 0 ≤ (Int.tmod (wrap64 (x17 - x220002)) (x220003.length : Int)) then (if (Int.tmod (wrap64 (x17 - x220002)) (x220003.length : Int)) < (x220003.length : Int) then (if x219001 = true then (if x219000 = 0 then (none) else ((impl_Road_has.f k x219000 x219001 (([Int.tmod (wrap64 ((wrap64 (x8 + (wrap64 (x220001 * (rd x220003 (Int.tmod (wrap64 (x17 - x220002)) (x220003.length : Int))))))) + x219000)) x219000] : List Int))).bind fun t227 => (if t227 = true then (if x7.length < 17592186044416 then (impl_Road_walk.l0 k (x7 ++ [Int.tmod (wrap64 ((wrap64 (x8 + (wrap64 (x220001 * (rd x220003 (Int.tmod (wrap64 (x17 - x220002)) (x220003.length : Int))))))) + x219000)) x219000]) (Int.tmod (wrap64 ((wrap64 (x8 + (wrap64 (x220001 * (rd x220003 (Int.tmod (wrap64 (x17 - x220002)) (x220003.length : Int))))))) + x219000)) x219000) x16 (wrap64 (x17 + 1)) x219000 x219001 x220000 x220001 x220002 x220003) else (none)) else (if x7.length < 17592186044416 then (impl_Road_walk.l0 k (x7 ++ [x8]) x8 x16 (wrap64 (x17 + 1)) x219000 x219001 x220000 x220001 x220002 x220003) else (none))))) else ((impl_Road_has.f k x219000 x219001 (([wrap64 (x8 + (wrap64 (x220001 * (rd x220003 (Int.tmod (wrap64 (x17 - x220002)) (x220003.length : Int))))))] : List Int))).bind fun t237 => (if t237 = true then (if x7.length < 17592186044416 then (impl_Road_walk.l0 k (x7 ++ [wrap64 (x8 + (wrap64 (x220001 * (rd x220003 (Int.tmod (wrap64 (x17 - x220002)) (x220003.length : Int))))))]) (wrap64 (x8 + (wrap64 (x220001 * (rd x220003 (Int.tmod (wrap64 (x17 - x220002)) (x220003.length : Int))))))) x16 (wrap64 (x17 + 1)) x219000 x219001 x220000 x220001 x220002 x220003) else (none)) else (if x7.length < 17592186044416 then (impl_Road_walk.l0 k (x7 ++ [x8]) x8 x16 (wrap64 (x17 + 1)) x219000 x219001 x220000 x220001 x220002 x220003) else (none))))) else (none)) else (none))) else (if x7.length < 17592186044416 then (impl_Road_walk.l0 k (x7 ++ [x8]) x8 x16 (wrap64 (x17 + 1)) x219000 x219001 x220000 x220001 x220002 x220003) else (none))) else (some x7)
def impl_Road_walk.f (k : Nat) (a0_0 : Int) (a0_1 : Bool) (a1_0 : Int) (a1_1 : Int) (a1_2 : Int) (l1_3 : List Int) (a2 : Int) : Option (List Int) := impl_Road_walk.l0 k (([a1_0] : List Int)) a1_0 a2 0 a0_0 a0_1 a1_0 a1_1 a1_2 l1_3
theorem impl_Road_walk.mono_l : ∀ k, (∀ y0 y1 y2 y3 y4 y5 y6 y7 y8 y9, LeO (impl_Road_walk.l0 k y0 y1 y2 y3 y4 y5 y6 y7 y8 y9) (impl_Road_walk.l0 (k + 1) y0 y1 y2 y3 y4 y5 y6 y7 y8 y9))
  | 0 => fun _ _ _ _ _ _ _ _ _ _ r h => by simp [impl_Road_walk.l0] at h
  | k + 1 => by
    have ih0 := impl_Road_walk.mono_l k
    · intro y0 y1 y2 y3 y4 y5 y6 y7 y8 y9
      unfold impl_Road_walk.l0
      repeat' first
      | (with_reducible exact ih0 _ _ _ _ _ _ _ _ _ _)
      | (with_reducible exact impl_Road_has.mono _ _ _ _)
      | (with_reducible exact LeO.refl _)
      | (with_reducible exact LeO.none _)
      | (with_reducible refine LeO.ite ?_ ?_)
      | (with_reducible refine LeO.bind ?_ (fun _ => ?_))
      | exact ih0 _ _ _ _ _ _ _ _ _ _
      | exact impl_Road_has.mono _ _ _ _
      | exact LeO.none _
      | refine LeO.ite ?_ ?_
      | refine LeO.bind ?_ (fun _ => ?_)
theorem impl_Road_walk.mono : ∀ a0 a1 a2 a3 a4 a5 a6 k, LeO (impl_Road_walk.f k a0 a1 a2 a3 a4 a5 a6) (impl_Road_walk.f (k + 1) a0 a1 a2 a3 a4 a5 a6) := by
  intro a0 a1 a2 a3 a4 a5 a6 k
  have ih0 := impl_Road_walk.mono_l k
  unfold impl_Road_walk.f
  repeat' first
      | (with_reducible exact ih0 _ _ _ _ _ _ _ _ _ _)
      | (with_reducible exact impl_Road_has.mono _ _ _ _)
      | (with_reducible exact LeO.refl _)
      | (with_reducible exact LeO.none _)
      | (with_reducible refine LeO.ite ?_ ?_)
      | (with_reducible refine LeO.bind ?_ (fun _ => ?_))
      | exact ih0 _ _ _ _ _ _ _ _ _ _
      | exact impl_Road_has.mono _ _ _ _
      | exact LeO.none _
      | refine LeO.ite ?_ ?_
      | refine LeO.bind ?_ (fun _ => ?_)
def impl_Road_walk.T6 : Bool × List (List Nat × List Nat) := (true, [([], []), ([], []), ([1], [1]), ([], []), ([3], [3]), ([], []), ([], []), ([6], [6]), ([5, 7], [5, 7]), ([], []), ([9], [9]), ([10], [10]), ([8, 11], [8, 11]), ([4, 12], [4, 12]), ([13], [13]), ([2, 14], [2, 14]), ([0, 15], [0, 15]), ([16, 0, 1, 2, 3, 4, 5, 6, 7, 8, 9, 10, 11, 12, 13, 14, 15, 16], [16])])
def impl_Road_walk.B6 : List Nat := [0, 0, 2, 0, 8, 0, 0, 64, 224, 0, 512, 1536, 4064, 8184, 16376, 32766, 65535, 131071]
theorem impl_Road_walk.tab6 : rtab .any (opsOf Try.f117 6) = impl_Road_walk.T6 := by kernel_rfl
theorem impl_Road_walk.bits6 : waitsOk impl_Road_walk.T6.2 impl_Road_walk.B6 = true := by kernel_rfl
set_option maxHeartbeats 8000000 in
set_option maxRecDepth 100000 in
theorem impl_Road_walk.calls (k : Nat) (a0_0 : Int) (a0_1 : Bool) (a1_0 : Int) (a1_1 : Int) (a1_2 : Int) (A1_3 : Option Addr) (c1_3 : Nat) (l1_3 : List Int) (a2 : Int) (r : List Int) (w : World) (hr1_3 : Kd.C (Kd.int .i64) w A1_3 l1_3.length l1_3) (hc1_3 : l1_3.length ≤ c1_3) (h : impl_Road_walk.f k a0_0 a0_1 a1_0 a1_1 a1_2 l1_3 a2 = some r) :
    Calls Try.prog 117 #[.agg #[.int .i64 a0_0, .bool a0_1], .agg #[.int .i64 a1_0, .int .i64 a1_1, .int .i64 a1_2, .slice A1_3 l1_3.length c1_3], .int .i64 a2] w fun e w' => ∃ v0_ : Value, e = .returned (v0_) ∧ Kd.R (Kd.int .i64) 3 w' w.heap.size (fun _ => True) v0_ r ∧ Below w.heap.size w w' := by
 have hu25 := Try.underlying25
 have hu93 := Try.underlying93
 have HR1_3 := A_ hr1_3
 have HC1_3 := A_ hc1_3
 clear hr1_3 hc1_3
 have HB := A_ (Below.refl w.heap.size w)
 have H : (impl_Road_walk.l0 k (([a1_0] : List Int)) a1_0 a2 0 a0_0 a0_1 a1_0 a1_1 a1_2 l1_3) = some r := h
 clear h
 obtain ⟨y220, hy220⟩ : ∃ y_ : List Int, y_ = (([a1_0] : List Int)) := ⟨_, rfl⟩
 replace H : (impl_Road_walk.l0 k y220 a1_0 a2 0 a0_0 a0_1 a1_0 a1_1 a1_2 l1_3) = some r := by first | (rw [hy220]; with_reducible exact H) | (have H2_ := (Option.bind_some _ _).symm.trans H; rw [hy220]; with_reducible exact H2_) | (have H2_ := (Option.bind_some _ _).symm.trans H; with_reducible exact H2_) | with_reducible exact H | (rw [hy220]; exact H) | exact H
 have Ny220 := A_ hy220
 clear hy220
 have H' := A_ H
 clear H
 go_enter Try.func117, Try.ntmps117
 try go_wp2_with (first | ((with_reducible refine gate_dst (N := 3) rfl ?_); refine box_event ?hg (N := 3) ?hd (cs := #[.int .i64 a0_0, .bool a0_1]) (t := 25) ?hr ?_; (case hd => rfl); (case hg => rfl); (case hr => first | (go_simp; done) | (go_simp; rfl)); intro gb218 hg w4 hbox hb; have n0_ := A_ (below_step (hq HB) hb); have n1_ := A_ (hbox); have n2_ := A_ ((by rw [hg]; exact (below_size (hq HB)) : w.heap.size ≤ gb218)); have n3_ := A_ ((by rw [hg]; exact (below_size (hq HB)) : w.heap.size ≤ gb218)); clear HB; have HB := n0_; have BK218 := n1_; have GW218 := n2_; have GE218 := n3_; clear n0_ n1_ n2_ n3_; clear hb hbox hg) | ((with_reducible refine gate_dst (N := 4) rfl ?_); refine box_event ?hg (N := 4) ?hd (cs := #[.int .i64 a1_0, .int .i64 a1_1, .int .i64 a1_2, .slice A1_3 l1_3.length c1_3]) (t := 93) ?hr ?_; (case hd => rfl); (case hg => rfl); (case hr => first | (go_simp; done) | (go_simp; rfl)); intro gb219 hg w5 hbox hb; have n0_ := A_ (blk_below (bq BK218) hb); have n1_ := A_ (below_step (hq HB) hb); have n2_ := A_ (hbox); have n3_ := A_ ((by rw [hg]; exact (below_size (hq HB)) : w.heap.size ≤ gb219)); have n4_ := A_ ((by rw [hg]; exact (below_size (hq HB)) : w.heap.size ≤ gb219)); have n5_ := A_ ((by rw [hg]; exact Nat.ne_of_lt (blk_lt (bq BK218)) : gb218 ≠ gb219)); have n6_ := A_ ((by rw [hg]; exact Nat.ne_of_gt (blk_lt (bq BK218)) : gb219 ≠ gb218)); clear BK218; clear HB; have BK218 := n0_; have HB := n1_; have BK219 := n2_; have GW219 := n3_; have GE219 := n4_; have NB218_219 := n5_; have NB219_218 := n6_; clear n0_ n1_ n2_ n3_ n4_ n5_ n6_; clear hb hbox hg))
 have n0_ := A_ (blk_drew BK218.out)
 have n1_ := A_ (blk_drew BK219.out)
 have n2_ := A_ (below_drew1 HB.out)
 clear BK218 BK219 HB; have BK218 := n0_; have BK219 := n1_; have HB := n2_; clear n0_ n1_ n2_
 refine start_ (n := 7) (S := fun w' => w'.cell? ⟨gb219, 0, none⟩ = some (.int .i64 a1_0) ∧ w'.cell? ⟨gb219, 1, none⟩ = some (.int .i64 a1_1) ∧ w'.cell? ⟨gb219, 2, none⟩ = some (.int .i64 a1_2) ∧ w'.cell? ⟨gb219, 3, none⟩ = some (.slice A1_3 l1_3.length c1_3)) (ds := []) #[false, false, false, false, false, false, false] (by kernel_rfl) rfl rfl ⟨bc BK219 0, bc BK219 1, bc BK219 2, bc BK219 3⟩ (fun hHeld => ?_)
 generalize w5.drew = w6 at BK218 BK219 HB hHeld ⊢
 refine pure_ (i := 0) (N := some 11) (v := ?_) (a' := ?_) #[true, false, false, false, false, false, false] rfl rfl (by kernel_rfl) (fun _ _ _ h => h) (Or.inl ⟨by rfl, ?_⟩) ?_ ?_
 rotate_left
 ·
  intro w'
  go_simp
  with_reducible rfl
 rotate_left
 ·
  simp only [Act.put, List.setIfInBounds_toArray, List.set_cons_zero, List.set_cons_succ, i64_w, i32_w]
  rfl
 refine pure_ (i := 3) (N := some 14) (v := ?_) (a' := ?_) #[true, false, false, true, false, false, false] rfl rfl (by kernel_rfl) (fun _ _ _ h => h) (Or.inl ⟨by rfl, ?_⟩) ?_ ?_
 rotate_left
 ·
  intro w'
  go_simp
  with_reducible rfl
 rotate_left
 ·
  simp only [Act.put, List.setIfInBounds_toArray, List.set_cons_zero, List.set_cons_succ, i64_w, i32_w]
  rfl
 refine take_ (i := 1) (N := some 12) (v := ?_) (a' := ?_) #[true, true, false, true, false, false, false] rfl rfl (by kernel_rfl) (fun _ _ _ h => h) (Or.inl ⟨by rfl, ?_⟩) hHeld ?_ ?_
 rotate_left
 ·
  rintro w' ⟨s0, s1, s2, s3⟩
  go_simp
  with_reducible rfl
 rotate_left
 ·
  simp only [Act.put, List.setIfInBounds_toArray, List.set_cons_zero, List.set_cons_succ, i64_w, i32_w]
  rfl
 refine take_ (i := 4) (N := some 15) (v := ?_) (a' := ?_) #[true, true, false, true, true, false, false] rfl rfl (by kernel_rfl) (fun _ _ _ h => h) (Or.inl ⟨by rfl, ?_⟩) hHeld ?_ ?_
 rotate_left
 ·
  rintro w' ⟨s0, s1, s2, s3⟩
  go_simp
  with_reducible rfl
 rotate_left
 ·
  simp only [Act.put, List.setIfInBounds_toArray, List.set_cons_zero, List.set_cons_succ, i64_w, i32_w]
  rfl
 refine one_ (i := 2) (N := some 13) #[true, true, true, true, true, false, false] rfl rfl (by kernel_rfl) (by decide) (fun K hK => ?_)
 refine Kd.R_lit_step (Kd.int .i64) _ 3 ?hg (N := 13) ?hd (xs := ([a1_0] : List Int)) (inner := [.int .i64 a1_0]) (ok := fun _ => True) (okp := fun _ => True) ?hr ?hp (fun _ hk => hk) trivial (Below.refl _ _) (Nat.le_refl _) (by simp) ?_; (case hd => rfl); (case hg => rfl); (case hr => first | (go_simp; done) | (go_simp; rfl)); (case hp => exact (Reps.one (show Kd.M (Kd.int .i64) _ _ _ a1_0 [.int .i64 a1_0] from rfl) (Reps.none _ _)))
 intro v221 w7 ho8 hb hg_ hnew_
 clear hg_ hnew_
 (first | rw [← Ny220.out] at ho8 | (simp only [Int.reduceToNat] at ho8; rw [← Ny220.out] at ho8))
 have n0_ := A_ (Kd.R_lower ho8 (below_size (hq HB)))
 have n1_ := A_ (blk_below (bq BK218) hb)
 have n2_ := A_ (blk_below (bq BK219) hb)
 have n3_ := A_ (below_step (hq HB) hb)
 clear BK218 BK219 HB; have HO222 := n0_; have BK218 := n1_; have BK219 := n2_; have HB := n3_; clear n0_ n1_ n2_ n3_ hb ho8
 refine hK.out _ _ ⟨bc BK219 0, bc BK219 1, bc BK219 2, bc BK219 3⟩ (fun hHeld => ?_)
 clear hK K
 refine norm_ (a' := ?_) ?_ ?_
 rotate_left
 ·
  exact pq (d := some 13)
 refine pure_ (i := 5) (N := some 7) (v := ?_) (a' := ?_) #[true, true, true, true, true, true, false] rfl rfl (by kernel_rfl) (fun _ _ _ h => h) (Or.inl ⟨by rfl, ?_⟩) ?_ ?_
 rotate_left
 ·
  intro w'
  go_simp
  with_reducible rfl
 rotate_left
 ·
  simp only [Act.put, List.setIfInBounds_toArray, List.set_cons_zero, List.set_cons_succ, i64_w, i32_w]
  rfl
 refine pure_ (i := 6) (N := some 8) (v := ?_) (a' := ?_) #[true, true, true, true, true, true, true] rfl rfl (by kernel_rfl) (fun _ _ _ h => h) (Or.inl ⟨by rfl, ?_⟩) ?_ ?_
 rotate_left
 ·
  intro w'
  go_simp
  with_reducible rfl
 rotate_left
 ·
  simp only [Act.put, List.setIfInBounds_toArray, List.set_cons_zero, List.set_cons_succ, i64_w, i32_w]
  rfl
 refine done_ (by kernel_rfl) ?_
 try go_wp2
 go_loopg [7, 8, 17] k (fun kq v7 v8 v17 w' => ∃ (x7_1 : List Int) (x8_1 : Int) (x17_1 : Int), v8 = .int .i64 x8_1 ∧ v17 = .int .i64 x17_1 ∧ Aside0 (impl_Road_walk.l0 kq x7_1 x8_1 a2 x17_1 a0_0 a0_1 a1_0 a1_1 a1_2 l1_3 = some r) ∧ Aside0 (kq ≤ k) ∧ Aside0 (Kd.R (Kd.int .i64) 3 w' w.heap.size (fun _ => True) v7 x7_1) ∧ Aside0 (w'.heap[gb218]? = some (.cells #[.int .i64 a0_0, .bool a0_1] 25 (0, 0))) ∧ Aside0 (w'.heap[gb219]? = some (.cells #[.int .i64 a1_0, .int .i64 a1_1, .int .i64 a1_2, (.slice A1_3 l1_3.length c1_3)] 93 (0, 0))) ∧ Aside0 (Below w.heap.size w w'))
 case atStart => exact ⟨(y220), (a1_0), (0), (by first | rfl | (simp; done) | (simp [*]; done)), (by first | rfl | (simp; done) | (simp [*]; done)), H', ⟨Nat.le_refl _⟩, ⟨rq HO222⟩, ⟨bq BK218⟩, ⟨bq BK219⟩, ⟨hq HB⟩⟩
 case round =>
  clear H'
  try clear c1
  try clear p2
  obtain ⟨x7_1, x8_1, x17_1, rfl, rfl, HA, HK1, HO_7, BK218, BK219, HB⟩ := hrel
  cases gk with
  | zero => exact absurd HA.out (by simp [impl_Road_walk.l0])
  | succ k1 =>
   have H := HA.out
   clear HA
   simp only [impl_Road_walk.l0] at H
   by_cases c9 : x17_1 < a2
   ·
    rw [if_pos c9] at H
    have c9b0 : decide (x17_1 < a2) = true := decide_eq_true c9
    clear c9
    by_cases c10 : x17_1 ≥ a1_2
    ·
     rw [if_pos c10] at H
     have c10b0 : decide (a1_2 ≤ x17_1) = true := decide_eq_true c10
     clear c10
     by_cases c11 : (l1_3.length : Int) = 0
     ·
      rw [if_pos c11] at H
      exact absurd H (by simp)
     ·
      rw [if_neg c11] at H
      have c11b0 : ((l1_3.length : Int) == 0) = false := beq_eq_false_iff_ne.mpr c11
      have c11b1 : ((l1_3.length : Int) != 0) = true := bne_iff_ne.mpr c11
      have c11b2 : ¬ (l1_3 = []) := fun h_ => c11 (by rw [h_]; rfl)
      obtain ⟨ji12, hji12⟩ : ∃ j_ : Int, (Int.tmod (wrap64 (x17_1 - a1_2)) (l1_3.length : Int)) = j_ := ⟨_, rfl⟩
      replace H : (if 0 ≤ (ji12) then (if (ji12) < (l1_3.length : Int) then (if a0_1 = true then (if a0_0 = 0 then (none) else ((impl_Road_has.f k1 a0_0 a0_1 (([Int.tmod (wrap64 ((wrap64 (x8_1 + (wrap64 (a1_1 * (rd l1_3 (ji12)))))) + a0_0)) a0_0] : List Int))).bind fun t227 => (if t227 = true then (if x7_1.length < 17592186044416 then (impl_Road_walk.l0 k1 (x7_1 ++ [Int.tmod (wrap64 ((wrap64 (x8_1 + (wrap64 (a1_1 * (rd l1_3 (ji12)))))) + a0_0)) a0_0]) (Int.tmod (wrap64 ((wrap64 (x8_1 + (wrap64 (a1_1 * (rd l1_3 (ji12)))))) + a0_0)) a0_0) a2 (wrap64 (x17_1 + 1)) a0_0 a0_1 a1_0 a1_1 a1_2 l1_3) else (none)) else (if x7_1.length < 17592186044416 then (impl_Road_walk.l0 k1 (x7_1 ++ [x8_1]) x8_1 a2 (wrap64 (x17_1 + 1)) a0_0 a0_1 a1_0 a1_1 a1_2 l1_3) else (none))))) else ((impl_Road_has.f k1 a0_0 a0_1 (([wrap64 (x8_1 + (wrap64 (a1_1 * (rd l1_3 (ji12)))))] : List Int))).bind fun t237 => (if t237 = true then (if x7_1.length < 17592186044416 then (impl_Road_walk.l0 k1 (x7_1 ++ [wrap64 (x8_1 + (wrap64 (a1_1 * (rd l1_3 (ji12)))))]) (wrap64 (x8_1 + (wrap64 (a1_1 * (rd l1_3 (ji12)))))) a2 (wrap64 (x17_1 + 1)) a0_0 a0_1 a1_0 a1_1 a1_2 l1_3) else (none)) else (if x7_1.length < 17592186044416 then (impl_Road_walk.l0 k1 (x7_1 ++ [x8_1]) x8_1 a2 (wrap64 (x17_1 + 1)) a0_0 a0_1 a1_0 a1_1 a1_2 l1_3) else (none))))) else (none)) else (none)) = some r := by first | (rw [hji12] at H; exact H) | (simp only [hji12] at H ⊢; exact H)
      by_cases c13 : 0 ≤ (ji12)
      ·
       rw [if_pos c13] at H
       have c13b0 : decide (0 ≤ (ji12)) = true := decide_eq_true c13
       clear c13
       by_cases c14 : (ji12) < (l1_3.length : Int)
       ·
        rw [if_pos c14] at H
        have c14b0 : decide ((ji12) < (l1_3.length : Int)) = true := decide_eq_true c14
        clear c14
        by_cases c15 : a0_1 = true
        ·
         subst c15
         have H1 : (if a0_0 = 0 then (none) else ((impl_Road_has.f k1 a0_0 true (([Int.tmod (wrap64 ((wrap64 (x8_1 + (wrap64 (a1_1 * (rd l1_3 (ji12)))))) + a0_0)) a0_0] : List Int))).bind fun t227 => (if t227 = true then (if x7_1.length < 17592186044416 then (impl_Road_walk.l0 k1 (x7_1 ++ [Int.tmod (wrap64 ((wrap64 (x8_1 + (wrap64 (a1_1 * (rd l1_3 (ji12)))))) + a0_0)) a0_0]) (Int.tmod (wrap64 ((wrap64 (x8_1 + (wrap64 (a1_1 * (rd l1_3 (ji12)))))) + a0_0)) a0_0) a2 (wrap64 (x17_1 + 1)) a0_0 true a1_0 a1_1 a1_2 l1_3) else (none)) else (if x7_1.length < 17592186044416 then (impl_Road_walk.l0 k1 (x7_1 ++ [x8_1]) x8_1 a2 (wrap64 (x17_1 + 1)) a0_0 true a1_0 a1_1 a1_2 l1_3) else (none))))) = some r := by rw [if_pos rfl] at H; exact H
         clear H
         have H := H1
         clear H1
         by_cases c16 : a0_0 = 0
         ·
          rw [if_pos c16] at H
          exact absurd H (by simp)
         ·
          rw [if_neg c16] at H
          have c16b0 : (a0_0 == 0) = false := beq_eq_false_iff_ne.mpr c16
          have c16b1 : (a0_0 != 0) = true := bne_iff_ne.mpr c16
          obtain ⟨y224, hy224⟩ : ∃ y_ : List Int, y_ = (([Int.tmod (wrap64 ((wrap64 (x8_1 + (wrap64 (a1_1 * (rd l1_3 (ji12)))))) + a0_0)) a0_0] : List Int)) := ⟨_, rfl⟩
          replace H : ((impl_Road_has.f k1 a0_0 true y224).bind fun t227 => (if t227 = true then (if x7_1.length < 17592186044416 then (impl_Road_walk.l0 k1 (x7_1 ++ [Int.tmod (wrap64 ((wrap64 (x8_1 + (wrap64 (a1_1 * (rd l1_3 (ji12)))))) + a0_0)) a0_0]) (Int.tmod (wrap64 ((wrap64 (x8_1 + (wrap64 (a1_1 * (rd l1_3 (ji12)))))) + a0_0)) a0_0) a2 (wrap64 (x17_1 + 1)) a0_0 true a1_0 a1_1 a1_2 l1_3) else (none)) else (if x7_1.length < 17592186044416 then (impl_Road_walk.l0 k1 (x7_1 ++ [x8_1]) x8_1 a2 (wrap64 (x17_1 + 1)) a0_0 true a1_0 a1_1 a1_2 l1_3) else (none)))) = some r := by first | (rw [hy224]; with_reducible exact H) | (have H2_ := (Option.bind_some _ _).symm.trans H; rw [hy224]; with_reducible exact H2_) | (have H2_ := (Option.bind_some _ _).symm.trans H; with_reducible exact H2_) | with_reducible exact H | (rw [hy224]; exact H) | exact H
          have Ny224 := A_ hy224
          clear hy224
          replace H := Option.bind_eq_some_iff.mp H
          obtain ⟨t227, A170, H⟩ := H
          replace H : (if t227 = true then (if x7_1.length < 17592186044416 then (impl_Road_walk.l0 k1 (x7_1 ++ [Int.tmod (wrap64 ((wrap64 (x8_1 + (wrap64 (a1_1 * (rd l1_3 (ji12)))))) + a0_0)) a0_0]) (Int.tmod (wrap64 ((wrap64 (x8_1 + (wrap64 (a1_1 * (rd l1_3 (ji12)))))) + a0_0)) a0_0) a2 (wrap64 (x17_1 + 1)) a0_0 true a1_0 a1_1 a1_2 l1_3) else (none)) else (if x7_1.length < 17592186044416 then (impl_Road_walk.l0 k1 (x7_1 ++ [x8_1]) x8_1 a2 (wrap64 (x17_1 + 1)) a0_0 true a1_0 a1_1 a1_2 l1_3) else (none))) = some r := H
          have A17 := A_ A170
          clear A170
          by_cases c18 : t227 = true
          ·
           subst c18
           have H1 : (if x7_1.length < 17592186044416 then (impl_Road_walk.l0 k1 (x7_1 ++ [Int.tmod (wrap64 ((wrap64 (x8_1 + (wrap64 (a1_1 * (rd l1_3 (ji12)))))) + a0_0)) a0_0]) (Int.tmod (wrap64 ((wrap64 (x8_1 + (wrap64 (a1_1 * (rd l1_3 (ji12)))))) + a0_0)) a0_0) a2 (wrap64 (x17_1 + 1)) a0_0 true a1_0 a1_1 a1_2 l1_3) else (none)) = some r := by rw [if_pos rfl] at H; exact H
           clear H
           have H := H1
           clear H1
           by_cases c19 : x7_1.length < 17592186044416
           ·
            rw [if_pos c19] at H
            have LMc19 := A_ c19
            clear c19
            obtain ⟨y228, hy228⟩ : ∃ y_ : List Int, y_ = (x7_1 ++ [Int.tmod (wrap64 ((wrap64 (x8_1 + (wrap64 (a1_1 * (rd l1_3 (ji12)))))) + a0_0)) a0_0]) := ⟨_, rfl⟩
            replace H : (impl_Road_walk.l0 k1 y228 (Int.tmod (wrap64 ((wrap64 (x8_1 + (wrap64 (a1_1 * (rd l1_3 (ji12)))))) + a0_0)) a0_0) a2 (wrap64 (x17_1 + 1)) a0_0 true a1_0 a1_1 a1_2 l1_3) = some r := by first | (rw [hy228]; with_reducible exact H) | (have H2_ := (Option.bind_some _ _).symm.trans H; rw [hy228]; with_reducible exact H2_) | (have H2_ := (Option.bind_some _ _).symm.trans H; with_reducible exact H2_) | with_reducible exact H | (rw [hy228]; exact H) | exact H
            have Ny228 := A_ hy228
            clear hy228
            have H' := A_ H
            clear H
            have hnb20 := NB219_218.out
            have hnc20 := NB218_219.out
            have hcz21_0 : wr.cell? ⟨gb219, 0, none⟩ = some (.int .i64 a1_0) := bc BK219 0
            have hcz21_1 : wr.cell? ⟨gb219, 1, none⟩ = some (.int .i64 a1_1) := bc BK219 1
            have hcz21_2 : wr.cell? ⟨gb219, 2, none⟩ = some (.int .i64 a1_2) := bc BK219 2
            have hcz21_3 : wr.cell? ⟨gb219, 3, none⟩ = some (.slice A1_3 l1_3.length c1_3) := bc BK219 3
            have hfz21_0 := blk_frozen BK219.out 0
            have hfz21_1 := blk_frozen BK219.out 1
            have hfz21_2 := blk_frozen BK219.out 2
            have hfz21_3 := blk_frozen BK219.out 3
            try go_wp2
            have n0_ := A_ (Kd.R_drew HO_7.out)
            have n1_ := A_ (blk_drew BK218.out)
            have n2_ := A_ (blk_drew BK219.out)
            have n3_ := A_ (below_drew1 HB.out)
            clear HO_7 BK218 BK219 HB; have HO_7 := n0_; have BK218 := n1_; have BK219 := n2_; have HB := n3_; clear n0_ n1_ n2_ n3_
            have p223 : 0 ≤ ((ji12) : Int) := of_decide_eq_true (by first | (with_reducible assumption) | assumption)
            have q223 : (ji12) < (l1_3.length : Int) := of_decide_eq_true (by first | (with_reducible assumption) | assumption)
            obtain ⟨ad223, e223, hx223_0⟩ := Kd.at_int HR1_3.out (ji12) p223 q223
            have hw223_0 := hx223_0
            cases e223
            replace hx223_0 := (HB.out.cell (World.block_lt_of_cell? w _ hx223_0)).trans hx223_0
            replace p223 := eq_true p223
            replace q223 := eq_true q223
            refine start_ (n := 18) (S := fun w' => w'.cell? ⟨gb219, 0, none⟩ = some (.int .i64 a1_0) ∧ w'.cell? ⟨gb219, 1, none⟩ = some (.int .i64 a1_1) ∧ w'.cell? ⟨gb219, 2, none⟩ = some (.int .i64 a1_2) ∧ w'.cell? ⟨gb219, 3, none⟩ = some (.slice (some ad223) l1_3.length c1_3) ∧ w'.cell? (ad223.add ((ji12)).toNat) = some (.int .i64 (rd l1_3 (ji12)))) (ds := []) #[false, false, false, false, false, false, false, false, false, false, false, false, false, false, false, false, false, false] (by kernel_rfl) rfl rfl ⟨bc BK219 0, bc BK219 1, bc BK219 2, bc BK219 3, ((HB.out.cell (World.block_lt_of_cell? w _ hw223_0)).trans hw223_0)⟩ (fun hHeld => ?_); refine with_tabW impl_Road_walk.tab6 impl_Road_walk.bits6 (fun HT_ HW_ => ?_)
            generalize wr.drew = w22 at HO_7 BK218 BK219 HB hx223_0 hHeld ⊢
            refine pure_ (i := 0) (N := some 24) (v := ?_) (a' := ?_) #[true, false, false, false, false, false, false, false, false, false, false, false, false, false, false, false, false, false] rfl rfl (any_of HT_.out (by kernel_rfl)) (fun _ _ _ h => h) (Or.inl ⟨by rfl, ?_⟩) ?_ ?_
            rotate_left
            ·
             intro w'
             go_simp
             with_reducible rfl
            rotate_left
            ·
             simp only [Act.put, List.setIfInBounds_toArray, List.set_cons_zero, List.set_cons_succ, i64_w, i32_w]
             rfl
            refine pure_ (i := 1) (N := some 25) (v := ?_) (a' := ?_) #[true, true, false, false, false, false, false, false, false, false, false, false, false, false, false, false, false, false] rfl rfl (any_of HT_.out (by kernel_rfl)) (fun _ _ _ h => h) (Or.inl ⟨by rfl, ?_⟩) ?_ ?_
            rotate_left
            ·
             intro w'
             go_simp
             with_reducible rfl
            rotate_left
            ·
             simp only [Act.put, List.setIfInBounds_toArray, List.set_cons_zero, List.set_cons_succ, i64_w, i32_w]
             rfl
            refine pure_ (i := 3) (N := some 27) (v := ?_) (a' := ?_) #[true, true, false, true, false, false, false, false, false, false, false, false, false, false, false, false, false, false] rfl rfl (any_of HT_.out (by kernel_rfl)) (fun _ _ _ h => h) (Or.inl ⟨by rfl, ?_⟩) ?_ ?_
            rotate_left
            ·
             intro w'
             go_simp
             with_reducible rfl
            rotate_left
            ·
             simp only [Act.put, List.setIfInBounds_toArray, List.set_cons_zero, List.set_cons_succ, i64_w, i32_w]
             rfl
            refine pure_ (i := 5) (N := some 29) (v := ?_) (a' := ?_) #[true, true, false, true, false, true, false, false, false, false, false, false, false, false, false, false, false, false] rfl rfl (any_of HT_.out (by kernel_rfl)) (fun _ _ _ h => h) (Or.inl ⟨by rfl, ?_⟩) ?_ ?_
            rotate_left
            ·
             intro w'
             go_simp
             with_reducible rfl
            rotate_left
            ·
             simp only [Act.put, List.setIfInBounds_toArray, List.set_cons_zero, List.set_cons_succ, i64_w, i32_w]
             rfl
            refine pure_ (i := 6) (N := some 30) (v := ?_) (a' := ?_) #[true, true, false, true, false, true, true, false, false, false, false, false, false, false, false, false, false, false] rfl rfl (any_of HT_.out (by kernel_rfl)) (fun _ _ _ h => h) (Or.inl ⟨by rfl, ?_⟩) ?_ ?_
            rotate_left
            ·
             intro w'
             go_simp
             with_reducible rfl
            rotate_left
            ·
             simp only [Act.put, List.setIfInBounds_toArray, List.set_cons_zero, List.set_cons_succ, i64_w, i32_w]
             rfl
            refine pure_ (i := 9) (N := some 33) (v := ?_) (a' := ?_) #[true, true, false, true, false, true, true, false, false, true, false, false, false, false, false, false, false, false] rfl rfl (any_of HT_.out (by kernel_rfl)) (fun _ _ _ h => h) (Or.inl ⟨by rfl, ?_⟩) ?_ ?_
            rotate_left
            ·
             intro w'
             go_simp
             with_reducible rfl
            rotate_left
            ·
             simp only [Act.put, List.setIfInBounds_toArray, List.set_cons_zero, List.set_cons_succ, i64_w, i32_w]
             rfl
            refine take_ (i := 2) (N := some 26) (v := ?_) (a' := ?_) #[true, true, true, true, false, true, true, false, false, true, false, false, false, false, false, false, false, false] rfl rfl (take_ofW HT_.out HW_.out (by kernel_rfl)) (fun _ _ _ h => h) (Or.inl ⟨by rfl, ?_⟩) hHeld ?_ ?_
            rotate_left
            ·
             rintro w' ⟨s0, s1, s2, s3, s4⟩
             go_simp
             with_reducible rfl
            rotate_left
            ·
             simp only [Act.put, List.setIfInBounds_toArray, List.set_cons_zero, List.set_cons_succ, i64_w, i32_w]
             rfl
            refine take_ (i := 4) (N := some 28) (v := ?_) (a' := ?_) #[true, true, true, true, true, true, true, false, false, true, false, false, false, false, false, false, false, false] rfl rfl (take_ofW HT_.out HW_.out (by kernel_rfl)) (fun _ _ _ h => h) (Or.inl ⟨by rfl, ?_⟩) hHeld ?_ ?_
            rotate_left
            ·
             rintro w' ⟨s0, s1, s2, s3, s4⟩
             go_simp
             with_reducible rfl
            rotate_left
            ·
             simp only [Act.put, List.setIfInBounds_toArray, List.set_cons_zero, List.set_cons_succ, i64_w, i32_w]
             rfl
            refine take_ (i := 7) (N := some 31) (v := ?_) (a' := ?_) #[true, true, true, true, true, true, true, true, false, true, false, false, false, false, false, false, false, false] rfl rfl (take_ofW HT_.out HW_.out (by kernel_rfl)) (fun _ _ _ h => h) (Or.inl ⟨by rfl, ?_⟩) hHeld ?_ ?_
            rotate_left
            ·
             rintro w' ⟨s0, s1, s2, s3, s4⟩
             go_simp
             with_reducible rfl
            rotate_left
            ·
             simp only [Act.put, List.setIfInBounds_toArray, List.set_cons_zero, List.set_cons_succ, i64_w, i32_w]
             rfl
            refine pure_ (i := 8) (N := some 32) (v := ?_) (a' := ?_) #[true, true, true, true, true, true, true, true, true, true, false, false, false, false, false, false, false, false] rfl rfl (any_of HT_.out (by kernel_rfl)) (fun _ _ _ h => h) (Or.inl ⟨by rfl, ?_⟩) ?_ ?_
            rotate_left
            ·
             intro w'
             go_simp
             with_reducible rfl
            rotate_left
            ·
             simp only [Act.put, List.setIfInBounds_toArray, List.set_cons_zero, List.set_cons_succ, i64_w, i32_w]
             rfl
            refine take_ (i := 10) (N := some 34) (v := ?_) (a' := ?_) #[true, true, true, true, true, true, true, true, true, true, true, false, false, false, false, false, false, false] rfl rfl (take_ofW HT_.out HW_.out (by kernel_rfl)) (fun _ _ _ h => h) (Or.inl ⟨by rfl, ?_⟩) hHeld ?_ ?_
            rotate_left
            ·
             rintro w' ⟨s0, s1, s2, s3, s4⟩
             go_simp
             with_reducible rfl
            rotate_left
            ·
             simp only [Act.put, List.setIfInBounds_toArray, List.set_cons_zero, List.set_cons_succ, i64_w, i32_w]
             rfl
            refine pure_ (i := 11) (N := some 35) (v := ?_) (a' := ?_) #[true, true, true, true, true, true, true, true, true, true, true, true, false, false, false, false, false, false] rfl rfl (any_of HT_.out (by kernel_rfl)) (fun _ _ _ h => h) (Or.inl ⟨by rfl, ?_⟩) ?_ ?_
            rotate_left
            ·
             intro w'
             go_simp
             with_reducible rfl
            rotate_left
            ·
             simp only [Act.put, List.setIfInBounds_toArray, List.set_cons_zero, List.set_cons_succ, i64_w, i32_w]
             rfl
            refine pure_ (i := 12) (N := some 36) (v := ?_) (a' := ?_) #[true, true, true, true, true, true, true, true, true, true, true, true, true, false, false, false, false, false] rfl rfl (any_of HT_.out (by kernel_rfl)) (fun _ _ _ h => h) (Or.inl ⟨by rfl, ?_⟩) ?_ ?_
            rotate_left
            ·
             intro w'
             go_simp
             with_reducible rfl
            rotate_left
            ·
             simp only [Act.put, List.setIfInBounds_toArray, List.set_cons_zero, List.set_cons_succ, i64_w, i32_w]
             rfl
            refine pure_ (i := 13) (N := some 37) (v := ?_) (a' := ?_) #[true, true, true, true, true, true, true, true, true, true, true, true, true, true, false, false, false, false] rfl rfl (any_of HT_.out (by kernel_rfl)) (fun _ _ _ h => h) (Or.inl ⟨by rfl, ?_⟩) ?_ ?_
            rotate_left
            ·
             intro w'
             go_simp
             with_reducible rfl
            rotate_left
            ·
             simp only [Act.put, List.setIfInBounds_toArray, List.set_cons_zero, List.set_cons_succ, i64_w, i32_w]
             rfl
            refine take_ (i := 14) (N := some 38) (v := ?_) (a' := ?_) #[true, true, true, true, true, true, true, true, true, true, true, true, true, true, true, false, false, false] rfl rfl (take_ofW HT_.out HW_.out (by kernel_rfl)) (fun _ _ _ h => h) (Or.inl ⟨by rfl, ?_⟩) hHeld ?_ ?_
            rotate_left
            ·
             rintro w' ⟨s0, s1, s2, s3, s4⟩
             go_simp
             with_reducible rfl
            rotate_left
            ·
             simp only [Act.put, List.setIfInBounds_toArray, List.set_cons_zero, List.set_cons_succ, i64_w, i32_w]
             rfl
            refine pure_ (i := 15) (N := some 39) (v := ?_) (a' := ?_) #[true, true, true, true, true, true, true, true, true, true, true, true, true, true, true, true, false, false] rfl rfl (any_of HT_.out (by kernel_rfl)) (fun _ _ _ h => h) (Or.inl ⟨by rfl, ?_⟩) ?_ ?_
            rotate_left
            ·
             intro w'
             go_simp
             with_reducible rfl
            rotate_left
            ·
             simp only [Act.put, List.setIfInBounds_toArray, List.set_cons_zero, List.set_cons_succ, i64_w, i32_w]
             rfl
            refine pure_ (i := 16) (N := some 40) (v := ?_) (a' := ?_) #[true, true, true, true, true, true, true, true, true, true, true, true, true, true, true, true, true, false] rfl rfl (any_of HT_.out (by kernel_rfl)) (fun _ _ _ h => h) (Or.inl ⟨by rfl, ?_⟩) ?_ ?_
            rotate_left
            ·
             intro w'
             go_simp
             with_reducible rfl
            rotate_left
            ·
             simp only [Act.put, List.setIfInBounds_toArray, List.set_cons_zero, List.set_cons_succ, i64_w, i32_w]
             rfl
            refine pure_ (i := 17) (N := some 10) (v := ?_) (a' := ?_) #[true, true, true, true, true, true, true, true, true, true, true, true, true, true, true, true, true, true] rfl rfl (any_of HT_.out (by kernel_rfl)) (fun _ _ _ h => h) (Or.inl ⟨by rfl, ?_⟩) ?_ ?_
            rotate_left
            ·
             intro w'
             go_simp
             with_reducible rfl
            rotate_left
            ·
             simp only [Act.put, List.setIfInBounds_toArray, List.set_cons_zero, List.set_cons_succ, i64_w, i32_w]
             rfl
            refine done_ (done_of HT_.out (by kernel_rfl)) ?_
            have hcz23_0 : w22.cell? ⟨gb218, 0, none⟩ = some (.int .i64 a0_0) := bc BK218 0
            have hcz23_1 : w22.cell? ⟨gb218, 1, none⟩ = some (.bool true) := bc BK218 1
            have hfz23_0 := blk_frozen BK218.out 0
            have hfz23_1 := blk_frozen BK218.out 1
            try go_wp2_with (first | ((with_reducible refine gate_dst (N := 52) rfl ?_); refine Kd.R_lit (Kd.int .i64) _ 3 ?hg (N := 52) ?hd (xs := ([Int.tmod (wrap64 ((wrap64 (x8_1 + (wrap64 (a1_1 * (rd l1_3 (ji12)))))) + a0_0)) a0_0] : List Int)) (inner := [.int .i64 (Int.tmod (wrap64 ((wrap64 (x8_1 + (wrap64 (a1_1 * (rd l1_3 (ji12)))))) + a0_0)) a0_0)]) (ok := fun _ => True) (okp := fun _ => True) ?hr ?hp (fun _ hk => hk) trivial (Below.refl _ _) (Nat.le_refl _) (by simp) ?_; (case hd => rfl); (case hg => rfl); (case hr => first | (go_simp; done) | (go_simp; rfl)); (case hp => exact (Reps.one (show Kd.M (Kd.int .i64) _ _ _ (Int.tmod (wrap64 ((wrap64 (x8_1 + (wrap64 (a1_1 * (rd l1_3 (ji12)))))) + a0_0)) a0_0) [.int .i64 (Int.tmod (wrap64 ((wrap64 (x8_1 + (wrap64 (a1_1 * (rd l1_3 (ji12)))))) + a0_0)) a0_0)] from rfl) (Reps.none _ _))); intro v225 w24 ho25 hb hg_ hnew_; clear hg_ hnew_; (first | rw [← Ny224.out] at ho25 | (simp only [Int.reduceToNat] at ho25; rw [← Ny224.out] at ho25)); have n0_ := A_ (Kd.R_elder' (rq HO_7) (Kd.R_base ho25) hb); have n1_ := A_ (Kd.R_lower (Kd.R_new' ho25 (Kd.R_lt (rq HO_7))) (below_size (hq HB))); have n2_ := A_ (blk_below (bq BK218) hb); have n3_ := A_ (blk_below (bq BK219) hb); have n4_ := A_ (below_step (hq HB) hb); clear HO_7; clear BK218; clear BK219; clear HB; have HO_7 := n0_; have HO226 := n1_; have BK218 := n2_; have BK219 := n3_; have HB := n4_; clear n0_ n1_ n2_ n3_ n4_; clear hb ho25; obtain ⟨Ao26, co26, eo26⟩ := Kd.R_slice HO226.out; subst eo26) | ((with_reducible refine gate_callee (f := 73) rfl ?_); refine goesL_ (some 53) rfl rfl Try.func73 (by kernel_rfl) rfl #[.agg #[.int .i64 a0_0, .bool true], .slice Ao26 y224.length co26] rfl gq ?_; (with_reducible refine (impl_Road_has.calls k1 a0_0 true _ _ y224 true _ ?side1 ?side2 A17.out).mono ?_); (case side1 => exact cq (Kd.R_reads' HO226.out).2.2); (case side2 => exact (Kd.R_reads' HO226.out).2.1); rintro e w27 ⟨rfl, hb⟩; refine ⟨_, rfl, ?_⟩; have n0_ := A_ (Kd.R_below (rq HO_7) hb); have n1_ := A_ (Kd.R_below (rq HO226) hb); have n2_ := A_ (blk_below (bq BK218) hb); have n3_ := A_ (blk_below (bq BK219) hb); have n4_ := A_ (below_step (hq HB) hb); clear HO_7; clear HO226; clear BK218; clear BK219; clear HB; have HO_7 := n0_; have HO226 := n1_; have BK218 := n2_; have BK219 := n3_; have HB := n4_; clear n0_ n1_ n2_ n3_ n4_; (try clear hb); (try clear hb2); (try clear hk); (try clear hi)) | ((with_reducible refine gate_builtin (b := .append) (xs := #[.tmp 55, .tmp 57]) rfl ?_); at_builtin; refine Kd.R_append (Kd.int .i64) (w0 := w) w.heap.size rfl (.tmp 55) (.tmp 57) 26 3 (.int .i64 0) 8 rfl Try.underlying26 info3 rfl (by decide) (by omega) u7 x7_1 (Int.tmod (wrap64 ((wrap64 (x8_1 + (wrap64 (a1_1 * (rd l1_3 (ji12)))))) + a0_0)) a0_0) [.int .i64 (Int.tmod (wrap64 ((wrap64 (x8_1 + (wrap64 (a1_1 * (rd l1_3 (ji12)))))) + a0_0)) a0_0)] (fun k_ => some k_ ≠ (.slice Ao26 y224.length co26 : Value).ownBlock) (fun _ => False) rfl rfl ?aP (fun _ hk => hk.elim) ?aF ?aO ?aB ?aS ?aL ?_; (case aP => exact rfl); (case aB => exact (hq HB)); (case aF => exact (fun k_ hk => Kd.fresh' (Kd.R_lt (rq HO226)) k_ hk)); (case aO => exact (by (with_reducible repeat (first | apply Kd.R_alloc | apply Kd.R_drewN | apply Kd.R_drew)); exact Kd.R_mono HO_7.out (fun _ hk => hk.2))); (case aS => exact (below_size (hq HB))); (case aL => have := LMc19.out; omega); intro v229 w28 ho hb hg hat; rw [← Ny228.out] at ho; have n0_ := A_ (blk_grown (g := gb218) (o := .cells #[.int .i64 a0_0, .bool true] 25 (0, 0)) (bq BK218) hg (Kd.R_ne HO_7.out BK218.out (by decide))); have n1_ := A_ (blk_grown (g := gb219) (o := .cells #[.int .i64 a1_0, .int .i64 a1_1, .int .i64 a1_2, .slice (some ad223) l1_3.length c1_3] 93 (0, 0)) (bq BK219) hg (Kd.R_ne HO_7.out BK219.out (by decide))); have n2_ := A_ (Kd.R_after (ok := (fun _ => True)) (rq HO226) hg hat); have n3_ := A_ (hb); have n4_ := A_ (ho); clear BK218; clear BK219; clear HO226; clear HB; clear HO_7; have BK218 := n0_; have BK219 := n1_; have HO226 := n2_; have HB := n3_; have HO230 := n4_; clear n0_ n1_ n2_ n3_ n4_; clear ho hb hg hat))
            go_roundg k1
            case measure => have := HK1.out; omega
            case rel => exact ⟨(y228), (Int.tmod (wrap64 ((wrap64 (x8_1 + (wrap64 (a1_1 * (rd l1_3 (ji12)))))) + a0_0)) a0_0), (wrap64 (x17_1 + 1)), (by first | rfl | (simp; done) | (simp only [← hji12] <;> (first | rfl | simp)) | (simp [*]; done)), (by first | rfl | (simp; done) | (simp [*]; done)), H', ⟨by have := HK1.out; omega⟩, ⟨by (with_reducible repeat (first | apply Kd.R_alloc | apply Kd.R_drewN | apply Kd.R_drew)); exact Kd.R_mono HO230.out (fun _ hk => trivial)⟩, ⟨bq BK218⟩, ⟨bq BK219⟩, ⟨hq HB⟩⟩
           ·
            rw [if_neg c19] at H
            exact absurd H (by simp)
          ·
           replace c18 := Bool.eq_false_iff.mpr c18
           subst c18
           have H1 : (if x7_1.length < 17592186044416 then (impl_Road_walk.l0 k1 (x7_1 ++ [x8_1]) x8_1 a2 (wrap64 (x17_1 + 1)) a0_0 true a1_0 a1_1 a1_2 l1_3) else (none)) = some r := by rw [if_neg (show ¬ (false = true) by decide)] at H; exact H
           clear H
           have H := H1
           clear H1
           by_cases c29 : x7_1.length < 17592186044416
           ·
            rw [if_pos c29] at H
            have LMc29 := A_ c29
            clear c29
            obtain ⟨y231, hy231⟩ : ∃ y_ : List Int, y_ = (x7_1 ++ [x8_1]) := ⟨_, rfl⟩
            replace H : (impl_Road_walk.l0 k1 y231 x8_1 a2 (wrap64 (x17_1 + 1)) a0_0 true a1_0 a1_1 a1_2 l1_3) = some r := by first | (rw [hy231]; with_reducible exact H) | (have H2_ := (Option.bind_some _ _).symm.trans H; rw [hy231]; with_reducible exact H2_) | (have H2_ := (Option.bind_some _ _).symm.trans H; with_reducible exact H2_) | with_reducible exact H | (rw [hy231]; exact H) | exact H
            have Ny231 := A_ hy231
            clear hy231
            have H' := A_ H
            clear H
            have hnb30 := NB219_218.out
            have hnc30 := NB218_219.out
            have hcz31_0 : wr.cell? ⟨gb219, 0, none⟩ = some (.int .i64 a1_0) := bc BK219 0
            have hcz31_1 : wr.cell? ⟨gb219, 1, none⟩ = some (.int .i64 a1_1) := bc BK219 1
            have hcz31_2 : wr.cell? ⟨gb219, 2, none⟩ = some (.int .i64 a1_2) := bc BK219 2
            have hcz31_3 : wr.cell? ⟨gb219, 3, none⟩ = some (.slice A1_3 l1_3.length c1_3) := bc BK219 3
            have hfz31_0 := blk_frozen BK219.out 0
            have hfz31_1 := blk_frozen BK219.out 1
            have hfz31_2 := blk_frozen BK219.out 2
            have hfz31_3 := blk_frozen BK219.out 3
            try go_wp2
            have n0_ := A_ (Kd.R_drew HO_7.out)
            have n1_ := A_ (blk_drew BK218.out)
            have n2_ := A_ (blk_drew BK219.out)
            have n3_ := A_ (below_drew1 HB.out)
            clear HO_7 BK218 BK219 HB; have HO_7 := n0_; have BK218 := n1_; have BK219 := n2_; have HB := n3_; clear n0_ n1_ n2_ n3_
            have p223 : 0 ≤ ((ji12) : Int) := of_decide_eq_true (by first | (with_reducible assumption) | assumption)
            have q223 : (ji12) < (l1_3.length : Int) := of_decide_eq_true (by first | (with_reducible assumption) | assumption)
            obtain ⟨ad223, e223, hx223_0⟩ := Kd.at_int HR1_3.out (ji12) p223 q223
            have hw223_0 := hx223_0
            cases e223
            replace hx223_0 := (HB.out.cell (World.block_lt_of_cell? w _ hx223_0)).trans hx223_0
            replace p223 := eq_true p223
            replace q223 := eq_true q223
            refine start_ (n := 18) (S := fun w' => w'.cell? ⟨gb219, 0, none⟩ = some (.int .i64 a1_0) ∧ w'.cell? ⟨gb219, 1, none⟩ = some (.int .i64 a1_1) ∧ w'.cell? ⟨gb219, 2, none⟩ = some (.int .i64 a1_2) ∧ w'.cell? ⟨gb219, 3, none⟩ = some (.slice (some ad223) l1_3.length c1_3) ∧ w'.cell? (ad223.add ((ji12)).toNat) = some (.int .i64 (rd l1_3 (ji12)))) (ds := []) #[false, false, false, false, false, false, false, false, false, false, false, false, false, false, false, false, false, false] (by kernel_rfl) rfl rfl ⟨bc BK219 0, bc BK219 1, bc BK219 2, bc BK219 3, ((HB.out.cell (World.block_lt_of_cell? w _ hw223_0)).trans hw223_0)⟩ (fun hHeld => ?_); refine with_tabW impl_Road_walk.tab6 impl_Road_walk.bits6 (fun HT_ HW_ => ?_)
            generalize wr.drew = w32 at HO_7 BK218 BK219 HB hx223_0 hHeld ⊢
            refine pure_ (i := 0) (N := some 24) (v := ?_) (a' := ?_) #[true, false, false, false, false, false, false, false, false, false, false, false, false, false, false, false, false, false] rfl rfl (any_of HT_.out (by kernel_rfl)) (fun _ _ _ h => h) (Or.inl ⟨by rfl, ?_⟩) ?_ ?_
            rotate_left
            ·
             intro w'
             go_simp
             with_reducible rfl
            rotate_left
            ·
             simp only [Act.put, List.setIfInBounds_toArray, List.set_cons_zero, List.set_cons_succ, i64_w, i32_w]
             rfl
            refine pure_ (i := 1) (N := some 25) (v := ?_) (a' := ?_) #[true, true, false, false, false, false, false, false, false, false, false, false, false, false, false, false, false, false] rfl rfl (any_of HT_.out (by kernel_rfl)) (fun _ _ _ h => h) (Or.inl ⟨by rfl, ?_⟩) ?_ ?_
            rotate_left
            ·
             intro w'
             go_simp
             with_reducible rfl
            rotate_left
            ·
             simp only [Act.put, List.setIfInBounds_toArray, List.set_cons_zero, List.set_cons_succ, i64_w, i32_w]
             rfl
            refine pure_ (i := 3) (N := some 27) (v := ?_) (a' := ?_) #[true, true, false, true, false, false, false, false, false, false, false, false, false, false, false, false, false, false] rfl rfl (any_of HT_.out (by kernel_rfl)) (fun _ _ _ h => h) (Or.inl ⟨by rfl, ?_⟩) ?_ ?_
            rotate_left
            ·
             intro w'
             go_simp
             with_reducible rfl
            rotate_left
            ·
             simp only [Act.put, List.setIfInBounds_toArray, List.set_cons_zero, List.set_cons_succ, i64_w, i32_w]
             rfl
            refine pure_ (i := 5) (N := some 29) (v := ?_) (a' := ?_) #[true, true, false, true, false, true, false, false, false, false, false, false, false, false, false, false, false, false] rfl rfl (any_of HT_.out (by kernel_rfl)) (fun _ _ _ h => h) (Or.inl ⟨by rfl, ?_⟩) ?_ ?_
            rotate_left
            ·
             intro w'
             go_simp
             with_reducible rfl
            rotate_left
            ·
             simp only [Act.put, List.setIfInBounds_toArray, List.set_cons_zero, List.set_cons_succ, i64_w, i32_w]
             rfl
            refine pure_ (i := 6) (N := some 30) (v := ?_) (a' := ?_) #[true, true, false, true, false, true, true, false, false, false, false, false, false, false, false, false, false, false] rfl rfl (any_of HT_.out (by kernel_rfl)) (fun _ _ _ h => h) (Or.inl ⟨by rfl, ?_⟩) ?_ ?_
            rotate_left
            ·
             intro w'
             go_simp
             with_reducible rfl
            rotate_left
            ·
             simp only [Act.put, List.setIfInBounds_toArray, List.set_cons_zero, List.set_cons_succ, i64_w, i32_w]
             rfl
            refine pure_ (i := 9) (N := some 33) (v := ?_) (a' := ?_) #[true, true, false, true, false, true, true, false, false, true, false, false, false, false, false, false, false, false] rfl rfl (any_of HT_.out (by kernel_rfl)) (fun _ _ _ h => h) (Or.inl ⟨by rfl, ?_⟩) ?_ ?_
            rotate_left
            ·
             intro w'
             go_simp
             with_reducible rfl
            rotate_left
            ·
             simp only [Act.put, List.setIfInBounds_toArray, List.set_cons_zero, List.set_cons_succ, i64_w, i32_w]
             rfl
            refine take_ (i := 2) (N := some 26) (v := ?_) (a' := ?_) #[true, true, true, true, false, true, true, false, false, true, false, false, false, false, false, false, false, false] rfl rfl (take_ofW HT_.out HW_.out (by kernel_rfl)) (fun _ _ _ h => h) (Or.inl ⟨by rfl, ?_⟩) hHeld ?_ ?_
            rotate_left
            ·
             rintro w' ⟨s0, s1, s2, s3, s4⟩
             go_simp
             with_reducible rfl
            rotate_left
            ·
             simp only [Act.put, List.setIfInBounds_toArray, List.set_cons_zero, List.set_cons_succ, i64_w, i32_w]
             rfl
            refine take_ (i := 4) (N := some 28) (v := ?_) (a' := ?_) #[true, true, true, true, true, true, true, false, false, true, false, false, false, false, false, false, false, false] rfl rfl (take_ofW HT_.out HW_.out (by kernel_rfl)) (fun _ _ _ h => h) (Or.inl ⟨by rfl, ?_⟩) hHeld ?_ ?_
            rotate_left
            ·
             rintro w' ⟨s0, s1, s2, s3, s4⟩
             go_simp
             with_reducible rfl
            rotate_left
            ·
             simp only [Act.put, List.setIfInBounds_toArray, List.set_cons_zero, List.set_cons_succ, i64_w, i32_w]
             rfl
            refine take_ (i := 7) (N := some 31) (v := ?_) (a' := ?_) #[true, true, true, true, true, true, true, true, false, true, false, false, false, false, false, false, false, false] rfl rfl (take_ofW HT_.out HW_.out (by kernel_rfl)) (fun _ _ _ h => h) (Or.inl ⟨by rfl, ?_⟩) hHeld ?_ ?_
            rotate_left
            ·
             rintro w' ⟨s0, s1, s2, s3, s4⟩
             go_simp
             with_reducible rfl
            rotate_left
            ·
             simp only [Act.put, List.setIfInBounds_toArray, List.set_cons_zero, List.set_cons_succ, i64_w, i32_w]
             rfl
            refine pure_ (i := 8) (N := some 32) (v := ?_) (a' := ?_) #[true, true, true, true, true, true, true, true, true, true, false, false, false, false, false, false, false, false] rfl rfl (any_of HT_.out (by kernel_rfl)) (fun _ _ _ h => h) (Or.inl ⟨by rfl, ?_⟩) ?_ ?_
            rotate_left
            ·
             intro w'
             go_simp
             with_reducible rfl
            rotate_left
            ·
             simp only [Act.put, List.setIfInBounds_toArray, List.set_cons_zero, List.set_cons_succ, i64_w, i32_w]
             rfl
            refine take_ (i := 10) (N := some 34) (v := ?_) (a' := ?_) #[true, true, true, true, true, true, true, true, true, true, true, false, false, false, false, false, false, false] rfl rfl (take_ofW HT_.out HW_.out (by kernel_rfl)) (fun _ _ _ h => h) (Or.inl ⟨by rfl, ?_⟩) hHeld ?_ ?_
            rotate_left
            ·
             rintro w' ⟨s0, s1, s2, s3, s4⟩
             go_simp
             with_reducible rfl
            rotate_left
            ·
             simp only [Act.put, List.setIfInBounds_toArray, List.set_cons_zero, List.set_cons_succ, i64_w, i32_w]
             rfl
            refine pure_ (i := 11) (N := some 35) (v := ?_) (a' := ?_) #[true, true, true, true, true, true, true, true, true, true, true, true, false, false, false, false, false, false] rfl rfl (any_of HT_.out (by kernel_rfl)) (fun _ _ _ h => h) (Or.inl ⟨by rfl, ?_⟩) ?_ ?_
            rotate_left
            ·
             intro w'
             go_simp
             with_reducible rfl
            rotate_left
            ·
             simp only [Act.put, List.setIfInBounds_toArray, List.set_cons_zero, List.set_cons_succ, i64_w, i32_w]
             rfl
            refine pure_ (i := 12) (N := some 36) (v := ?_) (a' := ?_) #[true, true, true, true, true, true, true, true, true, true, true, true, true, false, false, false, false, false] rfl rfl (any_of HT_.out (by kernel_rfl)) (fun _ _ _ h => h) (Or.inl ⟨by rfl, ?_⟩) ?_ ?_
            rotate_left
            ·
             intro w'
             go_simp
             with_reducible rfl
            rotate_left
            ·
             simp only [Act.put, List.setIfInBounds_toArray, List.set_cons_zero, List.set_cons_succ, i64_w, i32_w]
             rfl
            refine pure_ (i := 13) (N := some 37) (v := ?_) (a' := ?_) #[true, true, true, true, true, true, true, true, true, true, true, true, true, true, false, false, false, false] rfl rfl (any_of HT_.out (by kernel_rfl)) (fun _ _ _ h => h) (Or.inl ⟨by rfl, ?_⟩) ?_ ?_
            rotate_left
            ·
             intro w'
             go_simp
             with_reducible rfl
            rotate_left
            ·
             simp only [Act.put, List.setIfInBounds_toArray, List.set_cons_zero, List.set_cons_succ, i64_w, i32_w]
             rfl
            refine take_ (i := 14) (N := some 38) (v := ?_) (a' := ?_) #[true, true, true, true, true, true, true, true, true, true, true, true, true, true, true, false, false, false] rfl rfl (take_ofW HT_.out HW_.out (by kernel_rfl)) (fun _ _ _ h => h) (Or.inl ⟨by rfl, ?_⟩) hHeld ?_ ?_
            rotate_left
            ·
             rintro w' ⟨s0, s1, s2, s3, s4⟩
             go_simp
             with_reducible rfl
            rotate_left
            ·
             simp only [Act.put, List.setIfInBounds_toArray, List.set_cons_zero, List.set_cons_succ, i64_w, i32_w]
             rfl
            refine pure_ (i := 15) (N := some 39) (v := ?_) (a' := ?_) #[true, true, true, true, true, true, true, true, true, true, true, true, true, true, true, true, false, false] rfl rfl (any_of HT_.out (by kernel_rfl)) (fun _ _ _ h => h) (Or.inl ⟨by rfl, ?_⟩) ?_ ?_
            rotate_left
            ·
             intro w'
             go_simp
             with_reducible rfl
            rotate_left
            ·
             simp only [Act.put, List.setIfInBounds_toArray, List.set_cons_zero, List.set_cons_succ, i64_w, i32_w]
             rfl
            refine pure_ (i := 16) (N := some 40) (v := ?_) (a' := ?_) #[true, true, true, true, true, true, true, true, true, true, true, true, true, true, true, true, true, false] rfl rfl (any_of HT_.out (by kernel_rfl)) (fun _ _ _ h => h) (Or.inl ⟨by rfl, ?_⟩) ?_ ?_
            rotate_left
            ·
             intro w'
             go_simp
             with_reducible rfl
            rotate_left
            ·
             simp only [Act.put, List.setIfInBounds_toArray, List.set_cons_zero, List.set_cons_succ, i64_w, i32_w]
             rfl
            refine pure_ (i := 17) (N := some 10) (v := ?_) (a' := ?_) #[true, true, true, true, true, true, true, true, true, true, true, true, true, true, true, true, true, true] rfl rfl (any_of HT_.out (by kernel_rfl)) (fun _ _ _ h => h) (Or.inl ⟨by rfl, ?_⟩) ?_ ?_
            rotate_left
            ·
             intro w'
             go_simp
             with_reducible rfl
            rotate_left
            ·
             simp only [Act.put, List.setIfInBounds_toArray, List.set_cons_zero, List.set_cons_succ, i64_w, i32_w]
             rfl
            refine done_ (done_of HT_.out (by kernel_rfl)) ?_
            have hcz33_0 : w32.cell? ⟨gb218, 0, none⟩ = some (.int .i64 a0_0) := bc BK218 0
            have hcz33_1 : w32.cell? ⟨gb218, 1, none⟩ = some (.bool true) := bc BK218 1
            have hfz33_0 := blk_frozen BK218.out 0
            have hfz33_1 := blk_frozen BK218.out 1
            try go_wp2_with (first | ((with_reducible refine gate_dst (N := 52) rfl ?_); refine Kd.R_lit (Kd.int .i64) _ 3 ?hg (N := 52) ?hd (xs := ([Int.tmod (wrap64 ((wrap64 (x8_1 + (wrap64 (a1_1 * (rd l1_3 (ji12)))))) + a0_0)) a0_0] : List Int)) (inner := [.int .i64 (Int.tmod (wrap64 ((wrap64 (x8_1 + (wrap64 (a1_1 * (rd l1_3 (ji12)))))) + a0_0)) a0_0)]) (ok := fun _ => True) (okp := fun _ => True) ?hr ?hp (fun _ hk => hk) trivial (Below.refl _ _) (Nat.le_refl _) (by simp) ?_; (case hd => rfl); (case hg => rfl); (case hr => first | (go_simp; done) | (go_simp; rfl)); (case hp => exact (Reps.one (show Kd.M (Kd.int .i64) _ _ _ (Int.tmod (wrap64 ((wrap64 (x8_1 + (wrap64 (a1_1 * (rd l1_3 (ji12)))))) + a0_0)) a0_0) [.int .i64 (Int.tmod (wrap64 ((wrap64 (x8_1 + (wrap64 (a1_1 * (rd l1_3 (ji12)))))) + a0_0)) a0_0)] from rfl) (Reps.none _ _))); intro v225 w34 ho35 hb hg_ hnew_; clear hg_ hnew_; (first | rw [← Ny224.out] at ho35 | (simp only [Int.reduceToNat] at ho35; rw [← Ny224.out] at ho35)); have n0_ := A_ (Kd.R_elder' (rq HO_7) (Kd.R_base ho35) hb); have n1_ := A_ (Kd.R_lower (Kd.R_new' ho35 (Kd.R_lt (rq HO_7))) (below_size (hq HB))); have n2_ := A_ (blk_below (bq BK218) hb); have n3_ := A_ (blk_below (bq BK219) hb); have n4_ := A_ (below_step (hq HB) hb); clear HO_7; clear BK218; clear BK219; clear HB; have HO_7 := n0_; have HO226 := n1_; have BK218 := n2_; have BK219 := n3_; have HB := n4_; clear n0_ n1_ n2_ n3_ n4_; clear hb ho35; obtain ⟨Ao36, co36, eo36⟩ := Kd.R_slice HO226.out; subst eo36) | ((with_reducible refine gate_callee (f := 73) rfl ?_); refine goesL_ (some 53) rfl rfl Try.func73 (by kernel_rfl) rfl #[.agg #[.int .i64 a0_0, .bool true], .slice Ao36 y224.length co36] rfl gq ?_; (with_reducible refine (impl_Road_has.calls k1 a0_0 true _ _ y224 false _ ?side1 ?side2 A17.out).mono ?_); (case side1 => exact cq (Kd.R_reads' HO226.out).2.2); (case side2 => exact (Kd.R_reads' HO226.out).2.1); rintro e w37 ⟨rfl, hb⟩; refine ⟨_, rfl, ?_⟩; have n0_ := A_ (Kd.R_below (rq HO_7) hb); have n1_ := A_ (Kd.R_below (rq HO226) hb); have n2_ := A_ (blk_below (bq BK218) hb); have n3_ := A_ (blk_below (bq BK219) hb); have n4_ := A_ (below_step (hq HB) hb); clear HO_7; clear HO226; clear BK218; clear BK219; clear HB; have HO_7 := n0_; have HO226 := n1_; have BK218 := n2_; have BK219 := n3_; have HB := n4_; clear n0_ n1_ n2_ n3_ n4_; (try clear hb); (try clear hb2); (try clear hk); (try clear hi)) | ((with_reducible refine gate_builtin (b := .append) (xs := #[.tmp 55, .tmp 57]) rfl ?_); at_builtin; refine Kd.R_append (Kd.int .i64) (w0 := w) w.heap.size rfl (.tmp 55) (.tmp 57) 26 3 (.int .i64 0) 8 rfl Try.underlying26 info3 rfl (by decide) (by omega) u7 x7_1 x8_1 [.int .i64 x8_1] (fun k_ => some k_ ≠ (.slice Ao36 y224.length co36 : Value).ownBlock) (fun _ => False) rfl rfl ?aP (fun _ hk => hk.elim) ?aF ?aO ?aB ?aS ?aL ?_; (case aP => exact rfl); (case aB => exact (hq HB)); (case aF => exact (fun k_ hk => Kd.fresh' (Kd.R_lt (rq HO226)) k_ hk)); (case aO => exact (by (with_reducible repeat (first | apply Kd.R_alloc | apply Kd.R_drewN | apply Kd.R_drew)); exact Kd.R_mono HO_7.out (fun _ hk => hk.2))); (case aS => exact (below_size (hq HB))); (case aL => have := LMc29.out; omega); intro v232 w38 ho hb hg hat; rw [← Ny231.out] at ho; have n0_ := A_ (blk_grown (g := gb218) (o := .cells #[.int .i64 a0_0, .bool true] 25 (0, 0)) (bq BK218) hg (Kd.R_ne HO_7.out BK218.out (by decide))); have n1_ := A_ (blk_grown (g := gb219) (o := .cells #[.int .i64 a1_0, .int .i64 a1_1, .int .i64 a1_2, .slice (some ad223) l1_3.length c1_3] 93 (0, 0)) (bq BK219) hg (Kd.R_ne HO_7.out BK219.out (by decide))); have n2_ := A_ (Kd.R_after (ok := (fun _ => True)) (rq HO226) hg hat); have n3_ := A_ (hb); have n4_ := A_ (ho); clear BK218; clear BK219; clear HO226; clear HB; clear HO_7; have BK218 := n0_; have BK219 := n1_; have HO226 := n2_; have HB := n3_; have HO233 := n4_; clear n0_ n1_ n2_ n3_ n4_; clear ho hb hg hat))
            go_roundg k1
            case measure => have := HK1.out; omega
            case rel => exact ⟨(y231), (x8_1), (wrap64 (x17_1 + 1)), (by first | rfl | (simp; done) | (simp [*]; done)), (by first | rfl | (simp; done) | (simp [*]; done)), H', ⟨by have := HK1.out; omega⟩, ⟨by (with_reducible repeat (first | apply Kd.R_alloc | apply Kd.R_drewN | apply Kd.R_drew)); exact Kd.R_mono HO233.out (fun _ hk => trivial)⟩, ⟨bq BK218⟩, ⟨bq BK219⟩, ⟨hq HB⟩⟩
           ·
            rw [if_neg c29] at H
            exact absurd H (by simp)
        ·
         replace c15 := Bool.eq_false_iff.mpr c15
         subst c15
         have H1 : ((impl_Road_has.f k1 a0_0 false (([wrap64 (x8_1 + (wrap64 (a1_1 * (rd l1_3 (ji12)))))] : List Int))).bind fun t237 => (if t237 = true then (if x7_1.length < 17592186044416 then (impl_Road_walk.l0 k1 (x7_1 ++ [wrap64 (x8_1 + (wrap64 (a1_1 * (rd l1_3 (ji12)))))]) (wrap64 (x8_1 + (wrap64 (a1_1 * (rd l1_3 (ji12)))))) a2 (wrap64 (x17_1 + 1)) a0_0 false a1_0 a1_1 a1_2 l1_3) else (none)) else (if x7_1.length < 17592186044416 then (impl_Road_walk.l0 k1 (x7_1 ++ [x8_1]) x8_1 a2 (wrap64 (x17_1 + 1)) a0_0 false a1_0 a1_1 a1_2 l1_3) else (none)))) = some r := by rw [if_neg (show ¬ (false = true) by decide)] at H; exact H
         clear H
         have H := H1
         clear H1
         obtain ⟨y234, hy234⟩ : ∃ y_ : List Int, y_ = (([wrap64 (x8_1 + (wrap64 (a1_1 * (rd l1_3 (ji12)))))] : List Int)) := ⟨_, rfl⟩
         replace H : ((impl_Road_has.f k1 a0_0 false y234).bind fun t237 => (if t237 = true then (if x7_1.length < 17592186044416 then (impl_Road_walk.l0 k1 (x7_1 ++ [wrap64 (x8_1 + (wrap64 (a1_1 * (rd l1_3 (ji12)))))]) (wrap64 (x8_1 + (wrap64 (a1_1 * (rd l1_3 (ji12)))))) a2 (wrap64 (x17_1 + 1)) a0_0 false a1_0 a1_1 a1_2 l1_3) else (none)) else (if x7_1.length < 17592186044416 then (impl_Road_walk.l0 k1 (x7_1 ++ [x8_1]) x8_1 a2 (wrap64 (x17_1 + 1)) a0_0 false a1_0 a1_1 a1_2 l1_3) else (none)))) = some r := by first | (rw [hy234]; with_reducible exact H) | (have H2_ := (Option.bind_some _ _).symm.trans H; rw [hy234]; with_reducible exact H2_) | (have H2_ := (Option.bind_some _ _).symm.trans H; with_reducible exact H2_) | with_reducible exact H | (rw [hy234]; exact H) | exact H
         have Ny234 := A_ hy234
         clear hy234
         replace H := Option.bind_eq_some_iff.mp H
         obtain ⟨t237, A390, H⟩ := H
         replace H : (if t237 = true then (if x7_1.length < 17592186044416 then (impl_Road_walk.l0 k1 (x7_1 ++ [wrap64 (x8_1 + (wrap64 (a1_1 * (rd l1_3 (ji12)))))]) (wrap64 (x8_1 + (wrap64 (a1_1 * (rd l1_3 (ji12)))))) a2 (wrap64 (x17_1 + 1)) a0_0 false a1_0 a1_1 a1_2 l1_3) else (none)) else (if x7_1.length < 17592186044416 then (impl_Road_walk.l0 k1 (x7_1 ++ [x8_1]) x8_1 a2 (wrap64 (x17_1 + 1)) a0_0 false a1_0 a1_1 a1_2 l1_3) else (none))) = some r := H
         have A39 := A_ A390
         clear A390
         by_cases c40 : t237 = true
         ·
          subst c40
          have H1 : (if x7_1.length < 17592186044416 then (impl_Road_walk.l0 k1 (x7_1 ++ [wrap64 (x8_1 + (wrap64 (a1_1 * (rd l1_3 (ji12)))))]) (wrap64 (x8_1 + (wrap64 (a1_1 * (rd l1_3 (ji12)))))) a2 (wrap64 (x17_1 + 1)) a0_0 false a1_0 a1_1 a1_2 l1_3) else (none)) = some r := by rw [if_pos rfl] at H; exact H
          clear H
          have H := H1
          clear H1
          by_cases c41 : x7_1.length < 17592186044416
          ·
           rw [if_pos c41] at H
           have LMc41 := A_ c41
           clear c41
           obtain ⟨y238, hy238⟩ : ∃ y_ : List Int, y_ = (x7_1 ++ [wrap64 (x8_1 + (wrap64 (a1_1 * (rd l1_3 (ji12)))))]) := ⟨_, rfl⟩
           replace H : (impl_Road_walk.l0 k1 y238 (wrap64 (x8_1 + (wrap64 (a1_1 * (rd l1_3 (ji12)))))) a2 (wrap64 (x17_1 + 1)) a0_0 false a1_0 a1_1 a1_2 l1_3) = some r := by first | (rw [hy238]; with_reducible exact H) | (have H2_ := (Option.bind_some _ _).symm.trans H; rw [hy238]; with_reducible exact H2_) | (have H2_ := (Option.bind_some _ _).symm.trans H; with_reducible exact H2_) | with_reducible exact H | (rw [hy238]; exact H) | exact H
           have Ny238 := A_ hy238
           clear hy238
           have H' := A_ H
           clear H
           have hnb42 := NB219_218.out
           have hnc42 := NB218_219.out
           have hcz43_0 : wr.cell? ⟨gb219, 0, none⟩ = some (.int .i64 a1_0) := bc BK219 0
           have hcz43_1 : wr.cell? ⟨gb219, 1, none⟩ = some (.int .i64 a1_1) := bc BK219 1
           have hcz43_2 : wr.cell? ⟨gb219, 2, none⟩ = some (.int .i64 a1_2) := bc BK219 2
           have hcz43_3 : wr.cell? ⟨gb219, 3, none⟩ = some (.slice A1_3 l1_3.length c1_3) := bc BK219 3
           have hfz43_0 := blk_frozen BK219.out 0
           have hfz43_1 := blk_frozen BK219.out 1
           have hfz43_2 := blk_frozen BK219.out 2
           have hfz43_3 := blk_frozen BK219.out 3
           try go_wp2
           have n0_ := A_ (Kd.R_drew HO_7.out)
           have n1_ := A_ (blk_drew BK218.out)
           have n2_ := A_ (blk_drew BK219.out)
           have n3_ := A_ (below_drew1 HB.out)
           clear HO_7 BK218 BK219 HB; have HO_7 := n0_; have BK218 := n1_; have BK219 := n2_; have HB := n3_; clear n0_ n1_ n2_ n3_
           have p223 : 0 ≤ ((ji12) : Int) := of_decide_eq_true (by first | (with_reducible assumption) | assumption)
           have q223 : (ji12) < (l1_3.length : Int) := of_decide_eq_true (by first | (with_reducible assumption) | assumption)
           obtain ⟨ad223, e223, hx223_0⟩ := Kd.at_int HR1_3.out (ji12) p223 q223
           have hw223_0 := hx223_0
           cases e223
           replace hx223_0 := (HB.out.cell (World.block_lt_of_cell? w _ hx223_0)).trans hx223_0
           replace p223 := eq_true p223
           replace q223 := eq_true q223
           refine start_ (n := 18) (S := fun w' => w'.cell? ⟨gb219, 0, none⟩ = some (.int .i64 a1_0) ∧ w'.cell? ⟨gb219, 1, none⟩ = some (.int .i64 a1_1) ∧ w'.cell? ⟨gb219, 2, none⟩ = some (.int .i64 a1_2) ∧ w'.cell? ⟨gb219, 3, none⟩ = some (.slice (some ad223) l1_3.length c1_3) ∧ w'.cell? (ad223.add ((ji12)).toNat) = some (.int .i64 (rd l1_3 (ji12)))) (ds := []) #[false, false, false, false, false, false, false, false, false, false, false, false, false, false, false, false, false, false] (by kernel_rfl) rfl rfl ⟨bc BK219 0, bc BK219 1, bc BK219 2, bc BK219 3, ((HB.out.cell (World.block_lt_of_cell? w _ hw223_0)).trans hw223_0)⟩ (fun hHeld => ?_); refine with_tabW impl_Road_walk.tab6 impl_Road_walk.bits6 (fun HT_ HW_ => ?_)
           generalize wr.drew = w44 at HO_7 BK218 BK219 HB hx223_0 hHeld ⊢
           refine pure_ (i := 0) (N := some 24) (v := ?_) (a' := ?_) #[true, false, false, false, false, false, false, false, false, false, false, false, false, false, false, false, false, false] rfl rfl (any_of HT_.out (by kernel_rfl)) (fun _ _ _ h => h) (Or.inl ⟨by rfl, ?_⟩) ?_ ?_
           rotate_left
           ·
            intro w'
            go_simp
            with_reducible rfl
           rotate_left
           ·
            simp only [Act.put, List.setIfInBounds_toArray, List.set_cons_zero, List.set_cons_succ, i64_w, i32_w]
            rfl
           refine pure_ (i := 1) (N := some 25) (v := ?_) (a' := ?_) #[true, true, false, false, false, false, false, false, false, false, false, false, false, false, false, false, false, false] rfl rfl (any_of HT_.out (by kernel_rfl)) (fun _ _ _ h => h) (Or.inl ⟨by rfl, ?_⟩) ?_ ?_
           rotate_left
           ·
            intro w'
            go_simp
            with_reducible rfl
           rotate_left
           ·
            simp only [Act.put, List.setIfInBounds_toArray, List.set_cons_zero, List.set_cons_succ, i64_w, i32_w]
            rfl
           refine pure_ (i := 3) (N := some 27) (v := ?_) (a' := ?_) #[true, true, false, true, false, false, false, false, false, false, false, false, false, false, false, false, false, false] rfl rfl (any_of HT_.out (by kernel_rfl)) (fun _ _ _ h => h) (Or.inl ⟨by rfl, ?_⟩) ?_ ?_
           rotate_left
           ·
            intro w'
            go_simp
            with_reducible rfl
           rotate_left
           ·
            simp only [Act.put, List.setIfInBounds_toArray, List.set_cons_zero, List.set_cons_succ, i64_w, i32_w]
            rfl
           refine pure_ (i := 5) (N := some 29) (v := ?_) (a' := ?_) #[true, true, false, true, false, true, false, false, false, false, false, false, false, false, false, false, false, false] rfl rfl (any_of HT_.out (by kernel_rfl)) (fun _ _ _ h => h) (Or.inl ⟨by rfl, ?_⟩) ?_ ?_
           rotate_left
           ·
            intro w'
            go_simp
            with_reducible rfl
           rotate_left
           ·
            simp only [Act.put, List.setIfInBounds_toArray, List.set_cons_zero, List.set_cons_succ, i64_w, i32_w]
            rfl
           refine pure_ (i := 6) (N := some 30) (v := ?_) (a' := ?_) #[true, true, false, true, false, true, true, false, false, false, false, false, false, false, false, false, false, false] rfl rfl (any_of HT_.out (by kernel_rfl)) (fun _ _ _ h => h) (Or.inl ⟨by rfl, ?_⟩) ?_ ?_
           rotate_left
           ·
            intro w'
            go_simp
            with_reducible rfl
           rotate_left
           ·
            simp only [Act.put, List.setIfInBounds_toArray, List.set_cons_zero, List.set_cons_succ, i64_w, i32_w]
            rfl
           refine pure_ (i := 9) (N := some 33) (v := ?_) (a' := ?_) #[true, true, false, true, false, true, true, false, false, true, false, false, false, false, false, false, false, false] rfl rfl (any_of HT_.out (by kernel_rfl)) (fun _ _ _ h => h) (Or.inl ⟨by rfl, ?_⟩) ?_ ?_
           rotate_left
           ·
            intro w'
            go_simp
            with_reducible rfl
           rotate_left
           ·
            simp only [Act.put, List.setIfInBounds_toArray, List.set_cons_zero, List.set_cons_succ, i64_w, i32_w]
            rfl
           refine take_ (i := 2) (N := some 26) (v := ?_) (a' := ?_) #[true, true, true, true, false, true, true, false, false, true, false, false, false, false, false, false, false, false] rfl rfl (take_ofW HT_.out HW_.out (by kernel_rfl)) (fun _ _ _ h => h) (Or.inl ⟨by rfl, ?_⟩) hHeld ?_ ?_
           rotate_left
           ·
            rintro w' ⟨s0, s1, s2, s3, s4⟩
            go_simp
            with_reducible rfl
           rotate_left
           ·
            simp only [Act.put, List.setIfInBounds_toArray, List.set_cons_zero, List.set_cons_succ, i64_w, i32_w]
            rfl
           refine take_ (i := 4) (N := some 28) (v := ?_) (a' := ?_) #[true, true, true, true, true, true, true, false, false, true, false, false, false, false, false, false, false, false] rfl rfl (take_ofW HT_.out HW_.out (by kernel_rfl)) (fun _ _ _ h => h) (Or.inl ⟨by rfl, ?_⟩) hHeld ?_ ?_
           rotate_left
           ·
            rintro w' ⟨s0, s1, s2, s3, s4⟩
            go_simp
            with_reducible rfl
           rotate_left
           ·
            simp only [Act.put, List.setIfInBounds_toArray, List.set_cons_zero, List.set_cons_succ, i64_w, i32_w]
            rfl
           refine take_ (i := 7) (N := some 31) (v := ?_) (a' := ?_) #[true, true, true, true, true, true, true, true, false, true, false, false, false, false, false, false, false, false] rfl rfl (take_ofW HT_.out HW_.out (by kernel_rfl)) (fun _ _ _ h => h) (Or.inl ⟨by rfl, ?_⟩) hHeld ?_ ?_
           rotate_left
           ·
            rintro w' ⟨s0, s1, s2, s3, s4⟩
            go_simp
            with_reducible rfl
           rotate_left
           ·
            simp only [Act.put, List.setIfInBounds_toArray, List.set_cons_zero, List.set_cons_succ, i64_w, i32_w]
            rfl
           refine pure_ (i := 8) (N := some 32) (v := ?_) (a' := ?_) #[true, true, true, true, true, true, true, true, true, true, false, false, false, false, false, false, false, false] rfl rfl (any_of HT_.out (by kernel_rfl)) (fun _ _ _ h => h) (Or.inl ⟨by rfl, ?_⟩) ?_ ?_
           rotate_left
           ·
            intro w'
            go_simp
            with_reducible rfl
           rotate_left
           ·
            simp only [Act.put, List.setIfInBounds_toArray, List.set_cons_zero, List.set_cons_succ, i64_w, i32_w]
            rfl
           refine take_ (i := 10) (N := some 34) (v := ?_) (a' := ?_) #[true, true, true, true, true, true, true, true, true, true, true, false, false, false, false, false, false, false] rfl rfl (take_ofW HT_.out HW_.out (by kernel_rfl)) (fun _ _ _ h => h) (Or.inl ⟨by rfl, ?_⟩) hHeld ?_ ?_
           rotate_left
           ·
            rintro w' ⟨s0, s1, s2, s3, s4⟩
            go_simp
            with_reducible rfl
           rotate_left
           ·
            simp only [Act.put, List.setIfInBounds_toArray, List.set_cons_zero, List.set_cons_succ, i64_w, i32_w]
            rfl
           refine pure_ (i := 11) (N := some 35) (v := ?_) (a' := ?_) #[true, true, true, true, true, true, true, true, true, true, true, true, false, false, false, false, false, false] rfl rfl (any_of HT_.out (by kernel_rfl)) (fun _ _ _ h => h) (Or.inl ⟨by rfl, ?_⟩) ?_ ?_
           rotate_left
           ·
            intro w'
            go_simp
            with_reducible rfl
           rotate_left
           ·
            simp only [Act.put, List.setIfInBounds_toArray, List.set_cons_zero, List.set_cons_succ, i64_w, i32_w]
            rfl
           refine pure_ (i := 12) (N := some 36) (v := ?_) (a' := ?_) #[true, true, true, true, true, true, true, true, true, true, true, true, true, false, false, false, false, false] rfl rfl (any_of HT_.out (by kernel_rfl)) (fun _ _ _ h => h) (Or.inl ⟨by rfl, ?_⟩) ?_ ?_
           rotate_left
           ·
            intro w'
            go_simp
            with_reducible rfl
           rotate_left
           ·
            simp only [Act.put, List.setIfInBounds_toArray, List.set_cons_zero, List.set_cons_succ, i64_w, i32_w]
            rfl
           refine pure_ (i := 13) (N := some 37) (v := ?_) (a' := ?_) #[true, true, true, true, true, true, true, true, true, true, true, true, true, true, false, false, false, false] rfl rfl (any_of HT_.out (by kernel_rfl)) (fun _ _ _ h => h) (Or.inl ⟨by rfl, ?_⟩) ?_ ?_
           rotate_left
           ·
            intro w'
            go_simp
            with_reducible rfl
           rotate_left
           ·
            simp only [Act.put, List.setIfInBounds_toArray, List.set_cons_zero, List.set_cons_succ, i64_w, i32_w]
            rfl
           refine take_ (i := 14) (N := some 38) (v := ?_) (a' := ?_) #[true, true, true, true, true, true, true, true, true, true, true, true, true, true, true, false, false, false] rfl rfl (take_ofW HT_.out HW_.out (by kernel_rfl)) (fun _ _ _ h => h) (Or.inl ⟨by rfl, ?_⟩) hHeld ?_ ?_
           rotate_left
           ·
            rintro w' ⟨s0, s1, s2, s3, s4⟩
            go_simp
            with_reducible rfl
           rotate_left
           ·
            simp only [Act.put, List.setIfInBounds_toArray, List.set_cons_zero, List.set_cons_succ, i64_w, i32_w]
            rfl
           refine pure_ (i := 15) (N := some 39) (v := ?_) (a' := ?_) #[true, true, true, true, true, true, true, true, true, true, true, true, true, true, true, true, false, false] rfl rfl (any_of HT_.out (by kernel_rfl)) (fun _ _ _ h => h) (Or.inl ⟨by rfl, ?_⟩) ?_ ?_
           rotate_left
           ·
            intro w'
            go_simp
            with_reducible rfl
           rotate_left
           ·
            simp only [Act.put, List.setIfInBounds_toArray, List.set_cons_zero, List.set_cons_succ, i64_w, i32_w]
            rfl
           refine pure_ (i := 16) (N := some 40) (v := ?_) (a' := ?_) #[true, true, true, true, true, true, true, true, true, true, true, true, true, true, true, true, true, false] rfl rfl (any_of HT_.out (by kernel_rfl)) (fun _ _ _ h => h) (Or.inl ⟨by rfl, ?_⟩) ?_ ?_
           rotate_left
           ·
            intro w'
            go_simp
            with_reducible rfl
           rotate_left
           ·
            simp only [Act.put, List.setIfInBounds_toArray, List.set_cons_zero, List.set_cons_succ, i64_w, i32_w]
            rfl
           refine pure_ (i := 17) (N := some 10) (v := ?_) (a' := ?_) #[true, true, true, true, true, true, true, true, true, true, true, true, true, true, true, true, true, true] rfl rfl (any_of HT_.out (by kernel_rfl)) (fun _ _ _ h => h) (Or.inl ⟨by rfl, ?_⟩) ?_ ?_
           rotate_left
           ·
            intro w'
            go_simp
            with_reducible rfl
           rotate_left
           ·
            simp only [Act.put, List.setIfInBounds_toArray, List.set_cons_zero, List.set_cons_succ, i64_w, i32_w]
            rfl
           refine done_ (done_of HT_.out (by kernel_rfl)) ?_
           have hcz45_0 : w44.cell? ⟨gb218, 0, none⟩ = some (.int .i64 a0_0) := bc BK218 0
           have hcz45_1 : w44.cell? ⟨gb218, 1, none⟩ = some (.bool false) := bc BK218 1
           have hfz45_0 := blk_frozen BK218.out 0
           have hfz45_1 := blk_frozen BK218.out 1
           try go_wp2_with (first | ((with_reducible refine gate_dst (N := 52) rfl ?_); refine Kd.R_lit (Kd.int .i64) _ 3 ?hg (N := 52) ?hd (xs := ([wrap64 (x8_1 + (wrap64 (a1_1 * (rd l1_3 (ji12)))))] : List Int)) (inner := [.int .i64 (wrap64 (x8_1 + (wrap64 (a1_1 * (rd l1_3 (ji12))))))]) (ok := fun _ => True) (okp := fun _ => True) ?hr ?hp (fun _ hk => hk) trivial (Below.refl _ _) (Nat.le_refl _) (by simp) ?_; (case hd => rfl); (case hg => rfl); (case hr => first | (go_simp; done) | (go_simp; rfl)); (case hp => exact (Reps.one (show Kd.M (Kd.int .i64) _ _ _ (wrap64 (x8_1 + (wrap64 (a1_1 * (rd l1_3 (ji12)))))) [.int .i64 (wrap64 (x8_1 + (wrap64 (a1_1 * (rd l1_3 (ji12))))))] from rfl) (Reps.none _ _))); intro v235 w46 ho47 hb hg_ hnew_; clear hg_ hnew_; (first | rw [← Ny234.out] at ho47 | (simp only [Int.reduceToNat] at ho47; rw [← Ny234.out] at ho47)); have n0_ := A_ (Kd.R_elder' (rq HO_7) (Kd.R_base ho47) hb); have n1_ := A_ (Kd.R_lower (Kd.R_new' ho47 (Kd.R_lt (rq HO_7))) (below_size (hq HB))); have n2_ := A_ (blk_below (bq BK218) hb); have n3_ := A_ (blk_below (bq BK219) hb); have n4_ := A_ (below_step (hq HB) hb); clear HO_7; clear BK218; clear BK219; clear HB; have HO_7 := n0_; have HO236 := n1_; have BK218 := n2_; have BK219 := n3_; have HB := n4_; clear n0_ n1_ n2_ n3_ n4_; clear hb ho47; obtain ⟨Ao48, co48, eo48⟩ := Kd.R_slice HO236.out; subst eo48) | ((with_reducible refine gate_callee (f := 73) rfl ?_); refine goesL_ (some 53) rfl rfl Try.func73 (by kernel_rfl) rfl #[.agg #[.int .i64 a0_0, .bool false], .slice Ao48 y234.length co48] rfl gq ?_; (with_reducible refine (impl_Road_has.calls k1 a0_0 false _ _ y234 true _ ?side1 ?side2 A39.out).mono ?_); (case side1 => exact cq (Kd.R_reads' HO236.out).2.2); (case side2 => exact (Kd.R_reads' HO236.out).2.1); rintro e w49 ⟨rfl, hb⟩; refine ⟨_, rfl, ?_⟩; have n0_ := A_ (Kd.R_below (rq HO_7) hb); have n1_ := A_ (Kd.R_below (rq HO236) hb); have n2_ := A_ (blk_below (bq BK218) hb); have n3_ := A_ (blk_below (bq BK219) hb); have n4_ := A_ (below_step (hq HB) hb); clear HO_7; clear HO236; clear BK218; clear BK219; clear HB; have HO_7 := n0_; have HO236 := n1_; have BK218 := n2_; have BK219 := n3_; have HB := n4_; clear n0_ n1_ n2_ n3_ n4_; (try clear hb); (try clear hb2); (try clear hk); (try clear hi)) | ((with_reducible refine gate_builtin (b := .append) (xs := #[.tmp 55, .tmp 57]) rfl ?_); at_builtin; refine Kd.R_append (Kd.int .i64) (w0 := w) w.heap.size rfl (.tmp 55) (.tmp 57) 26 3 (.int .i64 0) 8 rfl Try.underlying26 info3 rfl (by decide) (by omega) u7 x7_1 (wrap64 (x8_1 + (wrap64 (a1_1 * (rd l1_3 (ji12)))))) [.int .i64 (wrap64 (x8_1 + (wrap64 (a1_1 * (rd l1_3 (ji12))))))] (fun k_ => some k_ ≠ (.slice Ao48 y234.length co48 : Value).ownBlock) (fun _ => False) rfl rfl ?aP (fun _ hk => hk.elim) ?aF ?aO ?aB ?aS ?aL ?_; (case aP => exact rfl); (case aB => exact (hq HB)); (case aF => exact (fun k_ hk => Kd.fresh' (Kd.R_lt (rq HO236)) k_ hk)); (case aO => exact (by (with_reducible repeat (first | apply Kd.R_alloc | apply Kd.R_drewN | apply Kd.R_drew)); exact Kd.R_mono HO_7.out (fun _ hk => hk.2))); (case aS => exact (below_size (hq HB))); (case aL => have := LMc41.out; omega); intro v239 w50 ho hb hg hat; rw [← Ny238.out] at ho; have n0_ := A_ (blk_grown (g := gb218) (o := .cells #[.int .i64 a0_0, .bool false] 25 (0, 0)) (bq BK218) hg (Kd.R_ne HO_7.out BK218.out (by decide))); have n1_ := A_ (blk_grown (g := gb219) (o := .cells #[.int .i64 a1_0, .int .i64 a1_1, .int .i64 a1_2, .slice (some ad223) l1_3.length c1_3] 93 (0, 0)) (bq BK219) hg (Kd.R_ne HO_7.out BK219.out (by decide))); have n2_ := A_ (Kd.R_after (ok := (fun _ => True)) (rq HO236) hg hat); have n3_ := A_ (hb); have n4_ := A_ (ho); clear BK218; clear BK219; clear HO236; clear HB; clear HO_7; have BK218 := n0_; have BK219 := n1_; have HO236 := n2_; have HB := n3_; have HO240 := n4_; clear n0_ n1_ n2_ n3_ n4_; clear ho hb hg hat))
           go_roundg k1
           case measure => have := HK1.out; omega
           case rel => exact ⟨(y238), (wrap64 (x8_1 + (wrap64 (a1_1 * (rd l1_3 (ji12)))))), (wrap64 (x17_1 + 1)), (by first | rfl | (simp; done) | (simp only [← hji12] <;> (first | rfl | simp)) | (simp [*]; done)), (by first | rfl | (simp; done) | (simp [*]; done)), H', ⟨by have := HK1.out; omega⟩, ⟨by (with_reducible repeat (first | apply Kd.R_alloc | apply Kd.R_drewN | apply Kd.R_drew)); exact Kd.R_mono HO240.out (fun _ hk => trivial)⟩, ⟨bq BK218⟩, ⟨bq BK219⟩, ⟨hq HB⟩⟩
          ·
           rw [if_neg c41] at H
           exact absurd H (by simp)
         ·
          replace c40 := Bool.eq_false_iff.mpr c40
          subst c40
          have H1 : (if x7_1.length < 17592186044416 then (impl_Road_walk.l0 k1 (x7_1 ++ [x8_1]) x8_1 a2 (wrap64 (x17_1 + 1)) a0_0 false a1_0 a1_1 a1_2 l1_3) else (none)) = some r := by rw [if_neg (show ¬ (false = true) by decide)] at H; exact H
          clear H
          have H := H1
          clear H1
          by_cases c51 : x7_1.length < 17592186044416
          ·
           rw [if_pos c51] at H
           have LMc51 := A_ c51
           clear c51
           obtain ⟨y241, hy241⟩ : ∃ y_ : List Int, y_ = (x7_1 ++ [x8_1]) := ⟨_, rfl⟩
           replace H : (impl_Road_walk.l0 k1 y241 x8_1 a2 (wrap64 (x17_1 + 1)) a0_0 false a1_0 a1_1 a1_2 l1_3) = some r := by first | (rw [hy241]; with_reducible exact H) | (have H2_ := (Option.bind_some _ _).symm.trans H; rw [hy241]; with_reducible exact H2_) | (have H2_ := (Option.bind_some _ _).symm.trans H; with_reducible exact H2_) | with_reducible exact H | (rw [hy241]; exact H) | exact H
           have Ny241 := A_ hy241
           clear hy241
           have H' := A_ H
           clear H
           have hnb52 := NB219_218.out
           have hnc52 := NB218_219.out
           have hcz53_0 : wr.cell? ⟨gb219, 0, none⟩ = some (.int .i64 a1_0) := bc BK219 0
           have hcz53_1 : wr.cell? ⟨gb219, 1, none⟩ = some (.int .i64 a1_1) := bc BK219 1
           have hcz53_2 : wr.cell? ⟨gb219, 2, none⟩ = some (.int .i64 a1_2) := bc BK219 2
           have hcz53_3 : wr.cell? ⟨gb219, 3, none⟩ = some (.slice A1_3 l1_3.length c1_3) := bc BK219 3
           have hfz53_0 := blk_frozen BK219.out 0
           have hfz53_1 := blk_frozen BK219.out 1
           have hfz53_2 := blk_frozen BK219.out 2
           have hfz53_3 := blk_frozen BK219.out 3
           try go_wp2
           have n0_ := A_ (Kd.R_drew HO_7.out)
           have n1_ := A_ (blk_drew BK218.out)
           have n2_ := A_ (blk_drew BK219.out)
           have n3_ := A_ (below_drew1 HB.out)
           clear HO_7 BK218 BK219 HB; have HO_7 := n0_; have BK218 := n1_; have BK219 := n2_; have HB := n3_; clear n0_ n1_ n2_ n3_
           have p223 : 0 ≤ ((ji12) : Int) := of_decide_eq_true (by first | (with_reducible assumption) | assumption)
           have q223 : (ji12) < (l1_3.length : Int) := of_decide_eq_true (by first | (with_reducible assumption) | assumption)
           obtain ⟨ad223, e223, hx223_0⟩ := Kd.at_int HR1_3.out (ji12) p223 q223
           have hw223_0 := hx223_0
           cases e223
           replace hx223_0 := (HB.out.cell (World.block_lt_of_cell? w _ hx223_0)).trans hx223_0
           replace p223 := eq_true p223
           replace q223 := eq_true q223
           refine start_ (n := 18) (S := fun w' => w'.cell? ⟨gb219, 0, none⟩ = some (.int .i64 a1_0) ∧ w'.cell? ⟨gb219, 1, none⟩ = some (.int .i64 a1_1) ∧ w'.cell? ⟨gb219, 2, none⟩ = some (.int .i64 a1_2) ∧ w'.cell? ⟨gb219, 3, none⟩ = some (.slice (some ad223) l1_3.length c1_3) ∧ w'.cell? (ad223.add ((ji12)).toNat) = some (.int .i64 (rd l1_3 (ji12)))) (ds := []) #[false, false, false, false, false, false, false, false, false, false, false, false, false, false, false, false, false, false] (by kernel_rfl) rfl rfl ⟨bc BK219 0, bc BK219 1, bc BK219 2, bc BK219 3, ((HB.out.cell (World.block_lt_of_cell? w _ hw223_0)).trans hw223_0)⟩ (fun hHeld => ?_); refine with_tabW impl_Road_walk.tab6 impl_Road_walk.bits6 (fun HT_ HW_ => ?_)
           generalize wr.drew = w54 at HO_7 BK218 BK219 HB hx223_0 hHeld ⊢
           refine pure_ (i := 0) (N := some 24) (v := ?_) (a' := ?_) #[true, false, false, false, false, false, false, false, false, false, false, false, false, false, false, false, false, false] rfl rfl (any_of HT_.out (by kernel_rfl)) (fun _ _ _ h => h) (Or.inl ⟨by rfl, ?_⟩) ?_ ?_
           rotate_left
           ·
            intro w'
            go_simp
            with_reducible rfl
           rotate_left
           ·
            simp only [Act.put, List.setIfInBounds_toArray, List.set_cons_zero, List.set_cons_succ, i64_w, i32_w]
            rfl
           refine pure_ (i := 1) (N := some 25) (v := ?_) (a' := ?_) #[true, true, false, false, false, false, false, false, false, false, false, false, false, false, false, false, false, false] rfl rfl (any_of HT_.out (by kernel_rfl)) (fun _ _ _ h => h) (Or.inl ⟨by rfl, ?_⟩) ?_ ?_
           rotate_left
           ·
            intro w'
            go_simp
            with_reducible rfl
           rotate_left
           ·
            simp only [Act.put, List.setIfInBounds_toArray, List.set_cons_zero, List.set_cons_succ, i64_w, i32_w]
            rfl
           refine pure_ (i := 3) (N := some 27) (v := ?_) (a' := ?_) #[true, true, false, true, false, false, false, false, false, false, false, false, false, false, false, false, false, false] rfl rfl (any_of HT_.out (by kernel_rfl)) (fun _ _ _ h => h) (Or.inl ⟨by rfl, ?_⟩) ?_ ?_
           rotate_left
           ·
            intro w'
            go_simp
            with_reducible rfl
           rotate_left
           ·
            simp only [Act.put, List.setIfInBounds_toArray, List.set_cons_zero, List.set_cons_succ, i64_w, i32_w]
            rfl
           refine pure_ (i := 5) (N := some 29) (v := ?_) (a' := ?_) #[true, true, false, true, false, true, false, false, false, false, false, false, false, false, false, false, false, false] rfl rfl (any_of HT_.out (by kernel_rfl)) (fun _ _ _ h => h) (Or.inl ⟨by rfl, ?_⟩) ?_ ?_
           rotate_left
           ·
            intro w'
            go_simp
            with_reducible rfl
           rotate_left
           ·
            simp only [Act.put, List.setIfInBounds_toArray, List.set_cons_zero, List.set_cons_succ, i64_w, i32_w]
            rfl
           refine pure_ (i := 6) (N := some 30) (v := ?_) (a' := ?_) #[true, true, false, true, false, true, true, false, false, false, false, false, false, false, false, false, false, false] rfl rfl (any_of HT_.out (by kernel_rfl)) (fun _ _ _ h => h) (Or.inl ⟨by rfl, ?_⟩) ?_ ?_
           rotate_left
           ·
            intro w'
            go_simp
            with_reducible rfl
           rotate_left
           ·
            simp only [Act.put, List.setIfInBounds_toArray, List.set_cons_zero, List.set_cons_succ, i64_w, i32_w]
            rfl
           refine pure_ (i := 9) (N := some 33) (v := ?_) (a' := ?_) #[true, true, false, true, false, true, true, false, false, true, false, false, false, false, false, false, false, false] rfl rfl (any_of HT_.out (by kernel_rfl)) (fun _ _ _ h => h) (Or.inl ⟨by rfl, ?_⟩) ?_ ?_
           rotate_left
           ·
            intro w'
            go_simp
            with_reducible rfl
           rotate_left
           ·
            simp only [Act.put, List.setIfInBounds_toArray, List.set_cons_zero, List.set_cons_succ, i64_w, i32_w]
            rfl
           refine take_ (i := 2) (N := some 26) (v := ?_) (a' := ?_) #[true, true, true, true, false, true, true, false, false, true, false, false, false, false, false, false, false, false] rfl rfl (take_ofW HT_.out HW_.out (by kernel_rfl)) (fun _ _ _ h => h) (Or.inl ⟨by rfl, ?_⟩) hHeld ?_ ?_
           rotate_left
           ·
            rintro w' ⟨s0, s1, s2, s3, s4⟩
            go_simp
            with_reducible rfl
           rotate_left
           ·
            simp only [Act.put, List.setIfInBounds_toArray, List.set_cons_zero, List.set_cons_succ, i64_w, i32_w]
            rfl
           refine take_ (i := 4) (N := some 28) (v := ?_) (a' := ?_) #[true, true, true, true, true, true, true, false, false, true, false, false, false, false, false, false, false, false] rfl rfl (take_ofW HT_.out HW_.out (by kernel_rfl)) (fun _ _ _ h => h) (Or.inl ⟨by rfl, ?_⟩) hHeld ?_ ?_
           rotate_left
           ·
            rintro w' ⟨s0, s1, s2, s3, s4⟩
            go_simp
            with_reducible rfl
           rotate_left
           ·
            simp only [Act.put, List.setIfInBounds_toArray, List.set_cons_zero, List.set_cons_succ, i64_w, i32_w]
            rfl
           refine take_ (i := 7) (N := some 31) (v := ?_) (a' := ?_) #[true, true, true, true, true, true, true, true, false, true, false, false, false, false, false, false, false, false] rfl rfl (take_ofW HT_.out HW_.out (by kernel_rfl)) (fun _ _ _ h => h) (Or.inl ⟨by rfl, ?_⟩) hHeld ?_ ?_
           rotate_left
           ·
            rintro w' ⟨s0, s1, s2, s3, s4⟩
            go_simp
            with_reducible rfl
           rotate_left
           ·
            simp only [Act.put, List.setIfInBounds_toArray, List.set_cons_zero, List.set_cons_succ, i64_w, i32_w]
            rfl
           refine pure_ (i := 8) (N := some 32) (v := ?_) (a' := ?_) #[true, true, true, true, true, true, true, true, true, true, false, false, false, false, false, false, false, false] rfl rfl (any_of HT_.out (by kernel_rfl)) (fun _ _ _ h => h) (Or.inl ⟨by rfl, ?_⟩) ?_ ?_
           rotate_left
           ·
            intro w'
            go_simp
            with_reducible rfl
           rotate_left
           ·
            simp only [Act.put, List.setIfInBounds_toArray, List.set_cons_zero, List.set_cons_succ, i64_w, i32_w]
            rfl
           refine take_ (i := 10) (N := some 34) (v := ?_) (a' := ?_) #[true, true, true, true, true, true, true, true, true, true, true, false, false, false, false, false, false, false] rfl rfl (take_ofW HT_.out HW_.out (by kernel_rfl)) (fun _ _ _ h => h) (Or.inl ⟨by rfl, ?_⟩) hHeld ?_ ?_
           rotate_left
           ·
            rintro w' ⟨s0, s1, s2, s3, s4⟩
            go_simp
            with_reducible rfl
           rotate_left
           ·
            simp only [Act.put, List.setIfInBounds_toArray, List.set_cons_zero, List.set_cons_succ, i64_w, i32_w]
            rfl
           refine pure_ (i := 11) (N := some 35) (v := ?_) (a' := ?_) #[true, true, true, true, true, true, true, true, true, true, true, true, false, false, false, false, false, false] rfl rfl (any_of HT_.out (by kernel_rfl)) (fun _ _ _ h => h) (Or.inl ⟨by rfl, ?_⟩) ?_ ?_
           rotate_left
           ·
            intro w'
            go_simp
            with_reducible rfl
           rotate_left
           ·
            simp only [Act.put, List.setIfInBounds_toArray, List.set_cons_zero, List.set_cons_succ, i64_w, i32_w]
            rfl
           refine pure_ (i := 12) (N := some 36) (v := ?_) (a' := ?_) #[true, true, true, true, true, true, true, true, true, true, true, true, true, false, false, false, false, false] rfl rfl (any_of HT_.out (by kernel_rfl)) (fun _ _ _ h => h) (Or.inl ⟨by rfl, ?_⟩) ?_ ?_
           rotate_left
           ·
            intro w'
            go_simp
            with_reducible rfl
           rotate_left
           ·
            simp only [Act.put, List.setIfInBounds_toArray, List.set_cons_zero, List.set_cons_succ, i64_w, i32_w]
            rfl
           refine pure_ (i := 13) (N := some 37) (v := ?_) (a' := ?_) #[true, true, true, true, true, true, true, true, true, true, true, true, true, true, false, false, false, false] rfl rfl (any_of HT_.out (by kernel_rfl)) (fun _ _ _ h => h) (Or.inl ⟨by rfl, ?_⟩) ?_ ?_
           rotate_left
           ·
            intro w'
            go_simp
            with_reducible rfl
           rotate_left
           ·
            simp only [Act.put, List.setIfInBounds_toArray, List.set_cons_zero, List.set_cons_succ, i64_w, i32_w]
            rfl
           refine take_ (i := 14) (N := some 38) (v := ?_) (a' := ?_) #[true, true, true, true, true, true, true, true, true, true, true, true, true, true, true, false, false, false] rfl rfl (take_ofW HT_.out HW_.out (by kernel_rfl)) (fun _ _ _ h => h) (Or.inl ⟨by rfl, ?_⟩) hHeld ?_ ?_
           rotate_left
           ·
            rintro w' ⟨s0, s1, s2, s3, s4⟩
            go_simp
            with_reducible rfl
           rotate_left
           ·
            simp only [Act.put, List.setIfInBounds_toArray, List.set_cons_zero, List.set_cons_succ, i64_w, i32_w]
            rfl
           refine pure_ (i := 15) (N := some 39) (v := ?_) (a' := ?_) #[true, true, true, true, true, true, true, true, true, true, true, true, true, true, true, true, false, false] rfl rfl (any_of HT_.out (by kernel_rfl)) (fun _ _ _ h => h) (Or.inl ⟨by rfl, ?_⟩) ?_ ?_
           rotate_left
           ·
            intro w'
            go_simp
            with_reducible rfl
           rotate_left
           ·
            simp only [Act.put, List.setIfInBounds_toArray, List.set_cons_zero, List.set_cons_succ, i64_w, i32_w]
            rfl
           refine pure_ (i := 16) (N := some 40) (v := ?_) (a' := ?_) #[true, true, true, true, true, true, true, true, true, true, true, true, true, true, true, true, true, false] rfl rfl (any_of HT_.out (by kernel_rfl)) (fun _ _ _ h => h) (Or.inl ⟨by rfl, ?_⟩) ?_ ?_
           rotate_left
           ·
            intro w'
            go_simp
            with_reducible rfl
           rotate_left
           ·
            simp only [Act.put, List.setIfInBounds_toArray, List.set_cons_zero, List.set_cons_succ, i64_w, i32_w]
            rfl
           refine pure_ (i := 17) (N := some 10) (v := ?_) (a' := ?_) #[true, true, true, true, true, true, true, true, true, true, true, true, true, true, true, true, true, true] rfl rfl (any_of HT_.out (by kernel_rfl)) (fun _ _ _ h => h) (Or.inl ⟨by rfl, ?_⟩) ?_ ?_
           rotate_left
           ·
            intro w'
            go_simp
            with_reducible rfl
           rotate_left
           ·
            simp only [Act.put, List.setIfInBounds_toArray, List.set_cons_zero, List.set_cons_succ, i64_w, i32_w]
            rfl
           refine done_ (done_of HT_.out (by kernel_rfl)) ?_
           have hcz55_0 : w54.cell? ⟨gb218, 0, none⟩ = some (.int .i64 a0_0) := bc BK218 0
           have hcz55_1 : w54.cell? ⟨gb218, 1, none⟩ = some (.bool false) := bc BK218 1
           have hfz55_0 := blk_frozen BK218.out 0
           have hfz55_1 := blk_frozen BK218.out 1
           try go_wp2_with (first | ((with_reducible refine gate_dst (N := 52) rfl ?_); refine Kd.R_lit (Kd.int .i64) _ 3 ?hg (N := 52) ?hd (xs := ([wrap64 (x8_1 + (wrap64 (a1_1 * (rd l1_3 (ji12)))))] : List Int)) (inner := [.int .i64 (wrap64 (x8_1 + (wrap64 (a1_1 * (rd l1_3 (ji12))))))]) (ok := fun _ => True) (okp := fun _ => True) ?hr ?hp (fun _ hk => hk) trivial (Below.refl _ _) (Nat.le_refl _) (by simp) ?_; (case hd => rfl); (case hg => rfl); (case hr => first | (go_simp; done) | (go_simp; rfl)); (case hp => exact (Reps.one (show Kd.M (Kd.int .i64) _ _ _ (wrap64 (x8_1 + (wrap64 (a1_1 * (rd l1_3 (ji12)))))) [.int .i64 (wrap64 (x8_1 + (wrap64 (a1_1 * (rd l1_3 (ji12))))))] from rfl) (Reps.none _ _))); intro v235 w56 ho57 hb hg_ hnew_; clear hg_ hnew_; (first | rw [← Ny234.out] at ho57 | (simp only [Int.reduceToNat] at ho57; rw [← Ny234.out] at ho57)); have n0_ := A_ (Kd.R_elder' (rq HO_7) (Kd.R_base ho57) hb); have n1_ := A_ (Kd.R_lower (Kd.R_new' ho57 (Kd.R_lt (rq HO_7))) (below_size (hq HB))); have n2_ := A_ (blk_below (bq BK218) hb); have n3_ := A_ (blk_below (bq BK219) hb); have n4_ := A_ (below_step (hq HB) hb); clear HO_7; clear BK218; clear BK219; clear HB; have HO_7 := n0_; have HO236 := n1_; have BK218 := n2_; have BK219 := n3_; have HB := n4_; clear n0_ n1_ n2_ n3_ n4_; clear hb ho57; obtain ⟨Ao58, co58, eo58⟩ := Kd.R_slice HO236.out; subst eo58) | ((with_reducible refine gate_callee (f := 73) rfl ?_); refine goesL_ (some 53) rfl rfl Try.func73 (by kernel_rfl) rfl #[.agg #[.int .i64 a0_0, .bool false], .slice Ao58 y234.length co58] rfl gq ?_; (with_reducible refine (impl_Road_has.calls k1 a0_0 false _ _ y234 false _ ?side1 ?side2 A39.out).mono ?_); (case side1 => exact cq (Kd.R_reads' HO236.out).2.2); (case side2 => exact (Kd.R_reads' HO236.out).2.1); rintro e w59 ⟨rfl, hb⟩; refine ⟨_, rfl, ?_⟩; have n0_ := A_ (Kd.R_below (rq HO_7) hb); have n1_ := A_ (Kd.R_below (rq HO236) hb); have n2_ := A_ (blk_below (bq BK218) hb); have n3_ := A_ (blk_below (bq BK219) hb); have n4_ := A_ (below_step (hq HB) hb); clear HO_7; clear HO236; clear BK218; clear BK219; clear HB; have HO_7 := n0_; have HO236 := n1_; have BK218 := n2_; have BK219 := n3_; have HB := n4_; clear n0_ n1_ n2_ n3_ n4_; (try clear hb); (try clear hb2); (try clear hk); (try clear hi)) | ((with_reducible refine gate_builtin (b := .append) (xs := #[.tmp 55, .tmp 57]) rfl ?_); at_builtin; refine Kd.R_append (Kd.int .i64) (w0 := w) w.heap.size rfl (.tmp 55) (.tmp 57) 26 3 (.int .i64 0) 8 rfl Try.underlying26 info3 rfl (by decide) (by omega) u7 x7_1 x8_1 [.int .i64 x8_1] (fun k_ => some k_ ≠ (.slice Ao58 y234.length co58 : Value).ownBlock) (fun _ => False) rfl rfl ?aP (fun _ hk => hk.elim) ?aF ?aO ?aB ?aS ?aL ?_; (case aP => exact rfl); (case aB => exact (hq HB)); (case aF => exact (fun k_ hk => Kd.fresh' (Kd.R_lt (rq HO236)) k_ hk)); (case aO => exact (by (with_reducible repeat (first | apply Kd.R_alloc | apply Kd.R_drewN | apply Kd.R_drew)); exact Kd.R_mono HO_7.out (fun _ hk => hk.2))); (case aS => exact (below_size (hq HB))); (case aL => have := LMc51.out; omega); intro v242 w60 ho hb hg hat; rw [← Ny241.out] at ho; have n0_ := A_ (blk_grown (g := gb218) (o := .cells #[.int .i64 a0_0, .bool false] 25 (0, 0)) (bq BK218) hg (Kd.R_ne HO_7.out BK218.out (by decide))); have n1_ := A_ (blk_grown (g := gb219) (o := .cells #[.int .i64 a1_0, .int .i64 a1_1, .int .i64 a1_2, .slice (some ad223) l1_3.length c1_3] 93 (0, 0)) (bq BK219) hg (Kd.R_ne HO_7.out BK219.out (by decide))); have n2_ := A_ (Kd.R_after (ok := (fun _ => True)) (rq HO236) hg hat); have n3_ := A_ (hb); have n4_ := A_ (ho); clear BK218; clear BK219; clear HO236; clear HB; clear HO_7; have BK218 := n0_; have BK219 := n1_; have HO236 := n2_; have HB := n3_; have HO243 := n4_; clear n0_ n1_ n2_ n3_ n4_; clear ho hb hg hat))
           go_roundg k1
           case measure => have := HK1.out; omega
           case rel => exact ⟨(y241), (x8_1), (wrap64 (x17_1 + 1)), (by first | rfl | (simp; done) | (simp [*]; done)), (by first | rfl | (simp; done) | (simp [*]; done)), H', ⟨by have := HK1.out; omega⟩, ⟨by (with_reducible repeat (first | apply Kd.R_alloc | apply Kd.R_drewN | apply Kd.R_drew)); exact Kd.R_mono HO243.out (fun _ hk => trivial)⟩, ⟨bq BK218⟩, ⟨bq BK219⟩, ⟨hq HB⟩⟩
          ·
           rw [if_neg c51] at H
           exact absurd H (by simp)
       ·
        rw [if_neg c14] at H
        exact absurd H (by simp)
      ·
       rw [if_neg c13] at H
       exact absurd H (by simp)
    ·
     rw [if_neg c10] at H
     have c10b0 : decide (a1_2 ≤ x17_1) = false := decide_eq_false c10
     clear c10
     by_cases c61 : x7_1.length < 17592186044416
     ·
      rw [if_pos c61] at H
      have LMc61 := A_ c61
      clear c61
      obtain ⟨y244, hy244⟩ : ∃ y_ : List Int, y_ = (x7_1 ++ [x8_1]) := ⟨_, rfl⟩
      replace H : (impl_Road_walk.l0 k1 y244 x8_1 a2 (wrap64 (x17_1 + 1)) a0_0 a0_1 a1_0 a1_1 a1_2 l1_3) = some r := by first | (rw [hy244]; with_reducible exact H) | (have H2_ := (Option.bind_some _ _).symm.trans H; rw [hy244]; with_reducible exact H2_) | (have H2_ := (Option.bind_some _ _).symm.trans H; with_reducible exact H2_) | with_reducible exact H | (rw [hy244]; exact H) | exact H
      have Ny244 := A_ hy244
      clear hy244
      have H' := A_ H
      clear H
      have hnb62 := NB219_218.out
      have hnc62 := NB218_219.out
      have hcz63_0 : wr.cell? ⟨gb219, 0, none⟩ = some (.int .i64 a1_0) := bc BK219 0
      have hcz63_1 : wr.cell? ⟨gb219, 1, none⟩ = some (.int .i64 a1_1) := bc BK219 1
      have hcz63_2 : wr.cell? ⟨gb219, 2, none⟩ = some (.int .i64 a1_2) := bc BK219 2
      have hcz63_3 : wr.cell? ⟨gb219, 3, none⟩ = some (.slice A1_3 l1_3.length c1_3) := bc BK219 3
      have hfz63_0 := blk_frozen BK219.out 0
      have hfz63_1 := blk_frozen BK219.out 1
      have hfz63_2 := blk_frozen BK219.out 2
      have hfz63_3 := blk_frozen BK219.out 3
      go_wp2_with (first | ((with_reducible refine gate_builtin (b := .append) (xs := #[.tmp 55, .tmp 57]) rfl ?_); at_builtin; refine Kd.R_append (Kd.int .i64) (w0 := w) w.heap.size rfl (.tmp 55) (.tmp 57) 26 3 (.int .i64 0) 8 rfl Try.underlying26 info3 rfl (by decide) (by omega) u7 x7_1 x8_1 [.int .i64 x8_1] (fun _ => True) (fun _ => False) rfl rfl ?aP (fun _ hk => hk.elim) ?aF ?aO ?aB ?aS ?aL ?_; (case aP => exact rfl); (case aB => exact (hq HB)); (case aF => exact (fun _ _ => trivial)); (case aO => exact (rq HO_7)); (case aS => exact (below_size (hq HB))); (case aL => have := LMc61.out; omega); intro v245 w64 ho hb hg hat; rw [← Ny244.out] at ho; have n0_ := A_ (blk_grown (g := gb218) (o := .cells #[.int .i64 a0_0, .bool a0_1] 25 (0, 0)) (bq BK218) hg (Kd.R_ne HO_7.out BK218.out (by decide))); have n1_ := A_ (blk_grown (g := gb219) (o := .cells #[.int .i64 a1_0, .int .i64 a1_1, .int .i64 a1_2, .slice A1_3 l1_3.length c1_3] 93 (0, 0)) (bq BK219) hg (Kd.R_ne HO_7.out BK219.out (by decide))); have n2_ := A_ (hb); have n3_ := A_ (ho); clear BK218; clear BK219; clear HB; clear HO_7; have BK218 := n0_; have BK219 := n1_; have HB := n2_; have HO246 := n3_; clear n0_ n1_ n2_ n3_; clear ho hb hg hat))
      go_roundg k1
      case measure => have := HK1.out; omega
      case rel => exact ⟨(y244), (x8_1), (wrap64 (x17_1 + 1)), (by first | rfl | (simp; done) | (simp [*]; done)), (by first | rfl | (simp; done) | (simp [*]; done)), H', ⟨by have := HK1.out; omega⟩, ⟨rq HO246⟩, ⟨bq BK218⟩, ⟨bq BK219⟩, ⟨hq HB⟩⟩
     ·
      rw [if_neg c61] at H
      exact absurd H (by simp)
   ·
    rw [if_neg c9] at H
    have c9b0 : decide (x17_1 < a2) = false := decide_eq_false c9
    clear c9
    obtain rfl := Option.some.inj H
    go_wp2
    go_ret
    exact ⟨_, rt, rq HO_7, hq HB⟩

end Go.Proofs.Ytmamhnbhahafgaa.PFnLabels
