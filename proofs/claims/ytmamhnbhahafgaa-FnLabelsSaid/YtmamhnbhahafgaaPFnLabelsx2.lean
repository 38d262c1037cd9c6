-- Printed, and told shorter by this session's program shrink.py.
-- Printed by this session's program myprint.py.
import Derived.Test.YtmamhnbhahafgaaPFnLabelsx0
import Derived.Test.YtmamhnbhahafgaaPFnLabelsx1
namespace Go.Proofs.Ytmamhnbhahafgaa.PFnLabels
open Go.RowKit Go.Proofs.Ytmamhnbhahafgaa.Own Go.Proofs.YtmamhnbhahafgaaW.PrintWords Go.Proofs.YtmamhnbhahafgaaW.PrintLast Go.Proofs.YtmamhnbhahafgaaW.PrintMore
attribute [local go_sem] max2_int min2_int max_two min_two max_three min_three max_four min_four   -- for this text's walks alone
set_option linter.unusedVariables false
set_option linter.unusedSimpArgs false

/-! ### spec_DrawLabelTime: function 39 -/
def spec_DrawLabelTime.l0 : Nat → List Int → List Int → Int → List Int → Int → Int → Int → Bool → Option (Int × Bool × List Int × List Int)
  | 0, _, _, _, _, _, _, _, _ => none
  | k + 1, x7, x8, x9, x153000, x153001, x153002, x163000, x163001 => if x9 < (x7.length : Int) then ((spec_l1Cur_pick.f x153000 x153001 x153002 2).bind fun bt173 => (if x8.length < 17592186044416 then (spec_DrawLabelTime.l0 k x7 (x8 ++ [bt173.1]) (wrap64 (x9 + 1)) x153000 bt173.2.1 bt173.2.2 x163000 x163001) else (none))) else ((spec_l1Cur_one.f x153000 x153001 x153002 12).bind fun bt179 => (if bt179.1 = true then (if x8.length < 17592186044416 then (some (x163000, x163001, x7, (x8 ++ [1]))) else (none)) else (some (x163000, x163001, x7, x8))))
def spec_DrawLabelTime.f (k : Nat) (l0 : List Int) : Option (Int × Bool × List Int × List Int) := (spec_l1Cur_among.f l0 0 0 (([3, 4, 5, 6, 8, 12, 24, 2] : List Int))).bind fun bt156 => ((spec_l1Cur_one.f l0 bt156.2.1 bt156.2.2 12).bind fun bt159 => (if bt156.1 = 0 then (none) else ((spec_l1Least.f (wrap64 (Int.tdiv 24 bt156.1)) 6).bind fun t163 => ((spec_l1Most.f t163 1).bind fun t164 => ((spec_l1Cur_label.f k l0 bt159.2.1 bt159.2.2 t164).bind fun bt165 => (spec_DrawLabelTime.l0 k bt165.1 (([] : List Int)) 0 l0 bt165.2.1 bt165.2.2 bt156.1 (!bt159.1)))))))
theorem spec_DrawLabelTime.mono_l : ∀ k, (∀ y0 y1 y2 y3 y4 y5 y6 y7, LeO (spec_DrawLabelTime.l0 k y0 y1 y2 y3 y4 y5 y6 y7) (spec_DrawLabelTime.l0 (k + 1) y0 y1 y2 y3 y4 y5 y6 y7))
  | 0 => fun _ _ _ _ _ _ _ _ r h => by simp [spec_DrawLabelTime.l0] at h
  | k + 1 => by
    have ih0 := spec_DrawLabelTime.mono_l k
    · intro y0 y1 y2 y3 y4 y5 y6 y7
      unfold spec_DrawLabelTime.l0
      repeat' first
      | (with_reducible exact ih0 _ _ _ _ _ _ _ _)
      | (with_reducible exact spec_l1Cur_label.mono _ _ _ _ _)
      | (with_reducible exact LeO.refl _)
      | (with_reducible exact LeO.none _)
      | (with_reducible refine LeO.ite ?_ ?_)
      | (with_reducible refine LeO.bind ?_ (fun _ => ?_))
      | exact ih0 _ _ _ _ _ _ _ _
      | exact spec_l1Cur_label.mono _ _ _ _ _
      | exact LeO.none _
      | refine LeO.ite ?_ ?_
      | refine LeO.bind ?_ (fun _ => ?_)
theorem spec_DrawLabelTime.mono : ∀ a0 k, LeO (spec_DrawLabelTime.f k a0) (spec_DrawLabelTime.f (k + 1) a0) := by
  intro a0 k
  have ih0 := spec_DrawLabelTime.mono_l k
  unfold spec_DrawLabelTime.f
  repeat' first
      | (with_reducible exact ih0 _ _ _ _ _ _ _ _)
      | (with_reducible exact spec_l1Cur_label.mono _ _ _ _ _)
      | (with_reducible exact LeO.refl _)
      | (with_reducible exact LeO.none _)
      | (with_reducible refine LeO.ite ?_ ?_)
      | (with_reducible refine LeO.bind ?_ (fun _ => ?_))
      | exact ih0 _ _ _ _ _ _ _ _
      | exact spec_l1Cur_label.mono _ _ _ _ _
      | exact LeO.none _
      | refine LeO.ite ?_ ?_
      | refine LeO.bind ?_ (fun _ => ?_)
set_option maxHeartbeats 8000000 in
set_option maxRecDepth 100000 in
theorem spec_DrawLabelTime.calls (k : Nat) (A0 : Option Addr) (c0 : Nat) (l0 : List Int) (r1 : Int) (r2 : Bool) (r3 : List Int) (r4 : List Int) (w : World) (hr0 : Kd.C (Kd.int .u8) w A0 l0.length l0) (hc0 : l0.length ≤ c0) (h : spec_DrawLabelTime.f k l0 = some (r1, r2, r3, r4)) :
    Calls Try.prog 39 #[.slice A0 l0.length c0] w fun e w' => ∃ v2_ v3_ : Value, e = .returned (.tuple #[.agg #[.int .i64 r1, .bool r2], v2_, v3_]) ∧ Kd.R (Kd.int .i64) 3 w' w.heap.size (fun k_ => some k_ ≠ (v3_ : Value).ownBlock) v2_ r3 ∧ Kd.R (Kd.int .i64) 3 w' w.heap.size (fun k_ => some k_ ≠ (v2_ : Value).ownBlock) v3_ r4 ∧ Below w.heap.size w w' := by
 have hu25 := Try.underlying25
 have hu73 := Try.underlying73
 have HR0 := A_ hr0
 have HC0 := A_ hc0
 clear hr0 hc0
 have HB := A_ (Below.refl w.heap.size w)
 have H : ((spec_l1Cur_among.f l0 0 0 (([3, 4, 5, 6, 8, 12, 24, 2] : List Int))).bind fun bt156 => ((spec_l1Cur_one.f l0 bt156.2.1 bt156.2.2 12).bind fun bt159 => (if bt156.1 = 0 then (none) else ((spec_l1Least.f (wrap64 (Int.tdiv 24 bt156.1)) 6).bind fun t163 => ((spec_l1Most.f t163 1).bind fun t164 => ((spec_l1Cur_label.f k l0 bt159.2.1 bt159.2.2 t164).bind fun bt165 => (spec_DrawLabelTime.l0 k bt165.1 (([] : List Int)) 0 l0 bt165.2.1 bt165.2.2 bt156.1 (!bt159.1)))))))) = some (r1, r2, r3, r4) := h
 clear h
 obtain ⟨y153, hy153⟩ : ∃ y_ : List Int, y_ = (([3, 4, 5, 6, 8, 12, 24, 2] : List Int)) := ⟨_, rfl⟩
 replace H : ((spec_l1Cur_among.f l0 0 0 y153).bind fun bt156 => ((spec_l1Cur_one.f l0 bt156.2.1 bt156.2.2 12).bind fun bt159 => (if bt156.1 = 0 then (none) else ((spec_l1Least.f (wrap64 (Int.tdiv 24 bt156.1)) 6).bind fun t163 => ((spec_l1Most.f t163 1).bind fun t164 => ((spec_l1Cur_label.f k l0 bt159.2.1 bt159.2.2 t164).bind fun bt165 => (spec_DrawLabelTime.l0 k bt165.1 (([] : List Int)) 0 l0 bt165.2.1 bt165.2.2 bt156.1 (!bt159.1)))))))) = some (r1, r2, r3, r4) := by first | (rw [hy153]; with_reducible exact H) | (have H2_ := (Option.bind_some _ _).symm.trans H; rw [hy153]; with_reducible exact H2_) | (have H2_ := (Option.bind_some _ _).symm.trans H; with_reducible exact H2_) | with_reducible exact H | (rw [hy153]; exact H) | exact H
 have Ny153 := A_ hy153
 clear hy153
 replace H := Option.bind_eq_some_iff.mp H
 obtain ⟨⟨t156, t157, t158⟩, A20, H⟩ := H
 replace H : ((spec_l1Cur_one.f l0 t157 t158 12).bind fun bt159 => (if t156 = 0 then (none) else ((spec_l1Least.f (wrap64 (Int.tdiv 24 t156)) 6).bind fun t163 => ((spec_l1Most.f t163 1).bind fun t164 => ((spec_l1Cur_label.f k l0 bt159.2.1 bt159.2.2 t164).bind fun bt165 => (spec_DrawLabelTime.l0 k bt165.1 (([] : List Int)) 0 l0 bt165.2.1 bt165.2.2 t156 (!bt159.1))))))) = some (r1, r2, r3, r4) := H
 have A2 := A_ A20
 clear A20
 replace H := Option.bind_eq_some_iff.mp H
 obtain ⟨⟨t159, t160, t161⟩, A30, H⟩ := H
 replace H : (if t156 = 0 then (none) else ((spec_l1Least.f (wrap64 (Int.tdiv 24 t156)) 6).bind fun t163 => ((spec_l1Most.f t163 1).bind fun t164 => ((spec_l1Cur_label.f k l0 t160 t161 t164).bind fun bt165 => (spec_DrawLabelTime.l0 k bt165.1 (([] : List Int)) 0 l0 bt165.2.1 bt165.2.2 t156 (!t159)))))) = some (r1, r2, r3, r4) := H
 have A3 := A_ A30
 clear A30
 by_cases c4 : t156 = 0
 ·
  rw [if_pos c4] at H
  exact absurd H (by simp)
 ·
  rw [if_neg c4] at H
  have c4b0 : (t156 == 0) = false := beq_eq_false_iff_ne.mpr c4
  have c4b1 : (t156 != 0) = true := bne_iff_ne.mpr c4
  replace H := Option.bind_eq_some_iff.mp H
  obtain ⟨t163, A50, H⟩ := H
  replace H : ((spec_l1Most.f t163 1).bind fun t164 => ((spec_l1Cur_label.f k l0 t160 t161 t164).bind fun bt165 => (spec_DrawLabelTime.l0 k bt165.1 (([] : List Int)) 0 l0 bt165.2.1 bt165.2.2 t156 (!t159)))) = some (r1, r2, r3, r4) := H
  have A5 := A_ A50
  clear A50
  replace H := Option.bind_eq_some_iff.mp H
  obtain ⟨t164, A60, H⟩ := H
  replace H : ((spec_l1Cur_label.f k l0 t160 t161 t164).bind fun bt165 => (spec_DrawLabelTime.l0 k bt165.1 (([] : List Int)) 0 l0 bt165.2.1 bt165.2.2 t156 (!t159))) = some (r1, r2, r3, r4) := H
  have A6 := A_ A60
  clear A60
  replace H := Option.bind_eq_some_iff.mp H
  obtain ⟨⟨t165, t168, t169⟩, A70, H⟩ := H
  replace H : (spec_DrawLabelTime.l0 k t165 (([] : List Int)) 0 l0 t168 t169 t156 (!t159)) = some (r1, r2, r3, r4) := H
  have A7 := A_ A70
  clear A70
  obtain ⟨y170, hy170⟩ : ∃ y_ : List Int, y_ = (([] : List Int)) := ⟨_, rfl⟩
  replace H : (spec_DrawLabelTime.l0 k t165 y170 0 l0 t168 t169 t156 (!t159)) = some (r1, r2, r3, r4) := by first | (rw [hy170]; with_reducible exact H) | (have H2_ := (Option.bind_some _ _).symm.trans H; rw [hy170]; with_reducible exact H2_) | (have H2_ := (Option.bind_some _ _).symm.trans H; with_reducible exact H2_) | with_reducible exact H | (rw [hy170]; exact H) | exact H
  have Ny170 := A_ hy170
  clear hy170
  have H' := A_ H
  clear H
  go_enter Try.func39, Try.ntmps39
  go_wp2_with (first | ((with_reducible refine gate_dst (N := 2) rfl ?_); refine box_event ?hg (N := 2) ?hd (cs := #[.int .i64 0, .bool false]) (t := 25) ?hr ?_; (case hd => rfl); (case hg => rfl); (case hr => first | (go_simp; done) | (go_simp; rfl)); intro gb151 hg w8 hbox hb; have n0_ := A_ (below_step (hq HB) hb); have n1_ := A_ (hbox); have n2_ := A_ ((by rw [hg]; exact (below_size (hq HB)) : w.heap.size ≤ gb151)); have n3_ := A_ ((by rw [hg]; exact (below_size (hq HB)) : w.heap.size ≤ gb151)); clear HB; have HB := n0_; have BK151 := n1_; have GW151 := n2_; have GE151 := n3_; clear n0_ n1_ n2_ n3_; clear hb hbox hg) | ((with_reducible refine gate_dst (N := 12) rfl ?_); refine box_event ?hg (N := 12) ?hd (cs := #[.slice A0 l0.length c0, .int .i64 0, .int .u64 0]) (t := 73) ?hr ?_; (case hd => rfl); (case hg => rfl); (case hr => first | (go_simp; done) | (go_simp; rfl)); intro gb152 hg w9 hbox hb; have n0_ := A_ (blk_below (bq BK151) hb); have n1_ := A_ (below_step (hq HB) hb); have n2_ := A_ ((by rw [hg]; exact (below_size (hq HB)) : w.heap.size ≤ gb152)); have n3_ := A_ ((by rw [hg]; exact (below_size (hq HB)) : w.heap.size ≤ gb152)); have n4_ := A_ ((by rw [hg]; exact Nat.ne_of_lt (blk_lt (bq BK151)) : gb151 ≠ gb152)); have n5_ := A_ ((by rw [hg]; exact Nat.ne_of_gt (blk_lt (bq BK151)) : gb152 ≠ gb151)); have n6_ := A_ ((⟨_, _, hbox, by rw [hg]; exact (below_size (hq HB)), HR0.out⟩ : IsS73 w w9 gb152 l0 0 0)); clear BK151; clear HB; have BK151 := n0_; have HB := n1_; have GW152 := n2_; have GE152 := n3_; have NB151_152 := n4_; have NB152_151 := n5_; have HI152 := n6_; clear n0_ n1_ n2_ n3_ n4_ n5_ n6_; clear hb hbox hg) | ((with_reducible refine gate_dst (N := 14) rfl ?_); refine Kd.R_lit (Kd.int .i64) _ 3 ?hg (N := 14) ?hd (xs := ([3, 4, 5, 6, 8, 12, 24, 2] : List Int)) (inner := [.int .i64 3, .int .i64 4, .int .i64 5, .int .i64 6, .int .i64 8, .int .i64 12, .int .i64 24, .int .i64 2]) (ok := fun _ => True) (okp := fun _ => True) ?hr ?hp (fun _ hk => hk) trivial (Below.refl _ _) (Nat.le_refl _) (by simp) ?_; (case hd => rfl); (case hg => rfl); (case hr => first | (go_simp; done) | (go_simp; rfl)); (case hp => exact (Reps.one (show Kd.M (Kd.int .i64) _ _ _ 3 [.int .i64 3] from rfl) (Reps.one (show Kd.M (Kd.int .i64) _ _ _ 4 [.int .i64 4] from rfl) (Reps.one (show Kd.M (Kd.int .i64) _ _ _ 5 [.int .i64 5] from rfl) (Reps.one (show Kd.M (Kd.int .i64) _ _ _ 6 [.int .i64 6] from rfl) (Reps.one (show Kd.M (Kd.int .i64) _ _ _ 8 [.int .i64 8] from rfl) (Reps.one (show Kd.M (Kd.int .i64) _ _ _ 12 [.int .i64 12] from rfl) (Reps.one (show Kd.M (Kd.int .i64) _ _ _ 24 [.int .i64 24] from rfl) (Reps.one (show Kd.M (Kd.int .i64) _ _ _ 2 [.int .i64 2] from rfl) (Reps.none _ _)))))))))); intro v154 w10 ho11 hb hg_ hnew_; clear hg_ hnew_; (first | rw [← Ny153.out] at ho11 | (simp only [Int.reduceToNat] at ho11; rw [← Ny153.out] at ho11)); have n0_ := A_ (Kd.R_lower ho11 (below_size (by repeat (first | (with_reducible first | exact HB.out | apply below_alloc | apply pw_below_drewN | apply below_drew1 | refine below_set ?_ (IsS73.ge HI152.out) | refine below_set ?_ GE151.out) | exact HB.out)))); have n1_ := A_ (blk_below (bq BK151) hb); have n2_ := A_ (IsS73.below (by repeat (first | (with_reducible first | exact HI152.out | apply IsS73.alloc | apply IsS73.drewN | apply IsS73.drew | apply IsS73.set_1 | apply IsS73.set_2 | refine IsS73.far ?_ NB152_151.out _) | exact HI152.out)) hb); have n3_ := A_ (below_step (by repeat (first | (with_reducible first | exact HB.out | apply below_alloc | apply pw_below_drewN | apply below_drew1 | refine below_set ?_ (IsS73.ge HI152.out) | refine below_set ?_ GE151.out) | exact HB.out)) hb); clear BK151; clear HI152; clear HB; have HO155 := n0_; have BK151 := n1_; have HI152 := n2_; have HB := n3_; clear n0_ n1_ n2_ n3_; clear hb ho11; obtain ⟨Ao12, co12, eo12⟩ := Kd.R_slice HO155.out; subst eo12) | ((with_reducible refine gate_callee (f := 76) rfl ?_); refine goesL_ (some 15) rfl rfl Try.func76 (by kernel_rfl) rfl #[.pointer (some ⟨gb152, 0, none⟩), .slice Ao12 y153.length co12] rfl gq ?_; (with_reducible refine (spec_l1Cur_among.calls gb152 l0 0 0 _ _ y153 t156 t157 t158 w _ ?side1 ?side2 ?side3 ?side4 ?side5 A2.out).mono ?_); (case side1 => repeat (first | (with_reducible first | exact HI152.out | apply IsS73.alloc | apply IsS73.drewN | apply IsS73.drew | apply IsS73.set_1 | apply IsS73.set_2 | refine IsS73.far ?_ NB152_151.out _) | exact HI152.out)); (case side2 => repeat (first | (with_reducible first | exact HB.out | apply below_alloc | apply pw_below_drewN | apply below_drew1 | refine below_set ?_ (IsS73.ge HI152.out) | refine below_set ?_ GE151.out) | exact HB.out)); (case side3 => exact cq (Kd.R_reads' HO155.out).2.2); (case side4 => exact (Kd.R_reads' HO155.out).2.1); (case side5 => exact far_slice (IsS73.own_ne HI152.out HO155.out (by decide))); rintro e w13 ⟨rfl, hi, hb, hk⟩; refine ⟨_, rfl, ?_⟩; have n0_ := A_ (KeepBut.blk hk (g' := gb151) (o := .cells #[.int .i64 0, .bool false] 25 (0, 0)) (bq BK151) NB151_152.out (by simp)); have n1_ := A_ (Kd.R_mono (Kd.R_keep (IsS73.apart (show IsS73 w _ gb152 l0 0 0 from by repeat (first | (with_reducible first | exact HI152.out | apply IsS73.alloc | apply IsS73.drewN | apply IsS73.drew | apply IsS73.set_1 | apply IsS73.set_2 | refine IsS73.far ?_ NB152_151.out _) | exact HI152.out)) (rq HO155) (by decide)) hk (fun _ h => h.2)) (fun _ h => h.1)); have n2_ := A_ (hb); have n3_ := A_ (hi); clear BK151; clear HO155; clear HB; clear HI152; have BK151 := n0_; have HO155 := n1_; have HB := n2_; have HI152 := n3_; clear n0_ n1_ n2_ n3_; (try clear hb); (try clear hb2); (try clear hk); (try clear hi)) | ((with_reducible refine gate_callee (f := 66) rfl ?_); refine goesL_ (some 17) rfl rfl Try.func66 (by kernel_rfl) rfl #[.pointer (some ⟨gb152, 0, none⟩), .int .i64 12] rfl gq ?_; (with_reducible refine (spec_l1Cur_one.calls gb152 l0 t157 t158 12 t159 t160 t161 w _ ?side1 ?side2 A3.out).mono ?_); (case side1 => repeat (first | (with_reducible first | exact HI152.out | apply IsS73.alloc | apply IsS73.drewN | apply IsS73.drew | apply IsS73.set_1 | apply IsS73.set_2 | refine IsS73.far ?_ NB152_151.out _) | exact HI152.out)); (case side2 => repeat (first | (with_reducible first | exact HB.out | apply below_alloc | apply pw_below_drewN | apply below_drew1 | refine below_set ?_ (IsS73.ge HI152.out) | refine below_set ?_ GE151.out) | exact HB.out)); rintro e w14 ⟨rfl, hi, hb, hk⟩; refine ⟨_, rfl, ?_⟩; have n0_ := A_ (KeepBut.blk hk (g' := gb151) (o := .cells #[.int .i64 0, .bool false] 25 (0, 0)) (bq BK151) NB151_152.out (by simp)); have n1_ := A_ (Kd.R_mono (Kd.R_keep (IsS73.apart (show IsS73 w _ gb152 l0 t157 t158 from by repeat (first | (with_reducible first | exact HI152.out | apply IsS73.alloc | apply IsS73.drewN | apply IsS73.drew | apply IsS73.set_1 | apply IsS73.set_2 | refine IsS73.far ?_ NB152_151.out _) | exact HI152.out)) (rq HO155) (by decide)) hk (fun _ h => h.2)) (fun _ h => h.1)); have n2_ := A_ (hb); have n3_ := A_ (hi); clear BK151; clear HO155; clear HB; clear HI152; have BK151 := n0_; have HO155 := n1_; have HB := n2_; have HI152 := n3_; clear n0_ n1_ n2_ n3_; (try clear hb); (try clear hb2); (try clear hk); (try clear hi)) | ((with_reducible refine gate_dst (N := 6) rfl ?_); refine box_event ?hg (N := 6) ?hd (cs := #[.int .i64 0, .bool false]) (t := 25) ?hr ?_; (case hd => rfl); (case hg => rfl); (case hr => first | (go_simp; done) | (go_simp; rfl)); intro gb162 hg w15 hbox hb; have n0_ := A_ (Kd.R_below (rq HO155) hb); have n1_ := A_ (blk_below (bq BK151) hb); have n2_ := A_ (IsS73.below (by repeat (first | (with_reducible first | exact HI152.out | apply IsS73.alloc | apply IsS73.drewN | apply IsS73.drew | apply IsS73.set_1 | apply IsS73.set_2 | refine IsS73.far ?_ NB152_151.out _) | exact HI152.out)) hb); have n3_ := A_ (below_step (by repeat (first | (with_reducible first | exact HB.out | apply below_alloc | apply pw_below_drewN | apply below_drew1 | refine below_set ?_ (IsS73.ge HI152.out) | refine below_set ?_ GE151.out) | exact HB.out)) hb); have n4_ := A_ (hbox); have n5_ := A_ ((by rw [hg]; exact (below_size (by repeat (first | (with_reducible first | exact HB.out | apply below_alloc | apply pw_below_drewN | apply below_drew1 | refine below_set ?_ (IsS73.ge HI152.out) | refine below_set ?_ GE151.out) | exact HB.out))) : w.heap.size ≤ gb162)); have n6_ := A_ ((by rw [hg]; exact (below_size (by repeat (first | (with_reducible first | exact HB.out | apply below_alloc | apply pw_below_drewN | apply below_drew1 | refine below_set ?_ (IsS73.ge HI152.out) | refine below_set ?_ GE151.out) | exact HB.out))) : w.heap.size ≤ gb162)); have n7_ := A_ ((by rw [hg]; exact Nat.ne_of_lt (blk_lt (bq BK151)) : gb151 ≠ gb162)); have n8_ := A_ ((by rw [hg]; exact Nat.ne_of_gt (blk_lt (bq BK151)) : gb162 ≠ gb151)); have n9_ := A_ ((by rw [hg]; exact Nat.ne_of_lt (IsS73.lt (show IsS73 w _ gb152 l0 t160 t161 from by repeat (first | (with_reducible first | exact HI152.out | apply IsS73.alloc | apply IsS73.drewN | apply IsS73.drew | apply IsS73.set_1 | apply IsS73.set_2 | refine IsS73.far ?_ NB152_151.out _) | exact HI152.out))) : gb152 ≠ gb162)); have n10_ := A_ ((by rw [hg]; exact Nat.ne_of_gt (IsS73.lt (show IsS73 w _ gb152 l0 t160 t161 from by repeat (first | (with_reducible first | exact HI152.out | apply IsS73.alloc | apply IsS73.drewN | apply IsS73.drew | apply IsS73.set_1 | apply IsS73.set_2 | refine IsS73.far ?_ NB152_151.out _) | exact HI152.out))) : gb162 ≠ gb152)); clear HO155; clear BK151; clear HI152; clear HB; have HO155 := n0_; have BK151 := n1_; have HI152 := n2_; have HB := n3_; have BK162 := n4_; have GW162 := n5_; have GE162 := n6_; have NB151_162 := n7_; have NB162_151 := n8_; have NB152_162 := n9_; have NB162_152 := n10_; clear n0_ n1_ n2_ n3_ n4_ n5_ n6_ n7_ n8_ n9_ n10_; clear hb hbox hg; have hnb16 := NB162_151.out; have hnc16 := NB151_162.out; have hnb17 := NB162_152.out; have hnc17 := NB152_162.out; have hcz18_0 : w15.cell? ⟨gb162, 0, none⟩ = some (.int .i64 0) := bc BK162 0; have hcz18_1 : w15.cell? ⟨gb162, 1, none⟩ = some (.bool false) := bc BK162 1; have hfz18_0 := blk_frozen BK162.out 0; have hfz18_1 := blk_frozen BK162.out 1) | ((with_reducible refine gate_callee (f := 90) rfl ?_); refine goesL_ (some 24) rfl rfl Try.func90 (by kernel_rfl) rfl #[.int .i64 (wrap64 (Int.tdiv 24 t156)), .int .i64 6] rfl gq ?_; (with_reducible refine (spec_l1Least.calls (wrap64 (Int.tdiv 24 t156)) 6 t163 _ A5.out).mono ?_); rintro e w' ⟨rfl, ⟨nd, rfl⟩⟩; refine ⟨_, rfl, ?_⟩) | ((with_reducible refine gate_callee (f := 70) rfl ?_); refine goesL_ (some 25) rfl rfl Try.func70 (by kernel_rfl) rfl #[.int .i64 t163, .int .i64 1] rfl gq ?_; (with_reducible refine (spec_l1Most.calls t163 1 t164 _ A6.out).mono ?_); rintro e w' ⟨rfl, ⟨nd, rfl⟩⟩; refine ⟨_, rfl, ?_⟩) | ((with_reducible refine gate_callee (f := 89) rfl ?_); refine goesL_ (some 26) rfl rfl Try.func89 (by kernel_rfl) rfl #[.pointer (some ⟨gb152, 0, none⟩), .int .i64 t164] rfl gq ?_; (with_reducible refine (spec_l1Cur_label.calls k gb152 l0 t160 t161 t164 t165 t168 t169 w _ ?side1 ?side2 A7.out).mono ?_); (case side1 => repeat (first | (with_reducible first | exact HI152.out | apply IsS73.alloc | apply IsS73.drewN | apply IsS73.drew | apply IsS73.set_1 | apply IsS73.set_2 | refine IsS73.far ?_ NB152_151.out _ | refine IsS73.far ?_ NB152_162.out _) | exact HI152.out)); (case side2 => repeat (first | (with_reducible first | exact HB.out | apply below_alloc | apply pw_below_drewN | apply below_drew1 | refine below_set ?_ (IsS73.ge HI152.out) | refine below_set ?_ GE151.out | refine below_set ?_ GE162.out) | exact HB.out)); rintro e w19 ⟨v166, rfl, ho0, hi, hb, hk⟩; refine ⟨_, rfl, ?_⟩; have n0_ := A_ (KeepBut.blk hk (g' := gb151) (o := .cells #[.int .i64 0, .bool false] 25 (0, 0)) (by (with_reducible repeat (first | refine blk_drewN ?_ _ | refine blk_drew ?_ | refine blk_alloc ?_ _)); refine blk_far ?_ NB151_162.out _; (with_reducible repeat (first | refine blk_drewN ?_ _ | refine blk_drew ?_ | refine blk_alloc ?_ _)); refine blk_far ?_ NB151_162.out _; (with_reducible repeat (first | refine blk_drewN ?_ _ | refine blk_drew ?_ | refine blk_alloc ?_ _)); exact BK151.out) NB151_152.out (by simp)); have n1_ := A_ (Kd.R_mono (Kd.R_told (Kd.R_oldK (IsS73.apart (show IsS73 w _ gb152 l0 t160 t161 from by repeat (first | (with_reducible first | exact HI152.out | apply IsS73.alloc | apply IsS73.drewN | apply IsS73.drew | apply IsS73.set_1 | apply IsS73.set_2 | refine IsS73.far ?_ NB152_151.out _ | refine IsS73.far ?_ NB152_162.out _) | exact HI152.out)) (by (with_reducible repeat (first | apply Kd.R_alloc | apply Kd.R_drewN | apply Kd.R_drew)); exact (Kd.R_mono (Kd.R_far (p := ⟨gb162, 1, none⟩) (Kd.R_far (p := ⟨gb162, 0, none⟩) (Kd.R_types HO155.out BK162.out (by decide)) (fun _ => cj) (.int .i64 t156)) (fun _ => cj) (.bool (!t159))) (fun _ h_ => h_.1))) (by decide)) hk) (Kd.R_base ho0)) (fun _ h_ => h_.1)); have n2_ := A_ (KeepBut.blk hk (g' := gb162) (o := .cells #[.int .i64 t156, .bool (!t159)] 25 (0, 0)) (by (with_reducible repeat (first | refine blk_drewN ?_ _ | refine blk_drew ?_ | refine blk_alloc ?_ _)); refine blk_put (cs := #[.int .i64 t156, .bool false]) ?_ 1 _ rfl; (with_reducible repeat (first | refine blk_drewN ?_ _ | refine blk_drew ?_ | refine blk_alloc ?_ _)); refine blk_put (cs := #[.int .i64 0, .bool false]) ?_ 0 _ rfl; (with_reducible repeat (first | refine blk_drewN ?_ _ | refine blk_drew ?_ | refine blk_alloc ?_ _)); exact BK162.out) NB162_152.out (by simp)); have n3_ := A_ (Kd.R_lower (Kd.R_new' ho0 (Kd.R_lt (by (with_reducible repeat (first | apply Kd.R_alloc | apply Kd.R_drewN | apply Kd.R_drew)); exact (Kd.R_mono (Kd.R_far (p := ⟨gb162, 1, none⟩) (Kd.R_far (p := ⟨gb162, 0, none⟩) (Kd.R_types HO155.out BK162.out (by decide)) (fun _ => cj) (.int .i64 t156)) (fun _ => cj) (.bool (!t159))) (fun _ h_ => h_.1))))) (below_size (by repeat (first | (with_reducible first | exact HB.out | apply below_alloc | apply pw_below_drewN | apply below_drew1 | refine below_set ?_ (IsS73.ge HI152.out) | refine below_set ?_ GE151.out | refine below_set ?_ GE162.out) | exact HB.out)))); have n4_ := A_ (hb); have n5_ := A_ (hi); clear BK151; clear HO155; clear BK162; clear HB; clear HI152; have BK151 := n0_; have HO155 := n1_; have BK162 := n2_; have HO167 := n3_; have HB := n4_; have HI152 := n5_; clear n0_ n1_ n2_ n3_ n4_ n5_; (try clear hb); (try clear hb2); (try clear hk); (try clear hi); (try clear ho0)) | ((with_reducible refine gate_dst (N := 27) rfl ?_); refine Kd.R_lit (Kd.int .i64) _ 3 ?hg (N := 27) ?hd (xs := ([] : List Int)) (inner := []) (ok := fun _ => True) (okp := fun _ => True) ?hr ?hp (fun _ hk => hk) trivial (Below.refl _ _) (Nat.le_refl _) (by simp) ?_; (case hd => rfl); (case hg => rfl); (case hr => first | (go_simp; done) | (go_simp; rfl)); (case hp => exact (Reps.none _ _)); intro v171 w20 ho21 hb hg_ hnew_; clear hg_ hnew_; (first | rw [← Ny170.out] at ho21 | (simp only [Int.reduceToNat] at ho21; rw [← Ny170.out] at ho21)); have n0_ := A_ (Kd.R_elder' (rq HO155) (Kd.R_base ho21) hb); have n1_ := A_ (Kd.R_elder' (rq HO167) (Kd.R_base ho21) hb); have n2_ := A_ (Kd.R_lower (Kd.R_new' (Kd.R_new' ho21 (Kd.R_lt (rq HO155))) (Kd.R_lt (rq HO167))) (below_size (by repeat (first | (with_reducible first | exact HB.out | apply below_alloc | apply pw_below_drewN | apply below_drew1 | refine below_set ?_ (IsS73.ge HI152.out) | refine below_set ?_ GE151.out | refine below_set ?_ GE162.out) | exact HB.out)))); have n3_ := A_ (blk_below (bq BK151) hb); have n4_ := A_ (IsS73.below (by repeat (first | (with_reducible first | exact HI152.out | apply IsS73.alloc | apply IsS73.drewN | apply IsS73.drew | apply IsS73.set_1 | apply IsS73.set_2 | refine IsS73.far ?_ NB152_151.out _ | refine IsS73.far ?_ NB152_162.out _) | exact HI152.out)) hb); have n5_ := A_ (blk_below (bq BK162) hb); have n6_ := A_ (below_step (by repeat (first | (with_reducible first | exact HB.out | apply below_alloc | apply pw_below_drewN | apply below_drew1 | refine below_set ?_ (IsS73.ge HI152.out) | refine below_set ?_ GE151.out | refine below_set ?_ GE162.out) | exact HB.out)) hb); clear HO155; clear HO167; clear BK151; clear HI152; clear BK162; clear HB; have HO155 := n0_; have HO167 := n1_; have HO172 := n2_; have BK151 := n3_; have HI152 := n4_; have BK162 := n5_; have HB := n6_; clear n0_ n1_ n2_ n3_ n4_ n5_ n6_; clear hb ho21))
  go_loopg [8, 9] k (fun kq v8 v9 w' => ∃ (x8_1 : List Int) (x9_1 : Int) (x153001_1 : Int) (x153002_1 : Int), v9 = .int .i64 x9_1 ∧ Aside0 (spec_DrawLabelTime.l0 kq t165 x8_1 x9_1 l0 x153001_1 x153002_1 t156 (!t159) = some (r1, r2, r3, r4)) ∧ Aside0 (kq ≤ k) ∧ Aside0 (Kd.R (Kd.int .i64) 3 w' w.heap.size (fun k_ => some k_ ≠ (v8 : Value).ownBlock) v166 t165) ∧ Aside0 (Kd.R (Kd.int .i64) 3 w' w.heap.size (fun k_ => some k_ ≠ (v166 : Value).ownBlock) v8 x8_1) ∧ Aside0 (w'.heap[gb151]? = some (.cells #[.int .i64 0, .bool false] 25 (0, 0))) ∧ Aside0 (w'.heap[gb162]? = some (.cells #[.int .i64 t156, .bool (!t159)] 25 (0, 0))) ∧ Aside0 (IsS73 w w' gb152 l0 x153001_1 x153002_1) ∧ Aside0 (Below w.heap.size w w'))
  case atStart => exact ⟨(y170), (0), (t168), (t169), (by first | rfl | (simp; done) | (simp [*]; done)), H', ⟨Nat.le_refl _⟩, ⟨by (with_reducible repeat (first | apply Kd.R_alloc | apply Kd.R_drewN | apply Kd.R_drew)); exact Kd.R_mono HO167.out (fun _ => cj)⟩, ⟨by (with_reducible repeat (first | apply Kd.R_alloc | apply Kd.R_drewN | apply Kd.R_drew)); exact Kd.R_mono HO172.out (fun _ => cj)⟩, ⟨bq BK151⟩, ⟨bq BK162⟩, ⟨by repeat (first | (with_reducible first | exact HI152.out | apply IsS73.alloc | apply IsS73.drewN | apply IsS73.drew | apply IsS73.set_1 | apply IsS73.set_2 | refine IsS73.far ?_ NB152_151.out _ | refine IsS73.far ?_ NB152_162.out _) | exact HI152.out)⟩, ⟨by repeat (first | (with_reducible first | exact HB.out | apply below_alloc | apply pw_below_drewN | apply below_drew1 | refine below_set ?_ (IsS73.ge HI152.out) | refine below_set ?_ GE151.out | refine below_set ?_ GE162.out) | exact HB.out)⟩⟩
  case round =>
   clear H'
   try clear c1
   try clear p2
   try clear c3
   try clear c4
   try clear c4b0
   try clear c4b1
   try clear c6
   try clear p6
   try clear c7
   try clear c8
   try clear c9
   try clear c16
   try clear c17
   try clear hcz18_0
   try clear hcz18_1
   try clear hfz18_0
   try clear hfz18_1
   obtain ⟨x8_1, x9_1, x153001_1, x153002_1, rfl, HA, HK1, HO_7, HO_8, BK151, BK162, HI152, HB⟩ := hrel
   cases gk with
   | zero => exact absurd HA.out (by simp [spec_DrawLabelTime.l0])
   | succ k1 =>
    have H := HA.out
    clear HA
    simp only [spec_DrawLabelTime.l0] at H
    by_cases c22 : x9_1 < (t165.length : Int)
    ·
     rw [if_pos c22] at H
     have c22b0 : decide (x9_1 < (t165.length : Int)) = true := decide_eq_true c22
     clear c22
     replace H := Option.bind_eq_some_iff.mp H
     obtain ⟨⟨t173, t174, t175⟩, A230, H⟩ := H
     replace H : (if x8_1.length < 17592186044416 then (spec_DrawLabelTime.l0 k1 t165 (x8_1 ++ [t173]) (wrap64 (x9_1 + 1)) l0 t174 t175 t156 (!t159)) else (none)) = some (r1, r2, r3, r4) := H
     have A23 := A_ A230
     clear A230
     by_cases c24 : x8_1.length < 17592186044416
     ·
      rw [if_pos c24] at H
      have LMc24 := A_ c24
      clear c24
      obtain ⟨y176, hy176⟩ : ∃ y_ : List Int, y_ = (x8_1 ++ [t173]) := ⟨_, rfl⟩
      replace H : (spec_DrawLabelTime.l0 k1 t165 y176 (wrap64 (x9_1 + 1)) l0 t174 t175 t156 (!t159)) = some (r1, r2, r3, r4) := by first | (rw [hy176]; with_reducible exact H) | (have H2_ := (Option.bind_some _ _).symm.trans H; rw [hy176]; with_reducible exact H2_) | (have H2_ := (Option.bind_some _ _).symm.trans H; with_reducible exact H2_) | with_reducible exact H | (rw [hy176]; exact H) | exact H
      have Ny176 := A_ hy176
      clear hy176
      have H' := A_ H
      clear H
      obtain ⟨Ao25, co25, eo25⟩ := Kd.R_slice HO_7.out
      subst eo25
      go_wp2_with (first | ((with_reducible refine gate_callee (f := 91) rfl ?_); refine goesL_ (some 36) rfl rfl Try.func91 (by kernel_rfl) rfl #[.pointer (some ⟨gb152, 0, none⟩), .int .i64 2] rfl gq ?_; (with_reducible refine (spec_l1Cur_pick.calls gb152 l0 x153001_1 x153002_1 2 t173 t174 t175 w _ ?side1 ?side2 A23.out).mono ?_); (case side1 => repeat (first | (with_reducible first | exact HI152.out | apply IsS73.alloc | apply IsS73.drewN | apply IsS73.drew | apply IsS73.set_1 | apply IsS73.set_2 | refine IsS73.far ?_ NB152_151.out _ | refine IsS73.far ?_ NB152_162.out _) | exact HI152.out)); (case side2 => repeat (first | (with_reducible first | exact HB.out | apply below_alloc | apply pw_below_drewN | apply below_drew1 | refine below_set ?_ (IsS73.ge HI152.out) | refine below_set ?_ GE151.out | refine below_set ?_ GE162.out) | exact HB.out)); rintro e w26 ⟨rfl, hi, hb, hk⟩; refine ⟨_, rfl, ?_⟩; have n0_ := A_ (Kd.R_mono (Kd.R_keep (IsS73.apart (show IsS73 w _ gb152 l0 x153001_1 x153002_1 from by repeat (first | (with_reducible first | exact HI152.out | apply IsS73.alloc | apply IsS73.drewN | apply IsS73.drew | apply IsS73.set_1 | apply IsS73.set_2 | refine IsS73.far ?_ NB152_151.out _ | refine IsS73.far ?_ NB152_162.out _) | exact HI152.out)) (rq HO_7) (by decide)) hk (fun _ h => h.2)) (fun _ h => h.1)); have n1_ := A_ (Kd.R_mono (Kd.R_keep (IsS73.apart (show IsS73 w _ gb152 l0 x153001_1 x153002_1 from by repeat (first | (with_reducible first | exact HI152.out | apply IsS73.alloc | apply IsS73.drewN | apply IsS73.drew | apply IsS73.set_1 | apply IsS73.set_2 | refine IsS73.far ?_ NB152_151.out _ | refine IsS73.far ?_ NB152_162.out _) | exact HI152.out)) (rq HO_8) (by decide)) hk (fun _ h => h.2)) (fun _ h => h.1)); have n2_ := A_ (KeepBut.blk hk (g' := gb151) (o := .cells #[.int .i64 0, .bool false] 25 (0, 0)) (bq BK151) NB151_152.out (by simp)); have n3_ := A_ (KeepBut.blk hk (g' := gb162) (o := .cells #[.int .i64 t156, .bool (!t159)] 25 (0, 0)) (bq BK162) NB162_152.out (by simp)); have n4_ := A_ (hb); have n5_ := A_ (hi); clear HO_7; clear HO_8; clear BK151; clear BK162; clear HB; clear HI152; have HO_7 := n0_; have HO_8 := n1_; have BK151 := n2_; have BK162 := n3_; have HB := n4_; have HI152 := n5_; clear n0_ n1_ n2_ n3_ n4_ n5_; (try clear hb); (try clear hb2); (try clear hk); (try clear hi)) | ((with_reducible refine gate_builtin (b := .append) (xs := #[.tmp 34, .tmp 37]) rfl ?_); at_builtin; refine Kd.R_append (Kd.int .i64) (w0 := w) w.heap.size rfl (.tmp 34) (.tmp 37) 26 3 (.int .i64 0) 8 rfl Try.underlying26 info3 rfl (by decide) (by omega) u8 x8_1 t173 [.int .i64 t173] (fun k_ => some k_ ≠ (.slice Ao25 t165.length co25 : Value).ownBlock) (fun _ => False) rfl rfl ?aP (fun _ hk => hk.elim) ?aF ?aO ?aB ?aS ?aL ?_; (case aP => exact rfl); (case aB => exact (by repeat (first | (with_reducible first | exact HB.out | apply below_alloc | apply pw_below_drewN | apply below_drew1 | refine below_set ?_ (IsS73.ge HI152.out) | refine below_set ?_ GE151.out | refine below_set ?_ GE162.out) | exact HB.out))); (case aF => exact (fun k_ hk => Kd.fresh' (Kd.R_lt (rq HO_7)) k_ hk)); (case aO => exact (rq HO_8)); (case aS => exact (below_size (by repeat (first | (with_reducible first | exact HB.out | apply below_alloc | apply pw_below_drewN | apply below_drew1 | refine below_set ?_ (IsS73.ge HI152.out) | refine below_set ?_ GE151.out | refine below_set ?_ GE162.out) | exact HB.out)))); (case aL => have := LMc24.out; omega); intro v177 w27 ho hb hg hat; rw [← Ny176.out] at ho; have n0_ := A_ (Kd.R_after (ok := (fun _ => True)) (by (with_reducible repeat (first | apply Kd.R_alloc | apply Kd.R_drewN | apply Kd.R_drew)); exact Kd.R_mono HO_7.out (fun _ hk => ⟨trivial, hk⟩)) hg hat); have n1_ := A_ (blk_grown (g := gb151) (o := .cells #[.int .i64 0, .bool false] 25 (0, 0)) (bq BK151) hg (Kd.R_ne HO_8.out BK151.out (by decide))); have n2_ := A_ (blk_grown (g := gb162) (o := .cells #[.int .i64 t156, .bool (!t159)] 25 (0, 0)) (bq BK162) hg (Kd.R_ne HO_8.out BK162.out (by decide))); have n3_ := A_ (IsS73.grown (by repeat (first | (with_reducible first | exact HI152.out | apply IsS73.alloc | apply IsS73.drewN | apply IsS73.drew | apply IsS73.set_1 | apply IsS73.set_2 | refine IsS73.far ?_ NB152_151.out _ | refine IsS73.far ?_ NB152_162.out _) | exact HI152.out)) hg (IsS73.own_ne HI152.out HO_8.out (by decide))); have n4_ := A_ (hb); have n5_ := A_ (ho); clear HO_7; clear BK151; clear BK162; clear HI152; clear HB; clear HO_8; have HO_7 := n0_; have BK151 := n1_; have BK162 := n2_; have HI152 := n3_; have HB := n4_; have HO178 := n5_; clear n0_ n1_ n2_ n3_ n4_ n5_; clear ho hb hg hat))
      go_roundg k1
      case measure => have := HK1.out; omega
      case rel => exact ⟨(y176), (wrap64 (x9_1 + 1)), (t174), (t175), (by first | rfl | (simp; done) | (simp [*]; done)), H', ⟨by have := HK1.out; omega⟩, ⟨by (with_reducible repeat (first | apply Kd.R_alloc | apply Kd.R_drewN | apply Kd.R_drew)); exact Kd.R_mono HO_7.out (fun _ => cj)⟩, ⟨rq HO178⟩, ⟨bq BK151⟩, ⟨bq BK162⟩, ⟨by repeat (first | (with_reducible first | exact HI152.out | apply IsS73.alloc | apply IsS73.drewN | apply IsS73.drew | apply IsS73.set_1 | apply IsS73.set_2 | refine IsS73.far ?_ NB152_151.out _ | refine IsS73.far ?_ NB152_162.out _) | exact HI152.out)⟩, ⟨by repeat (first | (with_reducible first | exact HB.out | apply below_alloc | apply pw_below_drewN | apply below_drew1 | refine below_set ?_ (IsS73.ge HI152.out) | refine below_set ?_ GE151.out | refine below_set ?_ GE162.out) | exact HB.out)⟩⟩
     ·
      rw [if_neg c24] at H
      exact absurd H (by simp)
    ·
     rw [if_neg c22] at H
     have c22b0 : decide (x9_1 < (t165.length : Int)) = false := decide_eq_false c22
     clear c22
     replace H := Option.bind_eq_some_iff.mp H
     obtain ⟨⟨t179, t180, t181⟩, A280, H⟩ := H
     replace H : (if t179 = true then (if x8_1.length < 17592186044416 then (some (t156, (!t159), t165, (x8_1 ++ [1]))) else (none)) else (some (t156, (!t159), t165, x8_1))) = some (r1, r2, r3, r4) := H
     have A28 := A_ A280
     clear A280
     by_cases c29 : t179 = true
     ·
      subst c29
      have H1 : (if x8_1.length < 17592186044416 then (some (t156, (!t159), t165, (x8_1 ++ [1]))) else (none)) = some (r1, r2, r3, r4) := by rw [if_pos rfl] at H; exact H
      clear H
      have H := H1
      clear H1
      by_cases c30 : x8_1.length < 17592186044416
      ·
       rw [if_pos c30] at H
       have LMc30 := A_ c30
       clear c30
       obtain ⟨y182, hy182⟩ : ∃ y_ : List Int, y_ = (x8_1 ++ [1]) := ⟨_, rfl⟩
       replace H : (some (t156, (!t159), t165, y182)) = some (r1, r2, r3, r4) := by first | (rw [hy182]; with_reducible exact H) | (have H2_ := (Option.bind_some _ _).symm.trans H; rw [hy182]; with_reducible exact H2_) | (have H2_ := (Option.bind_some _ _).symm.trans H; with_reducible exact H2_) | with_reducible exact H | (rw [hy182]; exact H) | exact H
       have Ny182 := A_ hy182
       clear hy182
       simp only [Option.some.injEq, Prod.mk.injEq] at H
       obtain ⟨rfl, rfl, rfl, rfl⟩ := H
       obtain ⟨Ao31, co31, eo31⟩ := Kd.R_slice HO_7.out
       subst eo31
       go_wp2_with (first | ((with_reducible refine gate_callee (f := 66) rfl ?_); refine goesL_ (some 40) rfl rfl Try.func66 (by kernel_rfl) rfl #[.pointer (some ⟨gb152, 0, none⟩), .int .i64 12] rfl gq ?_; (with_reducible refine (spec_l1Cur_one.calls gb152 l0 x153001_1 x153002_1 12 true t180 t181 w _ ?side1 ?side2 A28.out).mono ?_); (case side1 => repeat (first | (with_reducible first | exact HI152.out | apply IsS73.alloc | apply IsS73.drewN | apply IsS73.drew | apply IsS73.set_1 | apply IsS73.set_2 | refine IsS73.far ?_ NB152_151.out _ | refine IsS73.far ?_ NB152_162.out _) | exact HI152.out)); (case side2 => repeat (first | (with_reducible first | exact HB.out | apply below_alloc | apply pw_below_drewN | apply below_drew1 | refine below_set ?_ (IsS73.ge HI152.out) | refine below_set ?_ GE151.out | refine below_set ?_ GE162.out) | exact HB.out)); rintro e w32 ⟨rfl, hi, hb, hk⟩; refine ⟨_, rfl, ?_⟩; have n0_ := A_ (Kd.R_mono (Kd.R_keep (IsS73.apart (show IsS73 w _ gb152 l0 x153001_1 x153002_1 from by repeat (first | (with_reducible first | exact HI152.out | apply IsS73.alloc | apply IsS73.drewN | apply IsS73.drew | apply IsS73.set_1 | apply IsS73.set_2 | refine IsS73.far ?_ NB152_151.out _ | refine IsS73.far ?_ NB152_162.out _) | exact HI152.out)) (rq HO_7) (by decide)) hk (fun _ h => h.2)) (fun _ h => h.1)); have n1_ := A_ (Kd.R_mono (Kd.R_keep (IsS73.apart (show IsS73 w _ gb152 l0 x153001_1 x153002_1 from by repeat (first | (with_reducible first | exact HI152.out | apply IsS73.alloc | apply IsS73.drewN | apply IsS73.drew | apply IsS73.set_1 | apply IsS73.set_2 | refine IsS73.far ?_ NB152_151.out _ | refine IsS73.far ?_ NB152_162.out _) | exact HI152.out)) (rq HO_8) (by decide)) hk (fun _ h => h.2)) (fun _ h => h.1)); have n2_ := A_ (KeepBut.blk hk (g' := gb151) (o := .cells #[.int .i64 0, .bool false] 25 (0, 0)) (bq BK151) NB151_152.out (by simp)); have n3_ := A_ (KeepBut.blk hk (g' := gb162) (o := .cells #[.int .i64 t156, .bool (!t159)] 25 (0, 0)) (bq BK162) NB162_152.out (by simp)); have n4_ := A_ (hb); have n5_ := A_ (hi); clear HO_7; clear HO_8; clear BK151; clear BK162; clear HB; clear HI152; have HO_7 := n0_; have HO_8 := n1_; have BK151 := n2_; have BK162 := n3_; have HB := n4_; have HI152 := n5_; clear n0_ n1_ n2_ n3_ n4_ n5_; (try clear hb); (try clear hb2); (try clear hk); (try clear hi)) | ((with_reducible refine gate_builtin (b := .append) (xs := #[.tmp 41, .tmp 42]) rfl ?_); at_builtin; refine Kd.R_append (Kd.int .i64) (w0 := w) w.heap.size rfl (.tmp 41) (.tmp 42) 26 3 (.int .i64 0) 8 rfl Try.underlying26 info3 rfl (by decide) (by omega) u8 x8_1 1 [.int .i64 1] (fun k_ => some k_ ≠ (.slice Ao31 t165.length co31 : Value).ownBlock) (fun _ => False) rfl rfl ?aP (fun _ hk => hk.elim) ?aF ?aO ?aB ?aS ?aL ?_; (case aP => exact rfl); (case aB => exact (by repeat (first | (with_reducible first | exact HB.out | apply below_alloc | apply pw_below_drewN | apply below_drew1 | refine below_set ?_ (IsS73.ge HI152.out) | refine below_set ?_ GE151.out | refine below_set ?_ GE162.out) | exact HB.out))); (case aF => exact (fun k_ hk => Kd.fresh' (Kd.R_lt (rq HO_7)) k_ hk)); (case aO => exact (rq HO_8)); (case aS => exact (below_size (by repeat (first | (with_reducible first | exact HB.out | apply below_alloc | apply pw_below_drewN | apply below_drew1 | refine below_set ?_ (IsS73.ge HI152.out) | refine below_set ?_ GE151.out | refine below_set ?_ GE162.out) | exact HB.out)))); (case aL => have := LMc30.out; omega); intro v183 w33 ho hb hg hat; rw [← Ny182.out] at ho; have n0_ := A_ (Kd.R_after (ok := (fun _ => True)) (by (with_reducible repeat (first | apply Kd.R_alloc | apply Kd.R_drewN | apply Kd.R_drew)); exact Kd.R_mono HO_7.out (fun _ hk => ⟨trivial, hk⟩)) hg hat); have n1_ := A_ (blk_grown (g := gb151) (o := .cells #[.int .i64 0, .bool false] 25 (0, 0)) (bq BK151) hg (Kd.R_ne HO_8.out BK151.out (by decide))); have n2_ := A_ (blk_grown (g := gb162) (o := .cells #[.int .i64 t156, .bool (!t159)] 25 (0, 0)) (bq BK162) hg (Kd.R_ne HO_8.out BK162.out (by decide))); have n3_ := A_ (IsS73.grown (by repeat (first | (with_reducible first | exact HI152.out | apply IsS73.alloc | apply IsS73.drewN | apply IsS73.drew | apply IsS73.set_1 | apply IsS73.set_2 | refine IsS73.far ?_ NB152_151.out _ | refine IsS73.far ?_ NB152_162.out _) | exact HI152.out)) hg (IsS73.own_ne HI152.out HO_8.out (by decide))); have n4_ := A_ (hb); have n5_ := A_ (ho); clear HO_7; clear BK151; clear BK162; clear HI152; clear HB; clear HO_8; have HO_7 := n0_; have BK151 := n1_; have BK162 := n2_; have HI152 := n3_; have HB := n4_; have HO184 := n5_; clear n0_ n1_ n2_ n3_ n4_ n5_; clear ho hb hg hat; have hnb34 := NB162_151.out; have hnc34 := NB151_162.out; have hnb35 := NB162_152.out; have hnc35 := NB152_162.out; have hcz36_0 : w33.cell? ⟨gb162, 0, none⟩ = some (.int .i64 t156) := bc BK162 0; have hcz36_1 : w33.cell? ⟨gb162, 1, none⟩ = some (.bool (!t159)) := bc BK162 1; have hfz36_0 := blk_frozen BK162.out 0; have hfz36_1 := blk_frozen BK162.out 1; have hnb37 := NB151_152.out; have hnc37 := NB152_151.out; have hcz38_0 : w33.cell? ⟨gb151, 0, none⟩ = some (.int .i64 0) := bc BK151 0; have hcz38_1 : w33.cell? ⟨gb151, 1, none⟩ = some (.bool false) := bc BK151 1; have hfz38_0 := blk_frozen BK151.out 0; have hfz38_1 := blk_frozen BK151.out 1))
       refine bodyPost_ret (results_ctt rfl _ _ gb151 25 #[.int .i64 t156, .bool (!t159)] (0, 0) _ rfl (by (with_reducible repeat (first | refine blk_drewN ?_ _ | refine blk_drew ?_ | refine blk_alloc ?_ _)); refine blk_put (cs := #[.int .i64 t156, .bool false]) ?_ 1 _ rfl; (with_reducible repeat (first | refine blk_drewN ?_ _ | refine blk_drew ?_ | refine blk_alloc ?_ _)); refine blk_put (cs := #[.int .i64 0, .bool false]) ?_ 0 _ rfl; (with_reducible repeat (first | refine blk_drewN ?_ _ | refine blk_drew ?_ | refine blk_alloc ?_ _)); exact BK151.out) Try.underlying25 rfl (by kernel_rfl)) rfl ?_
       exact ⟨_, _, rt, by (with_reducible repeat (first | apply Kd.R_alloc | apply Kd.R_drewN | apply Kd.R_drew)); exact Kd.R_mono (Kd.R_far (p := ⟨gb151, 1, none⟩) (Kd.R_far (p := ⟨gb151, 0, none⟩) (Kd.R_types HO_7.out BK151.out (by decide)) (fun _ => cj) (.int .i64 t156)) (fun _ => cj) (.bool (!t159))) (fun _ => cj), by (with_reducible repeat (first | apply Kd.R_alloc | apply Kd.R_drewN | apply Kd.R_drew)); exact Kd.R_mono (Kd.R_far (p := ⟨gb151, 1, none⟩) (Kd.R_far (p := ⟨gb151, 0, none⟩) (Kd.R_types HO184.out BK151.out (by decide)) (fun _ => cj) (.int .i64 t156)) (fun _ => cj) (.bool (!t159))) (fun _ => cj), by repeat (first | (with_reducible first | exact HB.out | apply below_alloc | apply pw_below_drewN | apply below_drew1 | refine below_set ?_ (IsS73.ge HI152.out) | refine below_set ?_ GE151.out | refine below_set ?_ GE162.out) | exact HB.out)⟩
      ·
       rw [if_neg c30] at H
       exact absurd H (by simp)
     ·
      replace c29 := Bool.eq_false_iff.mpr c29
      subst c29
      have H1 : (some (t156, (!t159), t165, x8_1)) = some (r1, r2, r3, r4) := by rw [if_neg (show ¬ (false = true) by decide)] at H; exact H
      clear H
      have H := H1
      clear H1
      simp only [Option.some.injEq, Prod.mk.injEq] at H
      obtain ⟨rfl, rfl, rfl, rfl⟩ := H
      obtain ⟨Ao39, co39, eo39⟩ := Kd.R_slice HO_7.out
      subst eo39
      go_wp2_with (first | ((with_reducible refine gate_callee (f := 66) rfl ?_); refine goesL_ (some 40) rfl rfl Try.func66 (by kernel_rfl) rfl #[.pointer (some ⟨gb152, 0, none⟩), .int .i64 12] rfl gq ?_; (with_reducible refine (spec_l1Cur_one.calls gb152 l0 x153001_1 x153002_1 12 false t180 t181 w _ ?side1 ?side2 A28.out).mono ?_); (case side1 => repeat (first | (with_reducible first | exact HI152.out | apply IsS73.alloc | apply IsS73.drewN | apply IsS73.drew | apply IsS73.set_1 | apply IsS73.set_2 | refine IsS73.far ?_ NB152_151.out _ | refine IsS73.far ?_ NB152_162.out _) | exact HI152.out)); (case side2 => repeat (first | (with_reducible first | exact HB.out | apply below_alloc | apply pw_below_drewN | apply below_drew1 | refine below_set ?_ (IsS73.ge HI152.out) | refine below_set ?_ GE151.out | refine below_set ?_ GE162.out) | exact HB.out)); rintro e w40 ⟨rfl, hi, hb, hk⟩; refine ⟨_, rfl, ?_⟩; have n0_ := A_ (Kd.R_mono (Kd.R_keep (IsS73.apart (show IsS73 w _ gb152 l0 x153001_1 x153002_1 from by repeat (first | (with_reducible first | exact HI152.out | apply IsS73.alloc | apply IsS73.drewN | apply IsS73.drew | apply IsS73.set_1 | apply IsS73.set_2 | refine IsS73.far ?_ NB152_151.out _ | refine IsS73.far ?_ NB152_162.out _) | exact HI152.out)) (rq HO_7) (by decide)) hk (fun _ h => h.2)) (fun _ h => h.1)); have n1_ := A_ (Kd.R_mono (Kd.R_keep (IsS73.apart (show IsS73 w _ gb152 l0 x153001_1 x153002_1 from by repeat (first | (with_reducible first | exact HI152.out | apply IsS73.alloc | apply IsS73.drewN | apply IsS73.drew | apply IsS73.set_1 | apply IsS73.set_2 | refine IsS73.far ?_ NB152_151.out _ | refine IsS73.far ?_ NB152_162.out _) | exact HI152.out)) (rq HO_8) (by decide)) hk (fun _ h => h.2)) (fun _ h => h.1)); have n2_ := A_ (KeepBut.blk hk (g' := gb151) (o := .cells #[.int .i64 0, .bool false] 25 (0, 0)) (bq BK151) NB151_152.out (by simp)); have n3_ := A_ (KeepBut.blk hk (g' := gb162) (o := .cells #[.int .i64 t156, .bool (!t159)] 25 (0, 0)) (bq BK162) NB162_152.out (by simp)); have n4_ := A_ (hb); have n5_ := A_ (hi); clear HO_7; clear HO_8; clear BK151; clear BK162; clear HB; clear HI152; have HO_7 := n0_; have HO_8 := n1_; have BK151 := n2_; have BK162 := n3_; have HB := n4_; have HI152 := n5_; clear n0_ n1_ n2_ n3_ n4_ n5_; (try clear hb); (try clear hb2); (try clear hk); (try clear hi); have hnb41 := NB162_151.out; have hnc41 := NB151_162.out; have hnb42 := NB162_152.out; have hnc42 := NB152_162.out; have hcz43_0 : w40.cell? ⟨gb162, 0, none⟩ = some (.int .i64 t156) := bc BK162 0; have hcz43_1 : w40.cell? ⟨gb162, 1, none⟩ = some (.bool (!t159)) := bc BK162 1; have hfz43_0 := blk_frozen BK162.out 0; have hfz43_1 := blk_frozen BK162.out 1; have hnb44 := NB151_152.out; have hnc44 := NB152_151.out; have hcz45_0 : w40.cell? ⟨gb151, 0, none⟩ = some (.int .i64 0) := bc BK151 0; have hcz45_1 : w40.cell? ⟨gb151, 1, none⟩ = some (.bool false) := bc BK151 1; have hfz45_0 := blk_frozen BK151.out 0; have hfz45_1 := blk_frozen BK151.out 1))
      refine bodyPost_ret (results_ctt rfl _ _ gb151 25 #[.int .i64 t156, .bool (!t159)] (0, 0) _ rfl (by (with_reducible repeat (first | refine blk_drewN ?_ _ | refine blk_drew ?_ | refine blk_alloc ?_ _)); refine blk_put (cs := #[.int .i64 t156, .bool false]) ?_ 1 _ rfl; (with_reducible repeat (first | refine blk_drewN ?_ _ | refine blk_drew ?_ | refine blk_alloc ?_ _)); refine blk_put (cs := #[.int .i64 0, .bool false]) ?_ 0 _ rfl; (with_reducible repeat (first | refine blk_drewN ?_ _ | refine blk_drew ?_ | refine blk_alloc ?_ _)); exact BK151.out) Try.underlying25 rfl (by kernel_rfl)) rfl ?_
      exact ⟨_, _, rt, by (with_reducible repeat (first | apply Kd.R_alloc | apply Kd.R_drewN | apply Kd.R_drew)); exact Kd.R_mono (Kd.R_far (p := ⟨gb151, 1, none⟩) (Kd.R_far (p := ⟨gb151, 0, none⟩) (Kd.R_types HO_7.out BK151.out (by decide)) (fun _ => cj) (.int .i64 t156)) (fun _ => cj) (.bool (!t159))) (fun _ => cj), by (with_reducible repeat (first | apply Kd.R_alloc | apply Kd.R_drewN | apply Kd.R_drew)); exact Kd.R_mono (Kd.R_far (p := ⟨gb151, 1, none⟩) (Kd.R_far (p := ⟨gb151, 0, none⟩) (Kd.R_types HO_8.out BK151.out (by decide)) (fun _ => cj) (.int .i64 t156)) (fun _ => cj) (.bool (!t159))) (fun _ => cj), by repeat (first | (with_reducible first | exact HB.out | apply below_alloc | apply pw_below_drewN | apply below_drew1 | refine below_set ?_ (IsS73.ge HI152.out) | refine below_set ?_ GE151.out | refine below_set ?_ GE162.out) | exact HB.out)⟩

/-! ### impl_within: function 98 -/
def impl_within.f (a0 : Int) (a1 : Int) (a2 : Int) : Option (Bool) := if a0 ≥ a1 then (some (decide (a0 ≤ a2))) else (some false)
set_option maxHeartbeats 8000000 in
set_option maxRecDepth 100000 in
theorem impl_within.calls (a0 : Int) (a1 : Int) (a2 : Int) (r : Bool) (w : World) (h : impl_within.f a0 a1 a2 = some r) :
    Calls Try.prog 98 #[.int .i64 a0, .int .i64 a1, .int .i64 a2] w fun e w' => e = .returned (.bool r) ∧ Drawn0 w w' := by
 have H : (if a0 ≥ a1 then (some (decide (a0 ≤ a2))) else (some false)) = some r := h
 clear h
 by_cases c4 : a0 ≥ a1
 ·
  rw [if_pos c4] at H
  have c4b0 : decide (a1 ≤ a0) = true := decide_eq_true c4
  clear c4
  obtain rfl := Option.some.inj H
  go_enter Try.func98, Try.ntmps98
  go_wp2
  go_ret
  exact ⟨by first | rfl | (simp; done) | (simp [*]; done), by repeat (first | exact Drawn0.refl _ | apply Drawn0.step)⟩
 ·
  rw [if_neg c4] at H
  have c4b0 : decide (a1 ≤ a0) = false := decide_eq_false c4
  clear c4
  obtain rfl := Option.some.inj H
  go_enter Try.func98, Try.ntmps98
  go_wp2
  go_ret
  exact ⟨by first | rfl | (simp; done) | (simp [*]; done), by repeat (first | exact Drawn0.refl _ | apply Drawn0.step)⟩

/-! ### impl_allWithin: function 107 -/
def impl_allWithin.l0 : Nat → Int → Int → List Int → Int → Int → Option (Bool)
  | 0, _, _, _, _, _ => none
  | k + 1, x1, x2, x9, x10, x11 => if x11 < x10 then (if 0 ≤ x11 then (if x11 < (x9.length : Int) then ((impl_within.f (rd x9 x11) x1 x2).bind fun t186 => (if t186 = true then (impl_allWithin.l0 k x1 x2 x9 x10 (wrap64 (x11 + 1))) else (some false))) else (none)) else (none)) else (some true)
def impl_allWithin.f (k : Nat) (l0 : List Int) (a1 : Int) (a2 : Int) : Option (Bool) := impl_allWithin.l0 k a1 a2 l0 (l0.length : Int) 0
theorem impl_allWithin.mono_l : ∀ k, (∀ y0 y1 y2 y3 y4, LeO (impl_allWithin.l0 k y0 y1 y2 y3 y4) (impl_allWithin.l0 (k + 1) y0 y1 y2 y3 y4))
  | 0 => fun _ _ _ _ _ r h => by simp [impl_allWithin.l0] at h
  | k + 1 => by
    have ih0 := impl_allWithin.mono_l k
    · intro y0 y1 y2 y3 y4
      unfold impl_allWithin.l0
      repeat' first
      | (with_reducible exact ih0 _ _ _ _ _)
      | (with_reducible exact LeO.refl _)
      | (with_reducible exact LeO.none _)
      | (with_reducible refine LeO.ite ?_ ?_)
      | (with_reducible refine LeO.bind ?_ (fun _ => ?_))
      | exact ih0 _ _ _ _ _
      | exact LeO.none _
      | refine LeO.ite ?_ ?_
      | refine LeO.bind ?_ (fun _ => ?_)
theorem impl_allWithin.mono : ∀ a0 a1 a2 k, LeO (impl_allWithin.f k a0 a1 a2) (impl_allWithin.f (k + 1) a0 a1 a2) := by
  intro a0 a1 a2 k
  have ih0 := impl_allWithin.mono_l k
  unfold impl_allWithin.f
  repeat' first
      | (with_reducible exact ih0 _ _ _ _ _)
      | (with_reducible exact LeO.refl _)
      | (with_reducible exact LeO.none _)
      | (with_reducible refine LeO.ite ?_ ?_)
      | (with_reducible refine LeO.bind ?_ (fun _ => ?_))
      | exact ih0 _ _ _ _ _
      | exact LeO.none _
      | refine LeO.ite ?_ ?_
      | refine LeO.bind ?_ (fun _ => ?_)
set_option maxHeartbeats 8000000 in
set_option maxRecDepth 100000 in
theorem impl_allWithin.calls (k : Nat) (A0 : Option Addr) (c0 : Nat) (l0 : List Int) (a1 : Int) (a2 : Int) (r : Bool) (w : World) (hr0 : Kd.C (Kd.int .i64) w A0 l0.length l0) (hc0 : l0.length ≤ c0) (h : impl_allWithin.f k l0 a1 a2 = some r) :
    Calls Try.prog 107 #[.slice A0 l0.length c0, .int .i64 a1, .int .i64 a2] w fun e w' => e = .returned (.bool r) ∧ Drawn0 w w' := by
 have HR0 := A_ hr0
 have HC0 := A_ hc0
 clear hr0 hc0
 have H : (impl_allWithin.l0 k a1 a2 l0 (l0.length : Int) 0) = some r := h
 clear h
 have H' := A_ H
 clear H
 go_enter Try.func107, Try.ntmps107
 go_wp2
 go_loopg [11] k (fun kq v11 w' => ∃ (x11_1 : Int), v11 = .int .i64 x11_1 ∧ Aside0 (impl_allWithin.l0 kq a1 a2 l0 (l0.length : Int) x11_1 = some r) ∧ Aside0 (kq ≤ k) ∧ Drawn0 w w')
 case atStart => exact ⟨(0), (by first | rfl | (simp; done) | (simp [*]; done)), H', ⟨Nat.le_refl _⟩, by repeat (first | exact Drawn0.refl _ | apply Drawn0.step)⟩
 case round =>
  clear H'
  try clear c1
  try clear p2
  obtain ⟨x11_1, rfl, HA, HK1, ⟨m1, rfl⟩⟩ := hrel
  cases gk with
  | zero => exact absurd HA.out (by simp [impl_allWithin.l0])
  | succ k1 =>
   have H := HA.out
   clear HA
   simp only [impl_allWithin.l0] at H
   by_cases c4 : x11_1 < (l0.length : Int)
   ·
    rw [if_pos c4] at H
    have c4b0 : decide (x11_1 < (l0.length : Int)) = true := decide_eq_true c4
    clear c4
    by_cases c5 : 0 ≤ x11_1
    ·
     rw [if_pos c5] at H
     have c5b0 : decide (0 ≤ x11_1) = true := decide_eq_true c5
     clear c5
     by_cases c6 : x11_1 < (l0.length : Int)
     ·
      rw [if_pos c6] at H
      have c6b0 : decide (x11_1 < (l0.length : Int)) = true := decide_eq_true c6
      clear c6
      replace H := Option.bind_eq_some_iff.mp H
      obtain ⟨t186, A70, H⟩ := H
      replace H : (if t186 = true then (impl_allWithin.l0 k1 a1 a2 l0 (l0.length : Int) (wrap64 (x11_1 + 1))) else (some false)) = some r := H
      have A7 := A_ A70
      clear A70
      by_cases c8 : t186 = true
      ·
       subst c8
       have H1 : (impl_allWithin.l0 k1 a1 a2 l0 (l0.length : Int) (wrap64 (x11_1 + 1))) = some r := by rw [if_pos rfl] at H; exact H
       clear H
       have H := H1
       clear H1
       have H' := A_ H
       clear H
       have p185 : 0 ≤ (x11_1 : Int) := of_decide_eq_true (by first | (with_reducible assumption) | assumption)
       have q185 : x11_1 < (l0.length : Int) := of_decide_eq_true (by first | (with_reducible assumption) | assumption)
       obtain ⟨ad185, e185, hx185_0⟩ := Kd.at_int HR0.out x11_1 p185 q185
       cases e185
       replace p185 := eq_true p185
       replace q185 := eq_true q185
       go_wp2_with (first | ((with_reducible refine gate_callee (f := 98) rfl ?_); refine goesL_ (some 18) rfl rfl Try.func98 (by kernel_rfl) rfl #[.int .i64 (rd l0 x11_1), .int .i64 a1, .int .i64 a2] rfl gq ?_; (with_reducible refine (impl_within.calls (rd l0 x11_1) a1 a2 true _ A7.out).mono ?_); rintro e w' ⟨rfl, ⟨nd, rfl⟩⟩; refine ⟨_, rfl, ?_⟩))
       go_roundg k1
       case measure => have := HK1.out; omega
       case rel => exact ⟨(wrap64 (x11_1 + 1)), (by first | rfl | (simp; done) | (simp [*]; done)), H', ⟨by have := HK1.out; omega⟩, by repeat (first | exact Drawn0.refl _ | apply Drawn0.step)⟩
      ·
       replace c8 := Bool.eq_false_iff.mpr c8
       subst c8
       have H1 : (some false) = some r := by rw [if_neg (show ¬ (false = true) by decide)] at H; exact H
       clear H
       have H := H1
       clear H1
       obtain rfl := Option.some.inj H
       have p185 : 0 ≤ (x11_1 : Int) := of_decide_eq_true (by first | (with_reducible assumption) | assumption)
       have q185 : x11_1 < (l0.length : Int) := of_decide_eq_true (by first | (with_reducible assumption) | assumption)
       obtain ⟨ad185, e185, hx185_0⟩ := Kd.at_int HR0.out x11_1 p185 q185
       cases e185
       replace p185 := eq_true p185
       replace q185 := eq_true q185
       go_wp2_with (first | ((with_reducible refine gate_callee (f := 98) rfl ?_); refine goesL_ (some 18) rfl rfl Try.func98 (by kernel_rfl) rfl #[.int .i64 (rd l0 x11_1), .int .i64 a1, .int .i64 a2] rfl gq ?_; (with_reducible refine (impl_within.calls (rd l0 x11_1) a1 a2 false _ A7.out).mono ?_); rintro e w' ⟨rfl, ⟨nd, rfl⟩⟩; refine ⟨_, rfl, ?_⟩))
       go_ret
       exact ⟨by first | rfl | (simp; done) | (simp [*]; done), by repeat (first | exact Drawn0.refl _ | apply Drawn0.step)⟩
     ·
      rw [if_neg c6] at H
      exact absurd H (by simp)
    ·
     rw [if_neg c5] at H
     exact absurd H (by simp)
   ·
    rw [if_neg c4] at H
    have c4b0 : decide (x11_1 < (l0.length : Int)) = false := decide_eq_false c4
    clear c4
    obtain rfl := Option.some.inj H
    go_wp2
    go_ret
    exact ⟨by first | rfl | (simp; done) | (simp [*]; done), by repeat (first | exact Drawn0.refl _ | apply Drawn0.step)⟩

/-! ### impl_isLabel: function 97 -/
def impl_isLabel.f (k : Nat) (l0 : List Int) : Option (Bool) := (impl_within.f (l0.length : Int) 1 6).bind fun t187 => (if t187 = true then ((impl_allWithin.f k l0 0 1).bind fun t188 => (some t188)) else (some false))
theorem impl_isLabel.mono : ∀ a0 k, LeO (impl_isLabel.f k a0) (impl_isLabel.f (k + 1) a0) := by
  intro a0 k
  unfold impl_isLabel.f
  repeat' first
      | (with_reducible exact impl_allWithin.mono _ _ _ _)
      | (with_reducible exact LeO.refl _)
      | (with_reducible exact LeO.none _)
      | (with_reducible refine LeO.ite ?_ ?_)
      | (with_reducible refine LeO.bind ?_ (fun _ => ?_))
      | exact impl_allWithin.mono _ _ _ _
      | exact LeO.none _
      | refine LeO.ite ?_ ?_
      | refine LeO.bind ?_ (fun _ => ?_)
set_option maxHeartbeats 8000000 in
set_option maxRecDepth 100000 in
theorem impl_isLabel.calls (k : Nat) (A0 : Option Addr) (c0 : Nat) (l0 : List Int) (r : Bool) (w : World) (hr0 : Kd.C (Kd.int .i64) w A0 l0.length l0) (hc0 : l0.length ≤ c0) (h : impl_isLabel.f k l0 = some r) :
    Calls Try.prog 97 #[.slice A0 l0.length c0] w fun e w' => e = .returned (.bool r) ∧ Drawn0 w w' := by
 have HR0 := A_ hr0
 have HC0 := A_ hc0
 clear hr0 hc0
 have H : ((impl_within.f (l0.length : Int) 1 6).bind fun t187 => (if t187 = true then ((impl_allWithin.f k l0 0 1).bind fun t188 => (some t188)) else (some false))) = some r := h
 clear h
 replace H := Option.bind_eq_some_iff.mp H
 obtain ⟨t187, A20, H⟩ := H
 replace H : (if t187 = true then ((impl_allWithin.f k l0 0 1).bind fun t188 => (some t188)) else (some false)) = some r := H
 have A2 := A_ A20
 clear A20
 by_cases c3 : t187 = true
 ·
  subst c3
  have H1 : ((impl_allWithin.f k l0 0 1).bind fun t188 => (some t188)) = some r := by rw [if_pos rfl] at H; exact H
  clear H
  have H := H1
  clear H1
  replace H := Option.bind_eq_some_iff.mp H
  obtain ⟨t188, A40, H⟩ := H
  replace H : (some t188) = some r := H
  have A4 := A_ A40
  clear A40
  obtain rfl := Option.some.inj H
  go_enter Try.func97, Try.ntmps97
  go_wp2_with (first | ((with_reducible refine gate_callee (f := 98) rfl ?_); refine goesL_ (some 5) rfl rfl Try.func98 (by kernel_rfl) rfl #[.int .i64 (l0.length : Int), .int .i64 1, .int .i64 6] rfl gq ?_; (with_reducible refine (impl_within.calls (l0.length : Int) 1 6 true _ A2.out).mono ?_); rintro e w' ⟨rfl, ⟨nd, rfl⟩⟩; refine ⟨_, rfl, ?_⟩) | (go_at_call 107; (with_reducible refine (impl_allWithin.calls k _ _ l0 0 1 t188 _ ?side1 ?side2 A4.out).mono ?_); (case side1 => exact cq HR0.out); (case side2 => exact HC0.out); rintro e w' ⟨rfl, ⟨nd, rfl⟩⟩))
  go_ret
  exact ⟨by first | rfl | (simp; done) | (simp [*]; done), by repeat (first | exact Drawn0.refl _ | apply Drawn0.step)⟩
 ·
  replace c3 := Bool.eq_false_iff.mpr c3
  subst c3
  have H1 : (some false) = some r := by rw [if_neg (show ¬ (false = true) by decide)] at H; exact H
  clear H
  have H := H1
  clear H1
  obtain rfl := Option.some.inj H
  go_enter Try.func97, Try.ntmps97
  go_wp2_with (first | ((with_reducible refine gate_callee (f := 98) rfl ?_); refine goesL_ (some 5) rfl rfl Try.func98 (by kernel_rfl) rfl #[.int .i64 (l0.length : Int), .int .i64 1, .int .i64 6] rfl gq ?_; (with_reducible refine (impl_within.calls (l0.length : Int) 1 6 false _ A2.out).mono ?_); rintro e w' ⟨rfl, ⟨nd, rfl⟩⟩; refine ⟨_, rfl, ?_⟩))
  go_ret
  exact ⟨by first | rfl | (simp; done) | (simp [*]; done), by repeat (first | exact Drawn0.refl _ | apply Drawn0.step)⟩

/-! ### impl_LabelMoves: function 43 -/
mutual
def impl_LabelMoves.j0 : Nat → List Int → Int → Bool → Option (List Int × Bool)
  | 0, _, _, _ => none
  | k + 1, x0, x1, x23 => if x23 = true then (some (([] : List Int), false)) else (impl_LabelMoves.l0 k x1 (([] : List Int)) x0 (x0.length : Int) 0)
def impl_LabelMoves.l0 : Nat → Int → List Int → List Int → Int → Int → Option (List Int × Bool)
  | 0, _, _, _, _, _ => none
  | k + 1, x1, x6, x25, x26, x27 => if x27 < x26 then (if 0 ≤ x27 then (if x27 < (x25.length : Int) then (impl_LabelMoves.l1 k x1 x6 (rd x25 x27) x25 x26 x27 x1 0) else (none)) else (none)) else (some (x6, true))
def impl_LabelMoves.l1 : Nat → Int → List Int → Int → List Int → Int → Int → Int → Int → Option (List Int × Bool)
  | 0, _, _, _, _, _, _, _, _ => none
  | k + 1, x1, x6, x8, x25, x26, x27, x31, x32 => if x32 < x31 then (if x6.length < 17592186044416 then (impl_LabelMoves.l1 k x1 (x6 ++ [x8]) x8 x25 x26 x27 x31 (wrap64 (x32 + 1))) else (none)) else (impl_LabelMoves.l0 k x1 x6 x25 x26 (wrap64 (x27 + 1)))
end
def impl_LabelMoves.f (k : Nat) (l0 : List Int) (a1 : Int) : Option (List Int × Bool) := (impl_isLabel.f k l0).bind fun t189 => (if t189 = true then ((impl_within.f a1 1 24).bind fun t190 => (if t190 = true then (impl_LabelMoves.j0 k l0 a1 (decide ((wrap64 (a1 * (l0.length : Int))) > 24))) else (impl_LabelMoves.j0 k l0 a1 true))) else (impl_LabelMoves.j0 k l0 a1 true))
theorem impl_LabelMoves.mono_l : ∀ k, (∀ y0 y1 y2, LeO (impl_LabelMoves.j0 k y0 y1 y2) (impl_LabelMoves.j0 (k + 1) y0 y1 y2)) ∧ (∀ y0 y1 y2 y3 y4, LeO (impl_LabelMoves.l0 k y0 y1 y2 y3 y4) (impl_LabelMoves.l0 (k + 1) y0 y1 y2 y3 y4)) ∧ (∀ y0 y1 y2 y3 y4 y5 y6 y7, LeO (impl_LabelMoves.l1 k y0 y1 y2 y3 y4 y5 y6 y7) (impl_LabelMoves.l1 (k + 1) y0 y1 y2 y3 y4 y5 y6 y7))
  | 0 => ⟨fun _ _ _ r h => by simp [impl_LabelMoves.j0] at h, fun _ _ _ _ _ r h => by simp [impl_LabelMoves.l0] at h, fun _ _ _ _ _ _ _ _ r h => by simp [impl_LabelMoves.l1] at h⟩
  | k + 1 => by
    obtain ⟨ih0, ih1, ih2⟩ := impl_LabelMoves.mono_l k
    refine ⟨?_, ?_, ?_⟩
    · intro y0 y1 y2
      unfold impl_LabelMoves.j0
      repeat' first
      | (with_reducible exact ih0 _ _ _)
      | (with_reducible exact ih1 _ _ _ _ _)
      | (with_reducible exact ih2 _ _ _ _ _ _ _ _)
      | (with_reducible exact impl_isLabel.mono _ _)
      | (with_reducible exact LeO.refl _)
      | (with_reducible exact LeO.none _)
      | (with_reducible refine LeO.ite ?_ ?_)
      | (with_reducible refine LeO.bind ?_ (fun _ => ?_))
      | exact ih0 _ _ _
      | exact ih1 _ _ _ _ _
      | exact ih2 _ _ _ _ _ _ _ _
      | exact impl_isLabel.mono _ _
      | exact LeO.none _
      | refine LeO.ite ?_ ?_
      | refine LeO.bind ?_ (fun _ => ?_)
    · intro y0 y1 y2 y3 y4
      unfold impl_LabelMoves.l0
      repeat' first
      | (with_reducible exact ih0 _ _ _)
      | (with_reducible exact ih1 _ _ _ _ _)
      | (with_reducible exact ih2 _ _ _ _ _ _ _ _)
      | (with_reducible exact impl_isLabel.mono _ _)
      | (with_reducible exact LeO.refl _)
      | (with_reducible exact LeO.none _)
      | (with_reducible refine LeO.ite ?_ ?_)
      | (with_reducible refine LeO.bind ?_ (fun _ => ?_))
      | exact ih0 _ _ _
      | exact ih1 _ _ _ _ _
      | exact ih2 _ _ _ _ _ _ _ _
      | exact impl_isLabel.mono _ _
      | exact LeO.none _
      | refine LeO.ite ?_ ?_
      | refine LeO.bind ?_ (fun _ => ?_)
    · intro y0 y1 y2 y3 y4 y5 y6 y7
      unfold impl_LabelMoves.l1
      repeat' first
      | (with_reducible exact ih0 _ _ _)
      | (with_reducible exact ih1 _ _ _ _ _)
      | (with_reducible exact ih2 _ _ _ _ _ _ _ _)
      | (with_reducible exact impl_isLabel.mono _ _)
      | (with_reducible exact LeO.refl _)
      | (with_reducible exact LeO.none _)
      | (with_reducible refine LeO.ite ?_ ?_)
      | (with_reducible refine LeO.bind ?_ (fun _ => ?_))
      | exact ih0 _ _ _
      | exact ih1 _ _ _ _ _
      | exact ih2 _ _ _ _ _ _ _ _
      | exact impl_isLabel.mono _ _
      | exact LeO.none _
      | refine LeO.ite ?_ ?_
      | refine LeO.bind ?_ (fun _ => ?_)
theorem impl_LabelMoves.mono : ∀ a0 a1 k, LeO (impl_LabelMoves.f k a0 a1) (impl_LabelMoves.f (k + 1) a0 a1) := by
  intro a0 a1 k
  obtain ⟨ih0, ih1, ih2⟩ := impl_LabelMoves.mono_l k
  unfold impl_LabelMoves.f
  repeat' first
      | (with_reducible exact ih0 _ _ _)
      | (with_reducible exact ih1 _ _ _ _ _)
      | (with_reducible exact ih2 _ _ _ _ _ _ _ _)
      | (with_reducible exact impl_isLabel.mono _ _)
      | (with_reducible exact LeO.refl _)
      | (with_reducible exact LeO.none _)
      | (with_reducible refine LeO.ite ?_ ?_)
      | (with_reducible refine LeO.bind ?_ (fun _ => ?_))
      | exact ih0 _ _ _
      | exact ih1 _ _ _ _ _
      | exact ih2 _ _ _ _ _ _ _ _
      | exact impl_isLabel.mono _ _
      | exact LeO.none _
      | refine LeO.ite ?_ ?_
      | refine LeO.bind ?_ (fun _ => ?_)
set_option maxHeartbeats 8000000 in
set_option maxRecDepth 100000 in
theorem impl_LabelMoves.calls (k : Nat) (A0 : Option Addr) (c0 : Nat) (l0 : List Int) (a1 : Int) (r1 : List Int) (r2 : Bool) (w : World) (hr0 : Kd.C (Kd.int .i64) w A0 l0.length l0) (hc0 : l0.length ≤ c0) (h : impl_LabelMoves.f k l0 a1 = some (r1, r2)) :
    Calls Try.prog 43 #[.slice A0 l0.length c0, .int .i64 a1] w fun e w' => ∃ v0_ : Value, e = .returned (.tuple #[v0_, .bool r2]) ∧ Kd.R (Kd.int .i64) 3 w' w.heap.size (fun _ => True) v0_ r1 ∧ Below w.heap.size w w' := by
 have HR0 := A_ hr0
 have HC0 := A_ hc0
 clear hr0 hc0
 have HB := A_ (Below.refl w.heap.size w)
 have H : ((impl_isLabel.f k l0).bind fun t189 => (if t189 = true then ((impl_within.f a1 1 24).bind fun t190 => (if t190 = true then (impl_LabelMoves.j0 k l0 a1 (decide ((wrap64 (a1 * (l0.length : Int))) > 24))) else (impl_LabelMoves.j0 k l0 a1 true))) else (impl_LabelMoves.j0 k l0 a1 true))) = some (r1, r2) := h
 clear h
 have HC3 := A_ H
 clear H
 go_enter Try.func43, Try.ntmps43
 go_upto_region 1 with (fail)
 go_cut [23] (fun v23 wc => ∃ (kq : Nat) (x23_2 : Bool), v23 = .bool x23_2 ∧ Aside0 (impl_LabelMoves.j0 kq l0 a1 x23_2 = some (r1, r2)) ∧ Aside0 (kq ≤ k) ∧ Aside0 (Below w.heap.size w wc))
 case first =>
  have H := HC3.out
  clear HC3
  replace H := Option.bind_eq_some_iff.mp H
  obtain ⟨t189, A40, H⟩ := H
  replace H : (if t189 = true then ((impl_within.f a1 1 24).bind fun t190 => (if t190 = true then (impl_LabelMoves.j0 k l0 a1 (decide ((wrap64 (a1 * (l0.length : Int))) > 24))) else (impl_LabelMoves.j0 k l0 a1 true))) else (impl_LabelMoves.j0 k l0 a1 true)) = some (r1, r2) := H
  have A4 := A_ A40
  clear A40
  by_cases c5 : t189 = true
  ·
   subst c5
   have H1 : ((impl_within.f a1 1 24).bind fun t190 => (if t190 = true then (impl_LabelMoves.j0 k l0 a1 (decide ((wrap64 (a1 * (l0.length : Int))) > 24))) else (impl_LabelMoves.j0 k l0 a1 true))) = some (r1, r2) := by rw [if_pos rfl] at H; exact H
   clear H
   have H := H1
   clear H1
   replace H := Option.bind_eq_some_iff.mp H
   obtain ⟨t190, A60, H⟩ := H
   replace H : (if t190 = true then (impl_LabelMoves.j0 k l0 a1 (decide ((wrap64 (a1 * (l0.length : Int))) > 24))) else (impl_LabelMoves.j0 k l0 a1 true)) = some (r1, r2) := H
   have A6 := A_ A60
   clear A60
   by_cases c7 : t190 = true
   ·
    subst c7
    have H1 : (impl_LabelMoves.j0 k l0 a1 (decide ((wrap64 (a1 * (l0.length : Int))) > 24))) = some (r1, r2) := by rw [if_pos rfl] at H; exact H
    clear H
    have H := H1
    clear H1
    have H' := A_ H
    clear H
    go_wp2_with (first | ((with_reducible refine gate_callee (f := 97) rfl ?_); refine goesL_ (some 10) rfl rfl Try.func97 (by kernel_rfl) rfl #[.slice A0 l0.length c0] rfl gq ?_; (with_reducible refine (impl_isLabel.calls k _ _ l0 true _ ?side1 ?side2 A4.out).mono ?_); (case side1 => exact cq (Kd.C_below HR0.out HB.out)); (case side2 => exact HC0.out); rintro e w' ⟨rfl, ⟨nd, rfl⟩⟩; refine ⟨_, rfl, ?_⟩) | (go_at_call 98; (with_reducible refine (impl_within.calls a1 1 24 true _ A6.out).mono ?_); rintro e w' ⟨rfl, ⟨nd, rfl⟩⟩))
    go_meet
    case rel => exact ⟨_, (decide ((wrap64 (a1 * (l0.length : Int))) > 24)), (by first | rfl | (simp; done) | (simp [*]; done)), H', ⟨by first | omega | exact Nat.le_refl _⟩, ⟨hq HB⟩⟩
   ·
    replace c7 := Bool.eq_false_iff.mpr c7
    subst c7
    have H1 : (impl_LabelMoves.j0 k l0 a1 true) = some (r1, r2) := by rw [if_neg (show ¬ (false = true) by decide)] at H; exact H
    clear H
    have H := H1
    clear H1
    have H' := A_ H
    clear H
    go_wp2_with (first | ((with_reducible refine gate_callee (f := 97) rfl ?_); refine goesL_ (some 10) rfl rfl Try.func97 (by kernel_rfl) rfl #[.slice A0 l0.length c0] rfl gq ?_; (with_reducible refine (impl_isLabel.calls k _ _ l0 true _ ?side1 ?side2 A4.out).mono ?_); (case side1 => exact cq (Kd.C_below HR0.out HB.out)); (case side2 => exact HC0.out); rintro e w' ⟨rfl, ⟨nd, rfl⟩⟩; refine ⟨_, rfl, ?_⟩) | (go_at_call 98; (with_reducible refine (impl_within.calls a1 1 24 false _ A6.out).mono ?_); rintro e w' ⟨rfl, ⟨nd, rfl⟩⟩))
    go_meet
    case rel => exact ⟨_, (true), (by first | rfl | (simp; done) | (simp [*]; done)), H', ⟨by first | omega | exact Nat.le_refl _⟩, ⟨hq HB⟩⟩
  ·
   replace c5 := Bool.eq_false_iff.mpr c5
   subst c5
   have H1 : (impl_LabelMoves.j0 k l0 a1 true) = some (r1, r2) := by rw [if_neg (show ¬ (false = true) by decide)] at H; exact H
   clear H
   have H := H1
   clear H1
   have H' := A_ H
   clear H
   go_wp2_with (first | ((with_reducible refine gate_callee (f := 97) rfl ?_); refine goesL_ (some 10) rfl rfl Try.func97 (by kernel_rfl) rfl #[.slice A0 l0.length c0] rfl gq ?_; (with_reducible refine (impl_isLabel.calls k _ _ l0 false _ ?side1 ?side2 A4.out).mono ?_); (case side1 => exact cq (Kd.C_below HR0.out HB.out)); (case side2 => exact HC0.out); rintro e w' ⟨rfl, ⟨nd, rfl⟩⟩; refine ⟨_, rfl, ?_⟩))
   go_meet
   case rel => exact ⟨_, (true), (by first | rfl | (simp; done) | (simp [*]; done)), H', ⟨by first | omega | exact Nat.le_refl _⟩, ⟨hq HB⟩⟩
 case rest =>
  clear HC3
  try clear p2
  try clear c4
  try clear c5
  try clear p6
  try clear c7
  obtain ⟨kq, x23_2, rfl, HA, HJ2, HB⟩ := hcut
  cases kq with
  | zero => exact absurd HA.out (by simp [impl_LabelMoves.j0])
  | succ kj2 =>
   have H := HA.out
   clear HA
   simp only [impl_LabelMoves.j0] at H
   by_cases c8 : x23_2 = true
   ·
    subst c8
    have H1 : (some (([] : List Int), false)) = some (r1, r2) := by rw [if_pos rfl] at H; exact H
    clear H
    have H := H1
    clear H1
    simp only [Option.some.injEq, Prod.mk.injEq] at H
    obtain ⟨rfl, rfl⟩ := H
    go_wp2
    go_ret2
    exact ⟨_, rt, by first | exact Kd.R_nil _ _ _ _ _ | exact Kd.N_nil _ _ _ _ _ | exact Kd.V_nil _ _ _ _ _ | exact Kd.Q_nil _ _ _ _ _ | exact Kd.S_nil _ _ _ _ _, hq HB⟩
   ·
    replace c8 := Bool.eq_false_iff.mpr c8
    subst c8
    have H1 : (impl_LabelMoves.l0 kj2 a1 (([] : List Int)) l0 (l0.length : Int) 0) = some (r1, r2) := by rw [if_neg (show ¬ (false = true) by decide)] at H; exact H
    clear H
    have H := H1
    clear H1
    obtain ⟨y191, hy191⟩ : ∃ y_ : List Int, y_ = (([] : List Int)) := ⟨_, rfl⟩
    replace H : (impl_LabelMoves.l0 kj2 a1 y191 l0 (l0.length : Int) 0) = some (r1, r2) := by first | (rw [hy191]; with_reducible exact H) | (have H2_ := (Option.bind_some _ _).symm.trans H; rw [hy191]; with_reducible exact H2_) | (have H2_ := (Option.bind_some _ _).symm.trans H; with_reducible exact H2_) | with_reducible exact H | (rw [hy191]; exact H) | exact H
    have Ny191 := A_ hy191
    clear hy191
    have H' := A_ H
    clear H
    go_wp2_with (first | ((with_reducible refine gate_dst (N := 24) rfl ?_); (try (refine gate_guard (by rfl) ?_; dsimp only)); refine Kd.R_lit (Kd.int .i64) _ 3 ?hg (N := 24) ?hd (xs := ([] : List Int)) (inner := []) (ok := fun _ => True) (okp := fun _ => True) ?hr ?hp (fun _ hk => hk) trivial (Below.refl _ _) (Nat.le_refl _) (by simp) ?_; (case hd => rfl); (case hg => rfl); (case hr => first | (go_simp; done) | (go_simp; rfl)); (case hp => exact (Reps.none _ _)); intro v192 w9 ho10 hb hg_ hnew_; clear hg_ hnew_; (first | rw [← Ny191.out] at ho10 | (simp only [Int.reduceToNat] at ho10; rw [← Ny191.out] at ho10)); have n0_ := A_ (Kd.R_lower ho10 (below_size (hq HB))); have n1_ := A_ (below_step (hq HB) hb); clear HB; have HO193 := n0_; have HB := n1_; clear n0_ n1_; clear hb ho10))
    go_loopg [6, 27] kj2 (fun kq v6 v27 w' => ∃ (x6_2 : List Int) (x27_2 : Int), v27 = .int .i64 x27_2 ∧ Aside0 (impl_LabelMoves.l0 kq a1 x6_2 l0 (l0.length : Int) x27_2 = some (r1, r2)) ∧ Aside0 (kq ≤ kj2) ∧ Aside0 (Kd.R (Kd.int .i64) 3 w' w.heap.size (fun _ => True) v6 x6_2) ∧ Aside0 (Below w.heap.size w w'))
    case atStart => exact ⟨(y191), (0), (by first | rfl | (simp; done) | (simp [*]; done)), H', ⟨Nat.le_refl _⟩, ⟨rq HO193⟩, ⟨hq HB⟩⟩
    case round =>
     clear H'
     try clear p2
     try clear c4
     try clear c5
     try clear p6
     try clear c7
     try clear c8
     try clear c9
     try clear p2
     try clear p6
     obtain ⟨x6_2, x27_2, rfl, HA, HK2, HO_6, HB⟩ := hrel
     cases gk with
     | zero => exact absurd HA.out (by simp [impl_LabelMoves.l0])
     | succ k2 =>
      have H := HA.out
      clear HA
      simp only [impl_LabelMoves.l0] at H
      by_cases c11 : x27_2 < (l0.length : Int)
      ·
       rw [if_pos c11] at H
       have c11b0 : decide (x27_2 < (l0.length : Int)) = true := decide_eq_true c11
       clear c11
       by_cases c12 : 0 ≤ x27_2
       ·
        rw [if_pos c12] at H
        have c12b0 : decide (0 ≤ x27_2) = true := decide_eq_true c12
        clear c12
        by_cases c13 : x27_2 < (l0.length : Int)
        ·
         rw [if_pos c13] at H
         have c13b0 : decide (x27_2 < (l0.length : Int)) = true := decide_eq_true c13
         clear c13
         have H' := A_ H
         clear H
         have p194 : 0 ≤ (x27_2 : Int) := of_decide_eq_true (by first | (with_reducible assumption) | assumption)
         have q194 : x27_2 < (l0.length : Int) := of_decide_eq_true (by first | (with_reducible assumption) | assumption)
         obtain ⟨ad194, e194, hx194_0⟩ := Kd.at_int HR0.out x27_2 p194 q194
         cases e194
         replace hx194_0 := (HB.out.cell (World.block_lt_of_cell? w _ hx194_0)).trans hx194_0
         replace p194 := eq_true p194
         replace q194 := eq_true q194
         go_wp2
         go_loopg [6, 32] k2 (fun kq v6 v32 w' => ∃ (x6_3 : List Int) (x32_3 : Int), v32 = .int .i64 x32_3 ∧ Aside0 (impl_LabelMoves.l1 kq a1 x6_3 (rd l0 x27_2) l0 (l0.length : Int) x27_2 a1 x32_3 = some (r1, r2)) ∧ Aside0 (kq ≤ k2) ∧ Aside0 (Kd.R (Kd.int .i64) 3 w' w.heap.size (fun _ => True) v6 x6_3) ∧ Aside0 (Below w.heap.size w w'))
         case atStart => exact ⟨(x6_2), (0), (by first | rfl | (simp; done) | (simp [*]; done)), H', ⟨Nat.le_refl _⟩, ⟨rq HO_6⟩, ⟨hq HB⟩⟩
         case round =>
          clear H'
          try clear c1
          try clear p1
          try clear q1
          try clear hx1
          try clear p2
          try clear c4
          try clear c5
          try clear p6
          try clear c7
          try clear c8
          try clear c9
          try clear c11
          try clear c11b0
          try clear c12
          try clear c12b0
          try clear c13
          try clear c13b0
          try clear hx194_0
          try clear p194
          try clear p2
          try clear p6
          try clear q194
          obtain ⟨x6_3, x32_3, rfl, HA, HK3, HO_6, HB⟩ := hrel
          cases gk with
          | zero => exact absurd HA.out (by simp [impl_LabelMoves.l1])
          | succ k3 =>
           have H := HA.out
           clear HA
           simp only [impl_LabelMoves.l1] at H
           by_cases c14 : x32_3 < a1
           ·
            rw [if_pos c14] at H
            have c14b0 : decide (x32_3 < a1) = true := decide_eq_true c14
            clear c14
            by_cases c15 : x6_3.length < 17592186044416
            ·
             rw [if_pos c15] at H
             have LMc15 := A_ c15
             clear c15
             obtain ⟨y195, hy195⟩ : ∃ y_ : List Int, y_ = (x6_3 ++ [(rd l0 x27_2)]) := ⟨_, rfl⟩
             replace H : (impl_LabelMoves.l1 k3 a1 y195 (rd l0 x27_2) l0 (l0.length : Int) x27_2 a1 (wrap64 (x32_3 + 1))) = some (r1, r2) := by first | (rw [hy195]; with_reducible exact H) | (have H2_ := (Option.bind_some _ _).symm.trans H; rw [hy195]; with_reducible exact H2_) | (have H2_ := (Option.bind_some _ _).symm.trans H; with_reducible exact H2_) | with_reducible exact H | (rw [hy195]; exact H) | exact H
             have Ny195 := A_ hy195
             clear hy195
             have H' := A_ H
             clear H
             go_wp2_with (first | ((with_reducible refine gate_builtin (b := .append) (xs := #[.tmp 34, .tmp 36]) rfl ?_); (try (refine gate_guard (by rfl) ?_; dsimp only)); at_builtin; refine Kd.R_append (Kd.int .i64) (w0 := w) w.heap.size rfl (.tmp 34) (.tmp 36) 26 3 (.int .i64 0) 8 rfl Try.underlying26 info3 rfl (by decide) (by omega) u6 x6_3 (rd l0 x27_2) [.int .i64 (rd l0 x27_2)] (fun _ => True) (fun _ => False) rfl rfl ?aP (fun _ hk => hk.elim) ?aF ?aO ?aB ?aS ?aL ?_; (case aP => exact rfl); (case aB => exact (hq HB)); (case aF => exact (fun _ _ => trivial)); (case aO => exact (rq HO_6)); (case aS => exact (below_size (hq HB))); (case aL => have := LMc15.out; omega); intro v196 w16 ho hb hg hat; rw [← Ny195.out] at ho; have n0_ := A_ (hb); have n1_ := A_ (ho); clear HB; clear HO_6; have HB := n0_; have HO197 := n1_; clear n0_ n1_; clear ho hb hg hat))
             go_roundg k3
             case measure => have := HJ2.out; have := HK2.out; have := HK3.out; omega
             case rel => exact ⟨(y195), (wrap64 (x32_3 + 1)), (by first | rfl | (simp; done) | (simp [*]; done)), H', ⟨by have := HJ2.out; have := HK2.out; have := HK3.out; omega⟩, ⟨rq HO197⟩, ⟨hq HB⟩⟩
            ·
             rw [if_neg c15] at H
             exact absurd H (by simp)
           ·
            rw [if_neg c14] at H
            have c14b0 : decide (x32_3 < a1) = false := decide_eq_false c14
            clear c14
            have H' := A_ H
            clear H
            go_wp2
            go_roundg k3
            case measure => have := HJ2.out; have := HK2.out; have := HK3.out; omega
            case rel => exact ⟨(x6_3), (wrap64 (x27_2 + 1)), (by first | rfl | (simp; done) | (simp [*]; done)), H', ⟨by have := HJ2.out; have := HK2.out; have := HK3.out; omega⟩, ⟨rq HO_6⟩, ⟨hq HB⟩⟩
        ·
         rw [if_neg c13] at H
         exact absurd H (by simp)
       ·
        rw [if_neg c12] at H
        exact absurd H (by simp)
      ·
       rw [if_neg c11] at H
       have c11b0 : decide (x27_2 < (l0.length : Int)) = false := decide_eq_false c11
       clear c11
       simp only [Option.some.injEq, Prod.mk.injEq] at H
       obtain ⟨rfl, rfl⟩ := H
       go_wp2
       go_ret2
       exact ⟨_, rt, rq HO_6, hq HB⟩

/-! ### impl_IsRoad: function 54 -/
def impl_IsRoad.f (a0_0 : Int) (a0_1 : Bool) : Option (Bool) := (impl_within.f a0_0 2 24).bind fun t199 => (if t199 = true then (if a0_1 = true then (some (decide (a0_0 ≥ 3))) else (some true)) else (some false))
set_option maxHeartbeats 8000000 in
set_option maxRecDepth 100000 in
theorem impl_IsRoad.calls (a0_0 : Int) (a0_1 : Bool) (r : Bool) (w : World) (h : impl_IsRoad.f a0_0 a0_1 = some r) :
    Calls Try.prog 54 #[.agg #[.int .i64 a0_0, .bool a0_1]] w fun e w' => e = .returned (.bool r) ∧ Below w.heap.size w w' := by
 have hu25 := Try.underlying25
 have HB := A_ (Below.refl w.heap.size w)
 have H : ((impl_within.f a0_0 2 24).bind fun t199 => (if t199 = true then (if a0_1 = true then (some (decide (a0_0 ≥ 3))) else (some true)) else (some false))) = some r := h
 clear h
 replace H := Option.bind_eq_some_iff.mp H
 obtain ⟨t199, A20, H⟩ := H
 replace H : (if t199 = true then (if a0_1 = true then (some (decide (a0_0 ≥ 3))) else (some true)) else (some false)) = some r := H
 have A2 := A_ A20
 clear A20
 by_cases c3 : t199 = true
 ·
  subst c3
  have H1 : (if a0_1 = true then (some (decide (a0_0 ≥ 3))) else (some true)) = some r := by rw [if_pos rfl] at H; exact H
  clear H
  have H := H1
  clear H1
  by_cases c4 : a0_1 = true
  ·
   subst c4
   have H1 : (some (decide (a0_0 ≥ 3))) = some r := by rw [if_pos rfl] at H; exact H
   clear H
   have H := H1
   clear H1
   obtain rfl := Option.some.inj H
   go_enter Try.func54, Try.ntmps54
   go_wp2_with (first | ((with_reducible refine gate_dst (N := 1) rfl ?_); refine box_event ?hg (N := 1) ?hd (cs := #[.int .i64 a0_0, .bool true]) (t := 25) ?hr ?_; (case hd => rfl); (case hg => rfl); (case hr => first | (go_simp; done) | (go_simp; rfl)); intro gb198 hg w5 hbox hb; have n0_ := A_ (below_step (hq HB) hb); have n1_ := A_ (hbox); have n2_ := A_ ((by rw [hg]; exact (below_size (hq HB)) : w.heap.size ≤ gb198)); have n3_ := A_ ((by rw [hg]; exact (below_size (hq HB)) : w.heap.size ≤ gb198)); clear HB; have HB := n0_; have BK198 := n1_; have GW198 := n2_; have GE198 := n3_; clear n0_ n1_ n2_ n3_; clear hb hbox hg; have hcz6_0 : w5.cell? ⟨gb198, 0, none⟩ = some (.int .i64 a0_0) := bc BK198 0; have hcz6_1 : w5.cell? ⟨gb198, 1, none⟩ = some (.bool true) := bc BK198 1; have hfz6_0 := blk_frozen BK198.out 0; have hfz6_1 := blk_frozen BK198.out 1) | ((with_reducible refine gate_callee (f := 98) rfl ?_); refine goesL_ (some 5) rfl rfl Try.func98 (by kernel_rfl) rfl #[.int .i64 a0_0, .int .i64 2, .int .i64 24] rfl gq ?_; (with_reducible refine (impl_within.calls a0_0 2 24 true _ A2.out).mono ?_); rintro e w' ⟨rfl, ⟨nd, rfl⟩⟩; refine ⟨_, rfl, ?_⟩))
   go_ret
   exact ⟨rt, hq HB⟩
  ·
   replace c4 := Bool.eq_false_iff.mpr c4
   subst c4
   have H1 : (some true) = some r := by rw [if_neg (show ¬ (false = true) by decide)] at H; exact H
   clear H
   have H := H1
   clear H1
   obtain rfl := Option.some.inj H
   go_enter Try.func54, Try.ntmps54
   go_wp2_with (first | ((with_reducible refine gate_dst (N := 1) rfl ?_); refine box_event ?hg (N := 1) ?hd (cs := #[.int .i64 a0_0, .bool false]) (t := 25) ?hr ?_; (case hd => rfl); (case hg => rfl); (case hr => first | (go_simp; done) | (go_simp; rfl)); intro gb198 hg w7 hbox hb; have n0_ := A_ (below_step (hq HB) hb); have n1_ := A_ (hbox); have n2_ := A_ ((by rw [hg]; exact (below_size (hq HB)) : w.heap.size ≤ gb198)); have n3_ := A_ ((by rw [hg]; exact (below_size (hq HB)) : w.heap.size ≤ gb198)); clear HB; have HB := n0_; have BK198 := n1_; have GW198 := n2_; have GE198 := n3_; clear n0_ n1_ n2_ n3_; clear hb hbox hg; have hcz8_0 : w7.cell? ⟨gb198, 0, none⟩ = some (.int .i64 a0_0) := bc BK198 0; have hcz8_1 : w7.cell? ⟨gb198, 1, none⟩ = some (.bool false) := bc BK198 1; have hfz8_0 := blk_frozen BK198.out 0; have hfz8_1 := blk_frozen BK198.out 1) | ((with_reducible refine gate_callee (f := 98) rfl ?_); refine goesL_ (some 5) rfl rfl Try.func98 (by kernel_rfl) rfl #[.int .i64 a0_0, .int .i64 2, .int .i64 24] rfl gq ?_; (with_reducible refine (impl_within.calls a0_0 2 24 true _ A2.out).mono ?_); rintro e w' ⟨rfl, ⟨nd, rfl⟩⟩; refine ⟨_, rfl, ?_⟩))
   go_ret
   exact ⟨rt, hq HB⟩
 ·
  replace c3 := Bool.eq_false_iff.mpr c3
  subst c3
  have H1 : (some false) = some r := by rw [if_neg (show ¬ (false = true) by decide)] at H; exact H
  clear H
  have H := H1
  clear H1
  obtain rfl := Option.some.inj H
  go_enter Try.func54, Try.ntmps54
  go_wp2_with (first | ((with_reducible refine gate_dst (N := 1) rfl ?_); refine box_event ?hg (N := 1) ?hd (cs := #[.int .i64 a0_0, .bool a0_1]) (t := 25) ?hr ?_; (case hd => rfl); (case hg => rfl); (case hr => first | (go_simp; done) | (go_simp; rfl)); intro gb198 hg w9 hbox hb; have n0_ := A_ (below_step (hq HB) hb); have n1_ := A_ (hbox); have n2_ := A_ ((by rw [hg]; exact (below_size (hq HB)) : w.heap.size ≤ gb198)); have n3_ := A_ ((by rw [hg]; exact (below_size (hq HB)) : w.heap.size ≤ gb198)); clear HB; have HB := n0_; have BK198 := n1_; have GW198 := n2_; have GE198 := n3_; clear n0_ n1_ n2_ n3_; clear hb hbox hg; have hcz10_0 : w9.cell? ⟨gb198, 0, none⟩ = some (.int .i64 a0_0) := bc BK198 0; have hcz10_1 : w9.cell? ⟨gb198, 1, none⟩ = some (.bool a0_1) := bc BK198 1; have hfz10_0 := blk_frozen BK198.out 0; have hfz10_1 := blk_frozen BK198.out 1) | ((with_reducible refine gate_callee (f := 98) rfl ?_); refine goesL_ (some 5) rfl rfl Try.func98 (by kernel_rfl) rfl #[.int .i64 a0_0, .int .i64 2, .int .i64 24] rfl gq ?_; (with_reducible refine (impl_within.calls a0_0 2 24 false _ A2.out).mono ?_); rintro e w' ⟨rfl, ⟨nd, rfl⟩⟩; refine ⟨_, rfl, ?_⟩))
  go_ret
  exact ⟨rt, hq HB⟩

/-! ### impl_found: function 92 -/
def impl_found.f (a0 : Int) : Option (Int × Bool) := some (mx 0 a0, decide (a0 ≥ 0))
set_option maxHeartbeats 8000000 in
set_option maxRecDepth 100000 in
theorem impl_found.calls (a0 : Int) (r1 : Int) (r2 : Bool) (w : World) (h : impl_found.f a0 = some (r1, r2)) :
    Calls Try.prog 92 #[.int .i64 a0] w fun e w' => e = .returned (.tuple #[.int .i64 r1, .bool r2]) ∧ Below w.heap.size w w' := by
 have HB := A_ (Below.refl w.heap.size w)
 have H : (some (mx 0 a0, decide (a0 ≥ 0))) = some (r1, r2) := h
 clear h
 obtain ⟨ji2, hji2⟩ : ∃ j_ : Int, (mx 0 a0) = j_ := ⟨_, rfl⟩
 replace H : (some (ji2, decide (a0 ≥ 0))) = some (r1, r2) := by first | (rw [hji2] at H; exact H) | (simp only [hji2] at H ⊢; exact H)
 (try (have hji2l : 0 ≤ ji2 := by (rw [← hji2]; unfold mx; (repeat' split) <;> omega)))
 (try (have hji2m : 0 ≤ ji2 := by omega))
 have hji2_ : (if 0 < a0 then a0 else 0) = ji2 := hji2
 simp only [Option.some.injEq, Prod.mk.injEq] at H
 obtain ⟨rfl, rfl⟩ := H
 go_enter Try.func92, Try.ntmps92
 go_wp2
 go_ret2
 exact ⟨by first | rfl | (simp [errW_none, errW_some] <;> rfl) | (simp only [← hji2]; first | rfl | (simp [errW_none, errW_some] <;> rfl)) | (simp [*, errW_none, errW_some] <;> rfl), hq HB⟩

/-! ### slices_Index_int_int: function 101 -/
def slices_Index_int_int.l0 : Nat → List Int → Int → Int → Int → Option (Int)
  | 0, _, _, _, _ => none
  | k + 1, x0, x1, x7, x8 => if x8 < x7 then (if 0 ≤ x8 then (if x8 < (x0.length : Int) then (if x1 = (rd x0 x8) then (some x8) else (slices_Index_int_int.l0 k x0 x1 x7 (wrap64 (x8 + 1)))) else (none)) else (none)) else (some (-1))
def slices_Index_int_int.f (k : Nat) (l0 : List Int) (a1 : Int) : Option (Int) := slices_Index_int_int.l0 k l0 a1 (l0.length : Int) 0
theorem slices_Index_int_int.mono_l : ∀ k, (∀ y0 y1 y2 y3, LeO (slices_Index_int_int.l0 k y0 y1 y2 y3) (slices_Index_int_int.l0 (k + 1) y0 y1 y2 y3))
  | 0 => fun _ _ _ _ r h => by simp [slices_Index_int_int.l0] at h
  | k + 1 => by
    have ih0 := slices_Index_int_int.mono_l k
    · intro y0 y1 y2 y3
      unfold slices_Index_int_int.l0
      repeat' first
      | (with_reducible exact ih0 _ _ _ _)
      | (with_reducible exact LeO.refl _)
      | (with_reducible exact LeO.none _)
      | (with_reducible refine LeO.ite ?_ ?_)
      | (with_reducible refine LeO.bind ?_ (fun _ => ?_))
      | exact ih0 _ _ _ _
      | exact LeO.none _
      | refine LeO.ite ?_ ?_
      | refine LeO.bind ?_ (fun _ => ?_)
theorem slices_Index_int_int.mono : ∀ a0 a1 k, LeO (slices_Index_int_int.f k a0 a1) (slices_Index_int_int.f (k + 1) a0 a1) := by
  intro a0 a1 k
  have ih0 := slices_Index_int_int.mono_l k
  unfold slices_Index_int_int.f
  repeat' first
      | (with_reducible exact ih0 _ _ _ _)
      | (with_reducible exact LeO.refl _)
      | (with_reducible exact LeO.none _)
      | (with_reducible refine LeO.ite ?_ ?_)
      | (with_reducible refine LeO.bind ?_ (fun _ => ?_))
      | exact ih0 _ _ _ _
      | exact LeO.none _
      | refine LeO.ite ?_ ?_
      | refine LeO.bind ?_ (fun _ => ?_)
set_option maxHeartbeats 8000000 in
set_option maxRecDepth 100000 in
theorem slices_Index_int_int.calls (k : Nat) (A0 : Option Addr) (c0 : Nat) (l0 : List Int) (a1 : Int) (r : Int) (w : World) (hr0 : Kd.C (Kd.int .i64) w A0 l0.length l0) (hc0 : l0.length ≤ c0) (h : slices_Index_int_int.f k l0 a1 = some r) :
    Calls Try.prog 101 #[.slice A0 l0.length c0, .int .i64 a1] w fun e w' => e = .returned (.int .i64 r) ∧ Drawn0 w w' := by
 have HR0 := A_ hr0
 have HC0 := A_ hc0
 clear hr0 hc0
 have H : (slices_Index_int_int.l0 k l0 a1 (l0.length : Int) 0) = some r := h
 clear h
 have H' := A_ H
 clear H
 go_enter Try.func101, Try.ntmps101
 go_wp2
 go_loopg [8] k (fun kq v8 w' => ∃ (x8_1 : Int), v8 = .int .i64 x8_1 ∧ Aside0 (slices_Index_int_int.l0 kq l0 a1 (l0.length : Int) x8_1 = some r) ∧ Aside0 (kq ≤ k) ∧ Drawn0 w w')
 case atStart => exact ⟨(0), (by first | rfl | (simp; done) | (simp [*]; done)), H', ⟨Nat.le_refl _⟩, by repeat (first | exact Drawn0.refl _ | apply Drawn0.step)⟩
 case round =>
  clear H'
  try clear c1
  try clear p2
  obtain ⟨x8_1, rfl, HA, HK1, ⟨m1, rfl⟩⟩ := hrel
  cases gk with
  | zero => exact absurd HA.out (by simp [slices_Index_int_int.l0])
  | succ k1 =>
   have H := HA.out
   clear HA
   simp only [slices_Index_int_int.l0] at H
   by_cases c3 : x8_1 < (l0.length : Int)
   ·
    rw [if_pos c3] at H
    have c3b0 : decide (x8_1 < (l0.length : Int)) = true := decide_eq_true c3
    clear c3
    by_cases c4 : 0 ≤ x8_1
    ·
     rw [if_pos c4] at H
     have c4b0 : decide (0 ≤ x8_1) = true := decide_eq_true c4
     clear c4
     by_cases c5 : x8_1 < (l0.length : Int)
     ·
      rw [if_pos c5] at H
      have c5b0 : decide (x8_1 < (l0.length : Int)) = true := decide_eq_true c5
      clear c5
      by_cases c6 : a1 = (rd l0 x8_1)
      ·
       rw [if_pos c6] at H
       have c6b0 : (a1 == (rd l0 x8_1)) = true := beq_iff_eq.mpr c6
       have c6b1 : (a1 != (rd l0 x8_1)) = false := bne_eq_false_iff_eq.mpr c6
       clear c6
       obtain rfl := Option.some.inj H
       have p200 : 0 ≤ (x8_1 : Int) := of_decide_eq_true (by first | (with_reducible assumption) | assumption)
       have q200 : x8_1 < (l0.length : Int) := of_decide_eq_true (by first | (with_reducible assumption) | assumption)
       obtain ⟨ad200, e200, hx200_0⟩ := Kd.at_int HR0.out x8_1 p200 q200
       cases e200
       replace p200 := eq_true p200
       replace q200 := eq_true q200
       go_wp2
       go_ret
       exact ⟨by first | rfl | (simp; done) | (simp [*]; done), by repeat (first | exact Drawn0.refl _ | apply Drawn0.step)⟩
      ·
       rw [if_neg c6] at H
       have c6b0 : (a1 == (rd l0 x8_1)) = false := beq_eq_false_iff_ne.mpr c6
       have c6b1 : (a1 != (rd l0 x8_1)) = true := bne_iff_ne.mpr c6
       have H' := A_ H
       clear H
       have p200 : 0 ≤ (x8_1 : Int) := of_decide_eq_true (by first | (with_reducible assumption) | assumption)
       have q200 : x8_1 < (l0.length : Int) := of_decide_eq_true (by first | (with_reducible assumption) | assumption)
       obtain ⟨ad200, e200, hx200_0⟩ := Kd.at_int HR0.out x8_1 p200 q200
       cases e200
       replace p200 := eq_true p200
       replace q200 := eq_true q200
       go_wp2
       go_roundg k1
       case measure => have := HK1.out; omega
       case rel => exact ⟨(wrap64 (x8_1 + 1)), (by first | rfl | (simp; done) | (simp [*]; done)), H', ⟨by have := HK1.out; omega⟩, by repeat (first | exact Drawn0.refl _ | apply Drawn0.step)⟩
     ·
      rw [if_neg c5] at H
      exact absurd H (by simp)
    ·
     rw [if_neg c4] at H
     exact absurd H (by simp)
   ·
    rw [if_neg c3] at H
    have c3b0 : decide (x8_1 < (l0.length : Int)) = false := decide_eq_false c3
    clear c3
    obtain rfl := Option.some.inj H
    go_wp2
    go_ret
    exact ⟨by first | rfl | (simp; done) | (simp [*]; done), by repeat (first | exact Drawn0.refl _ | apply Drawn0.step)⟩

end Go.Proofs.Ytmamhnbhahafgaa.PFnLabels
