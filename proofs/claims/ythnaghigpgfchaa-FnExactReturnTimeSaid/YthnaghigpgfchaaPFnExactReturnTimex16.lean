-- Printed, and told shorter by this session's program shrink.py.
-- Printed by this session's program myprint.py.
import Derived.Test.YthnaghigpgfchaaPFnExactReturnTimex0
import Derived.Test.YthnaghigpgfchaaPFnExactReturnTimex1
import Derived.Test.YthnaghigpgfchaaPFnExactReturnTimex8
import Derived.Test.YthnaghigpgfchaaPFnExactReturnTimex15
namespace Go.Proofs.Ythnaghigpgfchaa.PFnExactReturnTime
open Go.RowKit Go.Proofs.Ythnaghigpgfchaa.Own Go.Proofs.YthnaghigpgfchaaW.PrintWords Go.Proofs.YthnaghigpgfchaaW.PrintLast Go.Proofs.YthnaghigpgfchaaW.PrintMore
attribute [local go_sem] max2_int min2_int max_two min_two max_three min_three max_four min_four   -- for this text's walks alone
set_option linter.unusedVariables false
set_option linter.unusedSimpArgs false

/-! ### laws_FnExactReturnTime: function 6 -/
def laws_FnExactReturnTime.j0 : Nat → List Int → List Int → Bool → Option (Bool)
  | 0, _, _, _ => none
  | k + 1, x1, x7, x37 => if x37 = true then (some false) else ((laws_toIntS.f k x1).bind fun t416 => ((laws_eqIntS.f k x7 t416).bind fun t419 => (if t419 = true then (some true) else (some false))))
def laws_FnExactReturnTime.f (k : Nat) (a0_0 : Int) (a0_1 : Bool) (l1 : List Int) : Option (Bool) := if (l1.length : Int) > 1048576 then (some true) else ((laws_toRoad.f a0_0 a0_1).bind fun bt402 => ((laws_toIntS.f k l1).bind fun t404 => ((spec_ReturnTime.f k bt402.1 bt402.2 t404).bind fun bt407 => ((laws_toIntS.f k l1).bind fun t409 => ((laws_toRoad.f a0_0 a0_1).bind fun bt412 => ((impl_ReturnTime.f k bt412.1 bt412.2 t409).bind fun bt414 => (if bt414.1 = bt407.1 then (laws_FnExactReturnTime.j0 k l1 t409 (bt414.2 != bt407.2)) else (laws_FnExactReturnTime.j0 k l1 t409 true))))))))
theorem laws_FnExactReturnTime.mono_l : ∀ k, (∀ y0 y1 y2, LeO (laws_FnExactReturnTime.j0 k y0 y1 y2) (laws_FnExactReturnTime.j0 (k + 1) y0 y1 y2))
  | 0 => fun _ _ _ r h => by simp [laws_FnExactReturnTime.j0] at h
  | k + 1 => by
    have ih0 := laws_FnExactReturnTime.mono_l k
    · intro y0 y1 y2
      unfold laws_FnExactReturnTime.j0
      repeat' first
      | (with_reducible exact ih0 _ _ _)
      | (with_reducible exact impl_ReturnTime.mono _ _ _ _)
      | (with_reducible exact laws_eqIntS.mono _ _ _)
      | (with_reducible exact laws_toIntS.mono _ _)
      | (with_reducible exact spec_ReturnTime.mono _ _ _ _)
      | (with_reducible exact LeO.refl _)
      | (with_reducible exact LeO.none _)
      | (with_reducible refine LeO.ite ?_ ?_)
      | (with_reducible refine LeO.bind ?_ (fun _ => ?_))
      | exact ih0 _ _ _
      | exact impl_ReturnTime.mono _ _ _ _
      | exact laws_eqIntS.mono _ _ _
      | exact laws_toIntS.mono _ _
      | exact spec_ReturnTime.mono _ _ _ _
      | exact LeO.none _
      | refine LeO.ite ?_ ?_
      | refine LeO.bind ?_ (fun _ => ?_)
theorem laws_FnExactReturnTime.mono : ∀ a0 a1 a2 k, LeO (laws_FnExactReturnTime.f k a0 a1 a2) (laws_FnExactReturnTime.f (k + 1) a0 a1 a2) := by
  intro a0 a1 a2 k
  have ih0 := laws_FnExactReturnTime.mono_l k
  unfold laws_FnExactReturnTime.f
  repeat' first
      | (with_reducible exact ih0 _ _ _)
      | (with_reducible exact impl_ReturnTime.mono _ _ _ _)
      | (with_reducible exact laws_eqIntS.mono _ _ _)
      | (with_reducible exact laws_toIntS.mono _ _)
      | (with_reducible exact spec_ReturnTime.mono _ _ _ _)
      | (with_reducible exact LeO.refl _)
      | (with_reducible exact LeO.none _)
      | (with_reducible refine LeO.ite ?_ ?_)
      | (with_reducible refine LeO.bind ?_ (fun _ => ?_))
      | exact ih0 _ _ _
      | exact impl_ReturnTime.mono _ _ _ _
      | exact laws_eqIntS.mono _ _ _
      | exact laws_toIntS.mono _ _
      | exact spec_ReturnTime.mono _ _ _ _
      | exact LeO.none _
      | refine LeO.ite ?_ ?_
      | refine LeO.bind ?_ (fun _ => ?_)
set_option maxHeartbeats 8000000 in
set_option maxRecDepth 100000 in
theorem laws_FnExactReturnTime.calls (k : Nat) (a0_0 : Int) (a0_1 : Bool) (A1 : Option Addr) (c1 : Nat) (l1 : List Int) (r : Bool) (w : World) (hr1 : Kd.C (Kd.int .i64) w A1 l1.length l1) (hc1 : l1.length ≤ c1) (h : laws_FnExactReturnTime.f k a0_0 a0_1 l1 = some r) :
    Calls Try.prog 6 #[.agg #[.int .i64 a0_0, .bool a0_1], .slice A1 l1.length c1] w fun e w' => e = .returned (.bool r) ∧ Below w.heap.size w w' := by
 have hu23 := Try.underlying23
 have HR1 := A_ hr1
 have HC1 := A_ hc1
 clear hr1 hc1
 have HB := A_ (Below.refl w.heap.size w)
 have H : (if (l1.length : Int) > 1048576 then (some true) else ((laws_toRoad.f a0_0 a0_1).bind fun bt402 => ((laws_toIntS.f k l1).bind fun t404 => ((spec_ReturnTime.f k bt402.1 bt402.2 t404).bind fun bt407 => ((laws_toIntS.f k l1).bind fun t409 => ((laws_toRoad.f a0_0 a0_1).bind fun bt412 => ((impl_ReturnTime.f k bt412.1 bt412.2 t409).bind fun bt414 => (if bt414.1 = bt407.1 then (laws_FnExactReturnTime.j0 k l1 t409 (bt414.2 != bt407.2)) else (laws_FnExactReturnTime.j0 k l1 t409 true))))))))) = some r := h
 clear h
 by_cases c3 : (l1.length : Int) > 1048576
 ·
  rw [if_pos c3] at H
  have c3b0 : decide (1048576 < (l1.length : Int)) = true := decide_eq_true c3
  have c3b1 : decide (1048576 < l1.length) = true := decide_eq_true (by omega)
  clear c3
  obtain rfl := Option.some.inj H
  go_enter Try.func6, Try.ntmps6
  go_wp2_with (first | ((with_reducible refine gate_dst (N := 2) rfl ?_); refine box_event ?hg (N := 2) ?hd (cs := #[.int .i64 a0_0, .bool a0_1]) (t := 23) ?hr ?_; (case hd => rfl); (case hg => rfl); (case hr => first | (go_simp; done) | (go_simp; rfl)); intro gb401 hg w4 hbox hb; have n0_ := A_ (below_step (hq HB) hb); have n1_ := A_ (hbox); have n2_ := A_ ((by rw [hg]; exact (below_size (hq HB)) : w.heap.size ≤ gb401)); have n3_ := A_ ((by rw [hg]; exact (below_size (hq HB)) : w.heap.size ≤ gb401)); clear HB; have HB := n0_; have BK401 := n1_; have GW401 := n2_; have GE401 := n3_; clear n0_ n1_ n2_ n3_; clear hb hbox hg))
  go_ret
  exact ⟨rt, hq HB⟩
 ·
  rw [if_neg c3] at H
  have c3b0 : decide (1048576 < (l1.length : Int)) = false := decide_eq_false c3
  have c3b1 : decide (1048576 < l1.length) = false := decide_eq_false (by omega)
  clear c3
  replace H := Option.bind_eq_some_iff.mp H
  obtain ⟨⟨t402, t403⟩, A50, H⟩ := H
  replace H : ((laws_toIntS.f k l1).bind fun t404 => ((spec_ReturnTime.f k t402 t403 t404).bind fun bt407 => ((laws_toIntS.f k l1).bind fun t409 => ((laws_toRoad.f a0_0 a0_1).bind fun bt412 => ((impl_ReturnTime.f k bt412.1 bt412.2 t409).bind fun bt414 => (if bt414.1 = bt407.1 then (laws_FnExactReturnTime.j0 k l1 t409 (bt414.2 != bt407.2)) else (laws_FnExactReturnTime.j0 k l1 t409 true))))))) = some r := H
  have A5 := A_ A50
  clear A50
  replace H := Option.bind_eq_some_iff.mp H
  obtain ⟨t404, A60, H⟩ := H
  replace H : ((spec_ReturnTime.f k t402 t403 t404).bind fun bt407 => ((laws_toIntS.f k l1).bind fun t409 => ((laws_toRoad.f a0_0 a0_1).bind fun bt412 => ((impl_ReturnTime.f k bt412.1 bt412.2 t409).bind fun bt414 => (if bt414.1 = bt407.1 then (laws_FnExactReturnTime.j0 k l1 t409 (bt414.2 != bt407.2)) else (laws_FnExactReturnTime.j0 k l1 t409 true)))))) = some r := H
  have A6 := A_ A60
  clear A60
  replace H := Option.bind_eq_some_iff.mp H
  obtain ⟨⟨t407, t408⟩, A70, H⟩ := H
  replace H : ((laws_toIntS.f k l1).bind fun t409 => ((laws_toRoad.f a0_0 a0_1).bind fun bt412 => ((impl_ReturnTime.f k bt412.1 bt412.2 t409).bind fun bt414 => (if bt414.1 = t407 then (laws_FnExactReturnTime.j0 k l1 t409 (bt414.2 != t408)) else (laws_FnExactReturnTime.j0 k l1 t409 true))))) = some r := H
  have A7 := A_ A70
  clear A70
  replace H := Option.bind_eq_some_iff.mp H
  obtain ⟨t409, A80, H⟩ := H
  replace H : ((laws_toRoad.f a0_0 a0_1).bind fun bt412 => ((impl_ReturnTime.f k bt412.1 bt412.2 t409).bind fun bt414 => (if bt414.1 = t407 then (laws_FnExactReturnTime.j0 k l1 t409 (bt414.2 != t408)) else (laws_FnExactReturnTime.j0 k l1 t409 true)))) = some r := H
  have A8 := A_ A80
  clear A80
  replace H := Option.bind_eq_some_iff.mp H
  obtain ⟨⟨t412, t413⟩, A90, H⟩ := H
  replace H : ((impl_ReturnTime.f k t412 t413 t409).bind fun bt414 => (if bt414.1 = t407 then (laws_FnExactReturnTime.j0 k l1 t409 (bt414.2 != t408)) else (laws_FnExactReturnTime.j0 k l1 t409 true))) = some r := H
  have A9 := A_ A90
  clear A90
  replace H := Option.bind_eq_some_iff.mp H
  obtain ⟨⟨t414, t415⟩, A100, H⟩ := H
  replace H : (if t414 = t407 then (laws_FnExactReturnTime.j0 k l1 t409 (t415 != t408)) else (laws_FnExactReturnTime.j0 k l1 t409 true)) = some r := H
  have A10 := A_ A100
  clear A100
  have HC11 := A_ H
  clear H
  go_enter Try.func6, Try.ntmps6
  go_upto_region 6 with (first | ((with_reducible refine gate_dst (N := 2) rfl ?_); refine box_event ?hg (N := 2) ?hd (cs := #[.int .i64 a0_0, .bool a0_1]) (t := 23) ?hr ?_; (case hd => rfl); (case hg => rfl); (case hr => first | (go_simp; done) | (go_simp; rfl)); intro gb401 hg w12 hbox hb; have n0_ := A_ (below_step (hq HB) hb); have n1_ := A_ (hbox); have n2_ := A_ ((by rw [hg]; exact (below_size (hq HB)) : w.heap.size ≤ gb401)); have n3_ := A_ ((by rw [hg]; exact (below_size (hq HB)) : w.heap.size ≤ gb401)); clear HB; have HB := n0_; have BK401 := n1_; have GW401 := n2_; have GE401 := n3_; clear n0_ n1_ n2_ n3_; clear hb hbox hg; have hcz13_0 : w12.cell? ⟨gb401, 0, none⟩ = some (.int .i64 a0_0) := bc BK401 0; have hcz13_1 : w12.cell? ⟨gb401, 1, none⟩ = some (.bool a0_1) := bc BK401 1; have hfz13_0 := blk_frozen BK401.out 0; have hfz13_1 := blk_frozen BK401.out 1) | ((with_reducible refine gate_callee (f := 8) rfl ?_); refine goesL_ (some 15) rfl rfl Try.func8 (by kernel_rfl) rfl #[.agg #[.int .i64 a0_0, .bool a0_1]] rfl gq ?_; (with_reducible refine (laws_toRoad.calls a0_0 a0_1 t402 t403 _ A5.out).mono ?_); rintro e w14 ⟨rfl, hb⟩; refine ⟨_, rfl, ?_⟩; have n0_ := A_ (blk_below (bq BK401) hb); have n1_ := A_ (below_step (hq HB) hb); clear BK401; clear HB; have BK401 := n0_; have HB := n1_; clear n0_ n1_; (try clear hb); (try clear hb2); (try clear hk); (try clear hi)) | ((with_reducible refine gate_callee (f := 9) rfl ?_); refine goesL_ (some 17) rfl rfl Try.func9 (by kernel_rfl) rfl #[.slice A1 l1.length c1] rfl gq ?_; (with_reducible refine (laws_toIntS.calls k _ _ l1 t404 _ ?side1 ?side2 A6.out).mono ?_); (case side1 => exact cq (Kd.C_below HR1.out HB.out)); (case side2 => exact HC1.out); rintro e w15 ⟨v405, rfl, ho0, hb⟩; refine ⟨_, rfl, ?_⟩; have n0_ := A_ (Kd.R_lower ho0 (below_size (hq HB))); have n1_ := A_ (blk_below (bq BK401) hb); have n2_ := A_ (below_step (hq HB) hb); clear BK401; clear HB; have HO406 := n0_; have BK401 := n1_; have HB := n2_; clear n0_ n1_ n2_; (try clear hb); (try clear hb2); (try clear hk); (try clear hi); (try clear ho0); obtain ⟨Ao16, co16, eo16⟩ := Kd.R_slice HO406.out; subst eo16) | ((with_reducible refine gate_callee (f := 18) rfl ?_); refine goesL_ (some 18) rfl rfl Try.func18 (by kernel_rfl) rfl #[.agg #[.int .i64 t402, .bool t403], .slice Ao16 t404.length co16] rfl gq ?_; (with_reducible refine (spec_ReturnTime.calls k t402 t403 _ _ t404 t407 t408 _ ?side1 ?side2 A7.out).mono ?_); (case side1 => exact cq (Kd.R_reads' HO406.out).2.2); (case side2 => exact (Kd.R_reads' HO406.out).2.1); rintro e w17 ⟨rfl, hb⟩; refine ⟨_, rfl, ?_⟩; have n0_ := A_ (Kd.R_below (rq HO406) hb); have n1_ := A_ (blk_below (bq BK401) hb); have n2_ := A_ (below_step (hq HB) hb); clear HO406; clear BK401; clear HB; have HO406 := n0_; have BK401 := n1_; have HB := n2_; clear n0_ n1_ n2_; (try clear hb); (try clear hb2); (try clear hk); (try clear hi)) | ((with_reducible refine gate_callee (f := 9) rfl ?_); refine goesL_ (some 22) rfl rfl Try.func9 (by kernel_rfl) rfl #[.slice A1 l1.length c1] rfl gq ?_; (with_reducible refine (laws_toIntS.calls k _ _ l1 t409 _ ?side1 ?side2 A8.out).mono ?_); (case side1 => exact cq (Kd.C_below HR1.out HB.out)); (case side2 => exact HC1.out); rintro e w18 ⟨v410, rfl, ho0, hb⟩; refine ⟨_, rfl, ?_⟩; have n0_ := A_ (Kd.R_elder' (rq HO406) (Kd.R_base ho0) hb); have n1_ := A_ (Kd.R_lower (Kd.R_new' ho0 (Kd.R_lt (rq HO406))) (below_size (hq HB))); have n2_ := A_ (blk_below (bq BK401) hb); have n3_ := A_ (below_step (hq HB) hb); clear HO406; clear BK401; clear HB; have HO406 := n0_; have HO411 := n1_; have BK401 := n2_; have HB := n3_; clear n0_ n1_ n2_ n3_; (try clear hb); (try clear hb2); (try clear hk); (try clear hi); (try clear ho0); have hcz19_0 : w18.cell? ⟨gb401, 0, none⟩ = some (.int .i64 a0_0) := bc BK401 0; have hcz19_1 : w18.cell? ⟨gb401, 1, none⟩ = some (.bool a0_1) := bc BK401 1; have hfz19_0 := blk_frozen BK401.out 0; have hfz19_1 := blk_frozen BK401.out 1) | ((with_reducible refine gate_callee (f := 8) rfl ?_); refine goesL_ (some 25) rfl rfl Try.func8 (by kernel_rfl) rfl #[.agg #[.int .i64 a0_0, .bool a0_1]] rfl gq ?_; (with_reducible refine (laws_toRoad.calls a0_0 a0_1 t412 t413 _ A9.out).mono ?_); rintro e w20 ⟨rfl, hb⟩; refine ⟨_, rfl, ?_⟩; have n0_ := A_ (Kd.R_below (rq HO406) hb); have n1_ := A_ (Kd.R_below (rq HO411) hb); have n2_ := A_ (blk_below (bq BK401) hb); have n3_ := A_ (below_step (hq HB) hb); clear HO406; clear HO411; clear BK401; clear HB; have HO406 := n0_; have HO411 := n1_; have BK401 := n2_; have HB := n3_; clear n0_ n1_ n2_ n3_; (try clear hb); (try clear hb2); (try clear hk); (try clear hi); obtain ⟨Ao21, co21, eo21⟩ := Kd.R_slice HO411.out; subst eo21) | ((with_reducible refine gate_callee (f := 19) rfl ?_); refine goesL_ (some 27) rfl rfl Try.func19 (by kernel_rfl) rfl #[.agg #[.int .i64 t412, .bool t413], .slice Ao21 t409.length co21] rfl gq ?_; (with_reducible refine (impl_ReturnTime.calls k t412 t413 _ _ t409 t414 t415 _ ?side1 ?side2 A10.out).mono ?_); (case side1 => exact cq (Kd.R_reads' HO411.out).2.2); (case side2 => exact (Kd.R_reads' HO411.out).2.1); rintro e w22 ⟨rfl, hb⟩; refine ⟨_, rfl, ?_⟩; have n0_ := A_ (Kd.R_below (rq HO406) hb); have n1_ := A_ (Kd.R_below (rq HO411) hb); have n2_ := A_ (blk_below (bq BK401) hb); have n3_ := A_ (below_step (hq HB) hb); clear HO406; clear HO411; clear BK401; clear HB; have HO406 := n0_; have HO411 := n1_; have BK401 := n2_; have HB := n3_; clear n0_ n1_ n2_ n3_; (try clear hb); (try clear hb2); (try clear hk); (try clear hi)))
  (try simp only [Act.put, List.setIfInBounds_toArray, List.set_cons_zero, List.set_cons_succ])
  go_cut [37] (fun v37 wc => ∃ (kq : Nat) (x37_10 : Bool), v37 = .bool x37_10 ∧ Aside0 (laws_FnExactReturnTime.j0 kq l1 t409 x37_10 = some r) ∧ Aside0 (kq ≤ k) ∧ Aside0 (Kd.R (Kd.int .i64) 3 wc w.heap.size (fun _ => True) (.slice Ao21 t409.length co21) t409) ∧ Aside0 (wc.heap[gb401]? = some (.cells #[.int .i64 a0_0, .bool a0_1] 23 (0, 0))) ∧ Aside0 (Below w.heap.size w wc))
  case first =>
   have H := HC11.out
   clear HC11
   by_cases c23 : t414 = t407
   ·
    rw [if_pos c23] at H
    have c23b0 : (t414 == t407) = true := beq_iff_eq.mpr c23
    have c23b1 : (t414 != t407) = false := bne_eq_false_iff_eq.mpr c23
    clear c23
    (first | rw [c23b0] | (simp only [i64_w, i32_w]; rw [c23b0]) | skip)
    have H' := A_ H
    clear H
    go_wp2
    go_meet
    case rel => exact ⟨_, ((t415 != t408)), (by first | rfl | (simp; done) | (simp [*]; done)), H', ⟨by first | omega | exact Nat.le_refl _⟩, ⟨by (with_reducible repeat (first | apply Kd.R_alloc | apply Kd.R_drewN | apply Kd.R_drew)); exact Kd.R_mono HO411.out (fun _ hk => trivial)⟩, ⟨bq BK401⟩, ⟨hq HB⟩⟩
   ·
    rw [if_neg c23] at H
    have c23b0 : (t414 == t407) = false := beq_eq_false_iff_ne.mpr c23
    have c23b1 : (t414 != t407) = true := bne_iff_ne.mpr c23
    (first | rw [c23b0] | (simp only [i64_w, i32_w]; rw [c23b0]) | skip)
    have H' := A_ H
    clear H
    go_wp2
    go_meet
    case rel => exact ⟨_, (true), (by first | rfl | (simp; done) | (simp [*]; done)), H', ⟨by first | omega | exact Nat.le_refl _⟩, ⟨by (with_reducible repeat (first | apply Kd.R_alloc | apply Kd.R_drewN | apply Kd.R_drew)); exact Kd.R_mono HO411.out (fun _ hk => trivial)⟩, ⟨bq BK401⟩, ⟨hq HB⟩⟩
  case rest =>
   clear HC11
   try clear c1
   try clear c2
   try clear p2
   try clear c3
   try clear c3b0
   try clear c3b1
   try clear c6
   try clear c8
   try clear c9
   try clear c18
   try clear c19
   try clear c23
   try clear c23b0
   try clear c23b1
   try clear hcz13_0
   try clear hcz13_1
   try clear hcz19_0
   try clear hcz19_1
   try clear hfz13_0
   try clear hfz13_1
   try clear hfz19_0
   try clear hfz19_1
   obtain ⟨kq, x37_10, rfl, HA, HJ10, HO_7, BK401, HB⟩ := hcut
   cases kq with
   | zero => exact absurd HA.out (by simp [laws_FnExactReturnTime.j0])
   | succ kj10 =>
    have H := HA.out
    clear HA
    simp only [laws_FnExactReturnTime.j0] at H
    by_cases c24 : x37_10 = true
    ·
     subst c24
     have H1 : (some false) = some r := by rw [if_pos rfl] at H; exact H
     clear H
     have H := H1
     clear H1
     obtain rfl := Option.some.inj H
     go_wp2
     go_ret
     exact ⟨rt, hq HB⟩
    ·
     replace c24 := Bool.eq_false_iff.mpr c24
     subst c24
     have H1 : ((laws_toIntS.f kj10 l1).bind fun t416 => ((laws_eqIntS.f kj10 t409 t416).bind fun t419 => (if t419 = true then (some true) else (some false)))) = some r := by rw [if_neg (show ¬ (false = true) by decide)] at H; exact H
     clear H
     have H := H1
     clear H1
     replace H := Option.bind_eq_some_iff.mp H
     obtain ⟨t416, A250, H⟩ := H
     replace H : ((laws_eqIntS.f kj10 t409 t416).bind fun t419 => (if t419 = true then (some true) else (some false))) = some r := H
     have A25 := A_ A250
     clear A250
     replace H := Option.bind_eq_some_iff.mp H
     obtain ⟨t419, A260, H⟩ := H
     replace H : (if t419 = true then (some true) else (some false)) = some r := H
     have A26 := A_ A260
     clear A260
     by_cases c27 : t419 = true
     ·
      subst c27
      have H1 : (some true) = some r := by rw [if_pos rfl] at H; exact H
      clear H
      have H := H1
      clear H1
      obtain rfl := Option.some.inj H
      go_wp2_with (first | ((with_reducible refine gate_callee (f := 9) rfl ?_); refine goesL_ (some 40) rfl rfl Try.func9 (by kernel_rfl) rfl #[.slice A1 l1.length c1] rfl gq ?_; (with_reducible refine (laws_toIntS.calls kj10 _ _ l1 t416 _ ?side1 ?side2 A25.out).mono ?_); (case side1 => exact cq (Kd.C_below HR1.out HB.out)); (case side2 => exact HC1.out); rintro e w28 ⟨v417, rfl, ho0, hb⟩; refine ⟨_, rfl, ?_⟩; have n0_ := A_ (Kd.R_elder' (rq HO_7) (Kd.R_base ho0) hb); have n1_ := A_ (Kd.R_lower (Kd.R_new' ho0 (Kd.R_lt (rq HO_7))) (below_size (hq HB))); have n2_ := A_ (blk_below (bq BK401) hb); have n3_ := A_ (below_step (hq HB) hb); clear HO_7; clear BK401; clear HB; have HO_7 := n0_; have HO418 := n1_; have BK401 := n2_; have HB := n3_; clear n0_ n1_ n2_ n3_; (try clear hb); (try clear hb2); (try clear hk); (try clear hi); (try clear ho0); obtain ⟨Ao29, co29, eo29⟩ := Kd.R_slice HO418.out; subst eo29) | ((with_reducible refine gate_callee (f := 11) rfl ?_); refine goesL_ (some 41) rfl rfl Try.func11 (by kernel_rfl) rfl #[.slice Ao21 t409.length co21, .slice Ao29 t416.length co29] rfl gq ?_; (with_reducible refine (laws_eqIntS.calls kj10 _ _ t409 _ _ t416 true _ ?side1 ?side2 ?side3 ?side4 A26.out).mono ?_); (case side1 => exact cq (Kd.R_reads' HO_7.out).2.2); (case side2 => exact (Kd.R_reads' HO_7.out).2.1); (case side3 => exact cq (Kd.R_reads' HO418.out).2.2); (case side4 => exact (Kd.R_reads' HO418.out).2.1); rintro e w' ⟨rfl, ⟨nd, rfl⟩⟩; refine ⟨_, rfl, ?_⟩))
      go_ret
      exact ⟨rt, hq HB⟩
     ·
      replace c27 := Bool.eq_false_iff.mpr c27
      subst c27
      have H1 : (some false) = some r := by rw [if_neg (show ¬ (false = true) by decide)] at H; exact H
      clear H
      have H := H1
      clear H1
      obtain rfl := Option.some.inj H
      go_wp2_with (first | ((with_reducible refine gate_callee (f := 9) rfl ?_); refine goesL_ (some 40) rfl rfl Try.func9 (by kernel_rfl) rfl #[.slice A1 l1.length c1] rfl gq ?_; (with_reducible refine (laws_toIntS.calls kj10 _ _ l1 t416 _ ?side1 ?side2 A25.out).mono ?_); (case side1 => exact cq (Kd.C_below HR1.out HB.out)); (case side2 => exact HC1.out); rintro e w30 ⟨v417, rfl, ho0, hb⟩; refine ⟨_, rfl, ?_⟩; have n0_ := A_ (Kd.R_elder' (rq HO_7) (Kd.R_base ho0) hb); have n1_ := A_ (Kd.R_lower (Kd.R_new' ho0 (Kd.R_lt (rq HO_7))) (below_size (hq HB))); have n2_ := A_ (blk_below (bq BK401) hb); have n3_ := A_ (below_step (hq HB) hb); clear HO_7; clear BK401; clear HB; have HO_7 := n0_; have HO418 := n1_; have BK401 := n2_; have HB := n3_; clear n0_ n1_ n2_ n3_; (try clear hb); (try clear hb2); (try clear hk); (try clear hi); (try clear ho0); obtain ⟨Ao31, co31, eo31⟩ := Kd.R_slice HO418.out; subst eo31) | ((with_reducible refine gate_callee (f := 11) rfl ?_); refine goesL_ (some 41) rfl rfl Try.func11 (by kernel_rfl) rfl #[.slice Ao21 t409.length co21, .slice Ao31 t416.length co31] rfl gq ?_; (with_reducible refine (laws_eqIntS.calls kj10 _ _ t409 _ _ t416 false _ ?side1 ?side2 ?side3 ?side4 A26.out).mono ?_); (case side1 => exact cq (Kd.R_reads' HO_7.out).2.2); (case side2 => exact (Kd.R_reads' HO_7.out).2.1); (case side3 => exact cq (Kd.R_reads' HO418.out).2.2); (case side4 => exact (Kd.R_reads' HO418.out).2.1); rintro e w' ⟨rfl, ⟨nd, rfl⟩⟩; refine ⟨_, rfl, ?_⟩))
      go_ret
      exact ⟨rt, hq HB⟩

end Go.Proofs.Ythnaghigpgfchaa.PFnExactReturnTime
