-- Printed, and told shorter by this session's program shrink.py.
-- Printed by this session's program myprint.py.
import Derived.Test.YthnaghigpgfchaaPFnExactFirstOrderx0
import Derived.Test.YthnaghigpgfchaaPFnExactFirstOrderx9
import Derived.Test.YthnaghigpgfchaaPFnExactFirstOrderx10
import Derived.Test.YthnaghigpgfchaaPFnExactFirstOrderx11
namespace Go.Proofs.Ythnaghigpgfchaa.PFnExactFirstOrder
open Go.RowKit Go.Proofs.Ythnaghigpgfchaa.Own Go.Proofs.YthnaghigpgfchaaW.PrintWords Go.Proofs.YthnaghigpgfchaaW.PrintLast Go.Proofs.YthnaghigpgfchaaW.PrintMore
attribute [local go_sem] max2_int min2_int max_two min_two max_three min_three max_four min_four   -- for this text's walks alone
set_option linter.unusedVariables false
set_option linter.unusedSimpArgs false

/-! ### impl_Road_runTime: function 51 -/
def impl_Road_runTime.f (k : Nat) (a0_0 : Int) (a0_1 : Bool) (a1 : Int) (a2 : Int) (a3 : Int) (a4 : Bool) : Option (Int) := if a4 = true then ((impl_Road_run.f k a0_0 a0_1 a2 a3).bind fun t311 => ((impl_Road_roundTrip.f k a0_0 a0_1 a1 t311).bind fun t314 => (some t314))) else ((impl_Road_run.f k a0_0 a0_1 a2 a3).bind fun t315 => ((impl_Road_tour.f k a0_0 a0_1 a1 t315).bind fun t318 => (some t318)))
theorem impl_Road_runTime.mono : ∀ a0 a1 a2 a3 a4 a5 k, LeO (impl_Road_runTime.f k a0 a1 a2 a3 a4 a5) (impl_Road_runTime.f (k + 1) a0 a1 a2 a3 a4 a5) := by
  intro a0 a1 a2 a3 a4 a5 k
  unfold impl_Road_runTime.f
  repeat' first
      | (with_reducible exact impl_Road_roundTrip.mono _ _ _ _ _)
      | (with_reducible exact impl_Road_run.mono _ _ _ _ _)
      | (with_reducible exact impl_Road_tour.mono _ _ _ _ _)
      | (with_reducible exact LeO.refl _)
      | (with_reducible exact LeO.none _)
      | (with_reducible refine LeO.ite ?_ ?_)
      | (with_reducible refine LeO.bind ?_ (fun _ => ?_))
      | exact impl_Road_roundTrip.mono _ _ _ _ _
      | exact impl_Road_run.mono _ _ _ _ _
      | exact impl_Road_tour.mono _ _ _ _ _
      | exact LeO.none _
      | refine LeO.ite ?_ ?_
      | refine LeO.bind ?_ (fun _ => ?_)
def impl_Road_runTime.T2 : Bool × List (List Nat × List Nat) := (true, [([], []), ([], []), ([], []), ([], []), ([], []), ([2, 3, 4], [2, 3, 4]), ([0, 1, 5, 5], [0, 1, 5]), ([6, 6, 0, 1, 2, 3, 4, 5, 6], [6])])
def impl_Road_runTime.B2 : List Nat := [0, 0, 0, 0, 0, 28, 63, 127]
theorem impl_Road_runTime.tab2 : rtab .any (opsOf Try.f51 2) = impl_Road_runTime.T2 := by kernel_rfl
theorem impl_Road_runTime.bits2 : waitsOk impl_Road_runTime.T2.2 impl_Road_runTime.B2 = true := by kernel_rfl
def impl_Road_runTime.T3 : Bool × List (List Nat × List Nat) := (true, [([], []), ([], []), ([], []), ([], []), ([], []), ([2, 3, 4], [2, 3, 4]), ([0, 1, 5, 5], [0, 1, 5]), ([6, 6, 0, 1, 2, 3, 4, 5, 6], [6])])
def impl_Road_runTime.B3 : List Nat := [0, 0, 0, 0, 0, 28, 63, 127]
theorem impl_Road_runTime.tab3 : rtab .any (opsOf Try.f51 3) = impl_Road_runTime.T3 := by kernel_rfl
theorem impl_Road_runTime.bits3 : waitsOk impl_Road_runTime.T3.2 impl_Road_runTime.B3 = true := by kernel_rfl
set_option maxHeartbeats 8000000 in
set_option maxRecDepth 100000 in
theorem impl_Road_runTime.calls (k : Nat) (a0_0 : Int) (a0_1 : Bool) (a1 : Int) (a2 : Int) (a3 : Int) (a4 : Bool) (r : Int) (w : World) (h : impl_Road_runTime.f k a0_0 a0_1 a1 a2 a3 a4 = some r) :
    Calls Try.prog 51 #[.agg #[.int .i64 a0_0, .bool a0_1], .int .i64 a1, .int .i64 a2, .int .i64 a3, .bool a4] w fun e w' => e = .returned (.int .i64 r) ∧ Below w.heap.size w w' := by
 have hu27 := Try.underlying27
 have HB := A_ (Below.refl w.heap.size w)
 have H : (if a4 = true then ((impl_Road_run.f k a0_0 a0_1 a2 a3).bind fun t311 => ((impl_Road_roundTrip.f k a0_0 a0_1 a1 t311).bind fun t314 => (some t314))) else ((impl_Road_run.f k a0_0 a0_1 a2 a3).bind fun t315 => ((impl_Road_tour.f k a0_0 a0_1 a1 t315).bind fun t318 => (some t318)))) = some r := h
 clear h
 by_cases c6 : a4 = true
 ·
  subst c6
  have H1 : ((impl_Road_run.f k a0_0 a0_1 a2 a3).bind fun t311 => ((impl_Road_roundTrip.f k a0_0 a0_1 a1 t311).bind fun t314 => (some t314))) = some r := by rw [if_pos rfl] at H; exact H
  clear H
  have H := H1
  clear H1
  replace H := Option.bind_eq_some_iff.mp H
  obtain ⟨t311, A70, H⟩ := H
  replace H : ((impl_Road_roundTrip.f k a0_0 a0_1 a1 t311).bind fun t314 => (some t314)) = some r := H
  have A7 := A_ A70
  clear A70
  replace H := Option.bind_eq_some_iff.mp H
  obtain ⟨t314, A80, H⟩ := H
  replace H : (some t314) = some r := H
  have A8 := A_ A80
  clear A80
  obtain rfl := Option.some.inj H
  go_enter Try.func51, Try.ntmps51
  try go_wp2_with (first | ((with_reducible refine gate_dst (N := 5) rfl ?_); refine box_event ?hg (N := 5) ?hd (cs := #[.int .i64 a0_0, .bool a0_1]) (t := 27) ?hr ?_; (case hd => rfl); (case hg => rfl); (case hr => first | (go_simp; done) | (go_simp; rfl)); intro gb310 hg w9 hbox hb; have n0_ := A_ (below_step (hq HB) hb); have n1_ := A_ (hbox); have n2_ := A_ ((by rw [hg]; exact (below_size (hq HB)) : w.heap.size ≤ gb310)); have n3_ := A_ ((by rw [hg]; exact (below_size (hq HB)) : w.heap.size ≤ gb310)); clear HB; have HB := n0_; have BK310 := n1_; have GW310 := n2_; have GE310 := n3_; clear n0_ n1_ n2_ n3_; clear hb hbox hg))
  have n0_ := A_ (blk_drew BK310.out)
  have n1_ := A_ (below_drew1 HB.out)
  clear BK310 HB; have BK310 := n0_; have HB := n1_; clear n0_ n1_
  refine start_ (n := 8) (S := fun w' => w'.cell? ⟨gb310, 0, none⟩ = some (.int .i64 a0_0) ∧ w'.cell? ⟨gb310, 1, none⟩ = some (.bool a0_1)) (ds := []) #[false, false, false, false, false, false, false, false] (by kernel_rfl) rfl rfl ⟨bc BK310 0, bc BK310 1⟩ (fun hHeld => ?_); refine with_tabW impl_Road_runTime.tab2 impl_Road_runTime.bits2 (fun HT_ HW_ => ?_)
  generalize w9.drew = w10 at BK310 HB hHeld ⊢
  refine pure_ (i := 1) (N := some 13) (v := ?_) (a' := ?_) #[false, true, false, false, false, false, false, false] rfl rfl (any_of HT_.out (by kernel_rfl)) (fun _ _ _ h => h) (Or.inl ⟨by rfl, ?_⟩) ?_ ?_
  rotate_left
  ·
   intro w'
   go_simp
   with_reducible rfl
  rotate_left
  ·
   simp only [Act.put, List.setIfInBounds_toArray, List.set_cons_zero, List.set_cons_succ, i64_w, i32_w]
   rfl
  refine pure_ (i := 3) (N := some 15) (v := ?_) (a' := ?_) #[false, true, false, true, false, false, false, false] rfl rfl (any_of HT_.out (by kernel_rfl)) (fun _ _ _ h => h) (Or.inl ⟨by rfl, ?_⟩) ?_ ?_
  rotate_left
  ·
   intro w'
   go_simp
   with_reducible rfl
  rotate_left
  ·
   simp only [Act.put, List.setIfInBounds_toArray, List.set_cons_zero, List.set_cons_succ, i64_w, i32_w]
   rfl
  refine pure_ (i := 4) (N := some 16) (v := ?_) (a' := ?_) #[false, true, false, true, true, false, false, false] rfl rfl (any_of HT_.out (by kernel_rfl)) (fun _ _ _ h => h) (Or.inl ⟨by rfl, ?_⟩) ?_ ?_
  rotate_left
  ·
   intro w'
   go_simp
   with_reducible rfl
  rotate_left
  ·
   simp only [Act.put, List.setIfInBounds_toArray, List.set_cons_zero, List.set_cons_succ, i64_w, i32_w]
   rfl
  refine take_ (i := 0) (N := some 12) (v := ?_) (a' := ?_) #[true, true, false, true, true, false, false, false] rfl rfl (take_ofW HT_.out HW_.out (by kernel_rfl)) (fun _ _ _ h => h) (Or.inl ⟨by rfl, ?_⟩) hHeld ?_ ?_
  rotate_left
  ·
   rintro w' ⟨s0, s1⟩
   go_simp
   with_reducible rfl
  rotate_left
  ·
   simp only [Act.put, List.setIfInBounds_toArray, List.set_cons_zero, List.set_cons_succ, i64_w, i32_w]
   rfl
  refine take_ (i := 2) (N := some 14) (v := ?_) (a' := ?_) #[true, true, true, true, true, false, false, false] rfl rfl (take_ofW HT_.out HW_.out (by kernel_rfl)) (fun _ _ _ h => h) (Or.inl ⟨by rfl, ?_⟩) hHeld ?_ ?_
  rotate_left
  ·
   rintro w' ⟨s0, s1⟩
   go_simp
   with_reducible rfl
  rotate_left
  ·
   simp only [Act.put, List.setIfInBounds_toArray, List.set_cons_zero, List.set_cons_succ, i64_w, i32_w]
   rfl
  refine one_ (i := 5) (N := some 17) #[true, true, true, true, true, true, false, false] rfl rfl (one_of HT_.out (by kernel_rfl)) (by decide) (fun K hK => ?_)
  refine goes_ Try.func65 (by kernel_rfl) rfl #[.agg #[.int .i64 a0_0, .bool a0_1], .int .i64 a2, .int .i64 a3] (by rfl) rfl rfl gq ?_
  with_reducible refine (impl_Road_run.calls k a0_0 a0_1 a2 a3 t311 _ A7.out).mono ?_
  rintro e w11 ⟨v312, rfl, ho0, hb⟩
  refine ⟨_, rfl, ?_⟩
  have n0_ := A_ (Kd.R_lower ho0 (below_size (hq HB)))
  have n1_ := A_ (blk_below (bq BK310) hb)
  have n2_ := A_ (below_step (hq HB) hb)
  clear BK310 HB; have HO313 := n0_; have BK310 := n1_; have HB := n2_; clear n0_ n1_ n2_; (try clear hb); (try clear hb2); (try clear hk); (try clear hi); (try clear ho0)
  obtain ⟨Ao12, co12, eo12⟩ := Kd.R_slice HO313.out
  (first | subst eo12 | (injection eo12 with f1_ f2_ f3_; have f4_ := f1_.symm; have f5_ := f3_.symm; clear f1_ f2_ f3_; subst f4_; subst f5_))
  refine hK.out _ _ ⟨bc BK310 0, bc BK310 1⟩ (fun hHeld => ?_)
  clear hK K
  refine norm_ (a' := ?_) ?_ ?_
  rotate_left
  ·
   exact pq (d := some 17)
  refine one_ (i := 6) (N := some 18) #[true, true, true, true, true, true, true, false] rfl rfl (one_of HT_.out (by kernel_rfl)) (by decide) (fun K hK => ?_)
  refine goes_ Try.func64 (by kernel_rfl) rfl #[.agg #[.int .i64 a0_0, .bool a0_1], .int .i64 a1, .slice Ao12 t311.length co12] (by rfl) rfl rfl gq ?_
  with_reducible refine (impl_Road_roundTrip.calls k a0_0 a0_1 a1 _ _ t311 t314 _ ?side1 ?side2 A8.out).mono ?_
  (case side1 => exact cq (Kd.R_reads' HO313.out).2.2)
  (case side2 => exact (Kd.R_reads' HO313.out).2.1)
  rintro e w13 ⟨rfl, hb⟩
  refine ⟨_, rfl, ?_⟩
  have n0_ := A_ (Kd.R_below (rq HO313) hb)
  have n1_ := A_ (blk_below (bq BK310) hb)
  have n2_ := A_ (below_step (hq HB) hb)
  clear HO313 BK310 HB; have HO313 := n0_; have BK310 := n1_; have HB := n2_; clear n0_ n1_ n2_; (try clear hb); (try clear hb2); (try clear hk); (try clear hi)
  refine hK.out _ _ ⟨bc BK310 0, bc BK310 1⟩ (fun hHeld => ?_)
  clear hK K
  refine norm_ (a' := ?_) ?_ ?_
  rotate_left
  ·
   exact pq (d := some 18)
  refine pure_ (i := 7) (N := some 10) (v := ?_) (a' := ?_) #[true, true, true, true, true, true, true, true] rfl rfl (any_of HT_.out (by kernel_rfl)) (fun _ _ _ h => h) (Or.inl ⟨by rfl, ?_⟩) ?_ ?_
  rotate_left
  ·
   intro w'
   go_simp
   with_reducible rfl
  rotate_left
  ·
   simp only [Act.put, List.setIfInBounds_toArray, List.set_cons_zero, List.set_cons_succ, i64_w, i32_w]
   rfl
  refine done_ (done_of HT_.out (by kernel_rfl)) ?_
  try go_wp2
  go_ret
  exact ⟨rt, hq HB⟩
 ·
  replace c6 := Bool.eq_false_iff.mpr c6
  subst c6
  have H1 : ((impl_Road_run.f k a0_0 a0_1 a2 a3).bind fun t315 => ((impl_Road_tour.f k a0_0 a0_1 a1 t315).bind fun t318 => (some t318))) = some r := by rw [if_neg (show ¬ (false = true) by decide)] at H; exact H
  clear H
  have H := H1
  clear H1
  replace H := Option.bind_eq_some_iff.mp H
  obtain ⟨t315, A140, H⟩ := H
  replace H : ((impl_Road_tour.f k a0_0 a0_1 a1 t315).bind fun t318 => (some t318)) = some r := H
  have A14 := A_ A140
  clear A140
  replace H := Option.bind_eq_some_iff.mp H
  obtain ⟨t318, A150, H⟩ := H
  replace H : (some t318) = some r := H
  have A15 := A_ A150
  clear A150
  obtain rfl := Option.some.inj H
  go_enter Try.func51, Try.ntmps51
  try go_wp2_with (first | ((with_reducible refine gate_dst (N := 5) rfl ?_); refine box_event ?hg (N := 5) ?hd (cs := #[.int .i64 a0_0, .bool a0_1]) (t := 27) ?hr ?_; (case hd => rfl); (case hg => rfl); (case hr => first | (go_simp; done) | (go_simp; rfl)); intro gb310 hg w16 hbox hb; have n0_ := A_ (below_step (hq HB) hb); have n1_ := A_ (hbox); have n2_ := A_ ((by rw [hg]; exact (below_size (hq HB)) : w.heap.size ≤ gb310)); have n3_ := A_ ((by rw [hg]; exact (below_size (hq HB)) : w.heap.size ≤ gb310)); clear HB; have HB := n0_; have BK310 := n1_; have GW310 := n2_; have GE310 := n3_; clear n0_ n1_ n2_ n3_; clear hb hbox hg))
  have n0_ := A_ (blk_drew BK310.out)
  have n1_ := A_ (below_drew1 HB.out)
  clear BK310 HB; have BK310 := n0_; have HB := n1_; clear n0_ n1_
  refine start_ (n := 8) (S := fun w' => w'.cell? ⟨gb310, 0, none⟩ = some (.int .i64 a0_0) ∧ w'.cell? ⟨gb310, 1, none⟩ = some (.bool a0_1)) (ds := []) #[false, false, false, false, false, false, false, false] (by kernel_rfl) rfl rfl ⟨bc BK310 0, bc BK310 1⟩ (fun hHeld => ?_); refine with_tabW impl_Road_runTime.tab3 impl_Road_runTime.bits3 (fun HT_ HW_ => ?_)
  generalize w16.drew = w17 at BK310 HB hHeld ⊢
  refine pure_ (i := 1) (N := some 20) (v := ?_) (a' := ?_) #[false, true, false, false, false, false, false, false] rfl rfl (any_of HT_.out (by kernel_rfl)) (fun _ _ _ h => h) (Or.inl ⟨by rfl, ?_⟩) ?_ ?_
  rotate_left
  ·
   intro w'
   go_simp
   with_reducible rfl
  rotate_left
  ·
   simp only [Act.put, List.setIfInBounds_toArray, List.set_cons_zero, List.set_cons_succ, i64_w, i32_w]
   rfl
  refine pure_ (i := 3) (N := some 22) (v := ?_) (a' := ?_) #[false, true, false, true, false, false, false, false] rfl rfl (any_of HT_.out (by kernel_rfl)) (fun _ _ _ h => h) (Or.inl ⟨by rfl, ?_⟩) ?_ ?_
  rotate_left
  ·
   intro w'
   go_simp
   with_reducible rfl
  rotate_left
  ·
   simp only [Act.put, List.setIfInBounds_toArray, List.set_cons_zero, List.set_cons_succ, i64_w, i32_w]
   rfl
  refine pure_ (i := 4) (N := some 23) (v := ?_) (a' := ?_) #[false, true, false, true, true, false, false, false] rfl rfl (any_of HT_.out (by kernel_rfl)) (fun _ _ _ h => h) (Or.inl ⟨by rfl, ?_⟩) ?_ ?_
  rotate_left
  ·
   intro w'
   go_simp
   with_reducible rfl
  rotate_left
  ·
   simp only [Act.put, List.setIfInBounds_toArray, List.set_cons_zero, List.set_cons_succ, i64_w, i32_w]
   rfl
  refine take_ (i := 0) (N := some 19) (v := ?_) (a' := ?_) #[true, true, false, true, true, false, false, false] rfl rfl (take_ofW HT_.out HW_.out (by kernel_rfl)) (fun _ _ _ h => h) (Or.inl ⟨by rfl, ?_⟩) hHeld ?_ ?_
  rotate_left
  ·
   rintro w' ⟨s0, s1⟩
   go_simp
   with_reducible rfl
  rotate_left
  ·
   simp only [Act.put, List.setIfInBounds_toArray, List.set_cons_zero, List.set_cons_succ, i64_w, i32_w]
   rfl
  refine take_ (i := 2) (N := some 21) (v := ?_) (a' := ?_) #[true, true, true, true, true, false, false, false] rfl rfl (take_ofW HT_.out HW_.out (by kernel_rfl)) (fun _ _ _ h => h) (Or.inl ⟨by rfl, ?_⟩) hHeld ?_ ?_
  rotate_left
  ·
   rintro w' ⟨s0, s1⟩
   go_simp
   with_reducible rfl
  rotate_left
  ·
   simp only [Act.put, List.setIfInBounds_toArray, List.set_cons_zero, List.set_cons_succ, i64_w, i32_w]
   rfl
  refine one_ (i := 5) (N := some 24) #[true, true, true, true, true, true, false, false] rfl rfl (one_of HT_.out (by kernel_rfl)) (by decide) (fun K hK => ?_)
  refine goes_ Try.func65 (by kernel_rfl) rfl #[.agg #[.int .i64 a0_0, .bool a0_1], .int .i64 a2, .int .i64 a3] (by rfl) rfl rfl gq ?_
  with_reducible refine (impl_Road_run.calls k a0_0 a0_1 a2 a3 t315 _ A14.out).mono ?_
  rintro e w18 ⟨v316, rfl, ho0, hb⟩
  refine ⟨_, rfl, ?_⟩
  have n0_ := A_ (Kd.R_lower ho0 (below_size (hq HB)))
  have n1_ := A_ (blk_below (bq BK310) hb)
  have n2_ := A_ (below_step (hq HB) hb)
  clear BK310 HB; have HO317 := n0_; have BK310 := n1_; have HB := n2_; clear n0_ n1_ n2_; (try clear hb); (try clear hb2); (try clear hk); (try clear hi); (try clear ho0)
  obtain ⟨Ao19, co19, eo19⟩ := Kd.R_slice HO317.out
  (first | subst eo19 | (injection eo19 with f1_ f2_ f3_; have f4_ := f1_.symm; have f5_ := f3_.symm; clear f1_ f2_ f3_; subst f4_; subst f5_))
  refine hK.out _ _ ⟨bc BK310 0, bc BK310 1⟩ (fun hHeld => ?_)
  clear hK K
  refine norm_ (a' := ?_) ?_ ?_
  rotate_left
  ·
   exact pq (d := some 24)
  refine one_ (i := 6) (N := some 25) #[true, true, true, true, true, true, true, false] rfl rfl (one_of HT_.out (by kernel_rfl)) (by decide) (fun K hK => ?_)
  refine goes_ Try.func66 (by kernel_rfl) rfl #[.agg #[.int .i64 a0_0, .bool a0_1], .int .i64 a1, .slice Ao19 t315.length co19] (by rfl) rfl rfl gq ?_
  with_reducible refine (impl_Road_tour.calls k a0_0 a0_1 a1 _ _ t315 t318 _ ?side1 ?side2 A15.out).mono ?_
  (case side1 => exact cq (Kd.R_reads' HO317.out).2.2)
  (case side2 => exact (Kd.R_reads' HO317.out).2.1)
  rintro e w20 ⟨rfl, hb⟩
  refine ⟨_, rfl, ?_⟩
  have n0_ := A_ (Kd.R_below (rq HO317) hb)
  have n1_ := A_ (blk_below (bq BK310) hb)
  have n2_ := A_ (below_step (hq HB) hb)
  clear HO317 BK310 HB; have HO317 := n0_; have BK310 := n1_; have HB := n2_; clear n0_ n1_ n2_; (try clear hb); (try clear hb2); (try clear hk); (try clear hi)
  refine hK.out _ _ ⟨bc BK310 0, bc BK310 1⟩ (fun hHeld => ?_)
  clear hK K
  refine norm_ (a' := ?_) ?_ ?_
  rotate_left
  ·
   exact pq (d := some 25)
  refine pure_ (i := 7) (N := some 10) (v := ?_) (a' := ?_) #[true, true, true, true, true, true, true, true] rfl rfl (any_of HT_.out (by kernel_rfl)) (fun _ _ _ h => h) (Or.inl ⟨by rfl, ?_⟩) ?_ ?_
  rotate_left
  ·
   intro w'
   go_simp
   with_reducible rfl
  rotate_left
  ·
   simp only [Act.put, List.setIfInBounds_toArray, List.set_cons_zero, List.set_cons_succ, i64_w, i32_w]
   rfl
  refine done_ (done_of HT_.out (by kernel_rfl)) ?_
  try go_wp2
  go_ret
  exact ⟨rt, hq HB⟩

/-! ### impl_newRuns: function 30 -/
mutual
def impl_newRuns.l0 : Nat → Bool → List Int → Int → Int → Int → Bool → Int → Bool → List (List (List Int)) → Option (Int × Bool × (List (List (List Int))))
  | 0, _, _, _, _, _, _, _, _, _ => none
  | k + 1, x2, x16, x17, x18, x320000, x320001, x322000, x322001, x322002 => if x18 < x17 then (if 0 ≤ x18 then (if x18 < (x16.length : Int) then (impl_newRuns.l1 k x2 (rd x16 x18) (([] : List (List Int))) x16 x17 x18 x320000 0 x320000 x320001 x322000 x322001 x322002) else (none)) else (none)) else (some (x322000, x322001, x322002))
def impl_newRuns.l1 : Nat → Bool → Int → List (List Int) → List Int → Int → Int → Int → Int → Int → Bool → Int → Bool → List (List (List Int)) → Option (Int × Bool × (List (List (List Int))))
  | 0, _, _, _, _, _, _, _, _, _, _, _, _, _ => none
  | k + 1, x2, x9, x10, x16, x17, x18, x24, x25, x320000, x320001, x322000, x322001, x322002 => if x25 < x24 then (impl_newRuns.l2 k x2 x9 x10 x25 (([] : List Int)) 0 x16 x17 x18 x24 x25 x320000 x320001 x322000 x322001 x322002) else (if x322002.length < 5864062014805 then (impl_newRuns.l0 k x2 x16 x17 (wrap64 (x18 + 1)) x320000 x320001 x322000 x322001 (x322002 ++ [x10])) else (none))
def impl_newRuns.l2 : Nat → Bool → Int → List (List Int) → Int → List Int → Int → List Int → Int → Int → Int → Int → Int → Bool → Int → Bool → List (List (List Int)) → Option (Int × Bool × (List (List (List Int))))
  | 0, _, _, _, _, _, _, _, _, _, _, _, _, _, _, _, _ => none
  | k + 1, x2, x9, x10, x11, x12, x13, x16, x17, x18, x24, x25, x320000, x320001, x322000, x322001, x322002 => if x13 ≤ x320000 then ((impl_Road_isRun.f k x320000 x320001 x11 x13).bind fun t332 => (if t332 = true then ((impl_Road_runTime.f k x320000 x320001 x9 x11 x13 x2).bind fun t333 => (if x12.length < 17592186044416 then (impl_newRuns.l2 k x2 x9 x10 x11 (x12 ++ [t333]) (wrap64 (x13 + 1)) x16 x17 x18 x24 x25 x320000 x320001 x322000 x322001 x322002) else (none))) else (if x10.length < 5864062014805 then (impl_newRuns.l1 k x2 x9 (x10 ++ [x12]) x16 x17 x18 x24 (wrap64 (x25 + 1)) x320000 x320001 x322000 x322001 x322002) else (none)))) else (if x10.length < 5864062014805 then (impl_newRuns.l1 k x2 x9 (x10 ++ [x12]) x16 x17 x18 x24 (wrap64 (x25 + 1)) x320000 x320001 x322000 x322001 x322002) else (none))
end
def impl_newRuns.f (k : Nat) (a0_0 : Int) (a0_1 : Bool) (l1 : List Int) (a2 : Bool) : Option (Int × Bool × (List (List (List Int)))) := impl_newRuns.l0 k a2 l1 (l1.length : Int) 0 a0_0 a0_1 a0_0 a0_1 ([] : List (List (List Int)))
theorem impl_newRuns.mono_l : ∀ k, (∀ y0 y1 y2 y3 y4 y5 y6 y7 y8, LeO (impl_newRuns.l0 k y0 y1 y2 y3 y4 y5 y6 y7 y8) (impl_newRuns.l0 (k + 1) y0 y1 y2 y3 y4 y5 y6 y7 y8)) ∧ (∀ y0 y1 y2 y3 y4 y5 y6 y7 y8 y9 y10 y11 y12, LeO (impl_newRuns.l1 k y0 y1 y2 y3 y4 y5 y6 y7 y8 y9 y10 y11 y12) (impl_newRuns.l1 (k + 1) y0 y1 y2 y3 y4 y5 y6 y7 y8 y9 y10 y11 y12)) ∧ (∀ y0 y1 y2 y3 y4 y5 y6 y7 y8 y9 y10 y11 y12 y13 y14 y15, LeO (impl_newRuns.l2 k y0 y1 y2 y3 y4 y5 y6 y7 y8 y9 y10 y11 y12 y13 y14 y15) (impl_newRuns.l2 (k + 1) y0 y1 y2 y3 y4 y5 y6 y7 y8 y9 y10 y11 y12 y13 y14 y15))
  | 0 => ⟨fun _ _ _ _ _ _ _ _ _ r h => by simp [impl_newRuns.l0] at h, fun _ _ _ _ _ _ _ _ _ _ _ _ _ r h => by simp [impl_newRuns.l1] at h, fun _ _ _ _ _ _ _ _ _ _ _ _ _ _ _ _ r h => by simp [impl_newRuns.l2] at h⟩
  | k + 1 => by
    obtain ⟨ih0, ih1, ih2⟩ := impl_newRuns.mono_l k
    refine ⟨?_, ?_, ?_⟩
    · intro y0 y1 y2 y3 y4 y5 y6 y7 y8
      unfold impl_newRuns.l0
      repeat' first
      | (with_reducible exact ih0 _ _ _ _ _ _ _ _ _)
      | (with_reducible exact ih1 _ _ _ _ _ _ _ _ _ _ _ _ _)
      | (with_reducible exact ih2 _ _ _ _ _ _ _ _ _ _ _ _ _ _ _ _)
      | (with_reducible exact impl_Road_isRun.mono _ _ _ _ _)
      | (with_reducible exact impl_Road_runTime.mono _ _ _ _ _ _ _)
      | (with_reducible exact LeO.refl _)
      | (with_reducible exact LeO.none _)
      | (with_reducible refine LeO.ite ?_ ?_)
      | (with_reducible refine LeO.bind ?_ (fun _ => ?_))
      | exact ih0 _ _ _ _ _ _ _ _ _
      | exact ih1 _ _ _ _ _ _ _ _ _ _ _ _ _
      | exact ih2 _ _ _ _ _ _ _ _ _ _ _ _ _ _ _ _
      | exact impl_Road_isRun.mono _ _ _ _ _
      | exact impl_Road_runTime.mono _ _ _ _ _ _ _
      | exact LeO.none _
      | refine LeO.ite ?_ ?_
      | refine LeO.bind ?_ (fun _ => ?_)
    · intro y0 y1 y2 y3 y4 y5 y6 y7 y8 y9 y10 y11 y12
      unfold impl_newRuns.l1
      repeat' first
      | (with_reducible exact ih0 _ _ _ _ _ _ _ _ _)
      | (with_reducible exact ih1 _ _ _ _ _ _ _ _ _ _ _ _ _)
      | (with_reducible exact ih2 _ _ _ _ _ _ _ _ _ _ _ _ _ _ _ _)
      | (with_reducible exact impl_Road_isRun.mono _ _ _ _ _)
      | (with_reducible exact impl_Road_runTime.mono _ _ _ _ _ _ _)
      | (with_reducible exact LeO.refl _)
      | (with_reducible exact LeO.none _)
      | (with_reducible refine LeO.ite ?_ ?_)
      | (with_reducible refine LeO.bind ?_ (fun _ => ?_))
      | exact ih0 _ _ _ _ _ _ _ _ _
      | exact ih1 _ _ _ _ _ _ _ _ _ _ _ _ _
      | exact ih2 _ _ _ _ _ _ _ _ _ _ _ _ _ _ _ _
      | exact impl_Road_isRun.mono _ _ _ _ _
      | exact impl_Road_runTime.mono _ _ _ _ _ _ _
      | exact LeO.none _
      | refine LeO.ite ?_ ?_
      | refine LeO.bind ?_ (fun _ => ?_)
    · intro y0 y1 y2 y3 y4 y5 y6 y7 y8 y9 y10 y11 y12 y13 y14 y15
      unfold impl_newRuns.l2
      repeat' first
      | (with_reducible exact ih0 _ _ _ _ _ _ _ _ _)
      | (with_reducible exact ih1 _ _ _ _ _ _ _ _ _ _ _ _ _)
      | (with_reducible exact ih2 _ _ _ _ _ _ _ _ _ _ _ _ _ _ _ _)
      | (with_reducible exact impl_Road_isRun.mono _ _ _ _ _)
      | (with_reducible exact impl_Road_runTime.mono _ _ _ _ _ _ _)
      | (with_reducible exact LeO.refl _)
      | (with_reducible exact LeO.none _)
      | (with_reducible refine LeO.ite ?_ ?_)
      | (with_reducible refine LeO.bind ?_ (fun _ => ?_))
      | exact ih0 _ _ _ _ _ _ _ _ _
      | exact ih1 _ _ _ _ _ _ _ _ _ _ _ _ _
      | exact ih2 _ _ _ _ _ _ _ _ _ _ _ _ _ _ _ _
      | exact impl_Road_isRun.mono _ _ _ _ _
      | exact impl_Road_runTime.mono _ _ _ _ _ _ _
      | exact LeO.none _
      | refine LeO.ite ?_ ?_
      | refine LeO.bind ?_ (fun _ => ?_)
theorem impl_newRuns.mono : ∀ a0 a1 a2 a3 k, LeO (impl_newRuns.f k a0 a1 a2 a3) (impl_newRuns.f (k + 1) a0 a1 a2 a3) := by
  intro a0 a1 a2 a3 k
  obtain ⟨ih0, ih1, ih2⟩ := impl_newRuns.mono_l k
  unfold impl_newRuns.f
  repeat' first
      | (with_reducible exact ih0 _ _ _ _ _ _ _ _ _)
      | (with_reducible exact ih1 _ _ _ _ _ _ _ _ _ _ _ _ _)
      | (with_reducible exact ih2 _ _ _ _ _ _ _ _ _ _ _ _ _ _ _ _)
      | (with_reducible exact impl_Road_isRun.mono _ _ _ _ _)
      | (with_reducible exact impl_Road_runTime.mono _ _ _ _ _ _ _)
      | (with_reducible exact LeO.refl _)
      | (with_reducible exact LeO.none _)
      | (with_reducible refine LeO.ite ?_ ?_)
      | (with_reducible refine LeO.bind ?_ (fun _ => ?_))
      | exact ih0 _ _ _ _ _ _ _ _ _
      | exact ih1 _ _ _ _ _ _ _ _ _ _ _ _ _
      | exact ih2 _ _ _ _ _ _ _ _ _ _ _ _ _ _ _ _
      | exact impl_Road_isRun.mono _ _ _ _ _
      | exact impl_Road_runTime.mono _ _ _ _ _ _ _
      | exact LeO.none _
      | refine LeO.ite ?_ ?_
      | refine LeO.bind ?_ (fun _ => ?_)
set_option maxHeartbeats 8000000 in
set_option maxRecDepth 100000 in
theorem impl_newRuns.calls (k : Nat) (a0_0 : Int) (a0_1 : Bool) (A1 : Option Addr) (c1 : Nat) (l1 : List Int) (a2 : Bool) (r1 : Int) (r2 : Bool) (r3 : List (List (List Int))) (w : World) (hr1 : Kd.C (Kd.int .i64) w A1 l1.length l1) (hc1 : l1.length ≤ c1) (h : impl_newRuns.f k a0_0 a0_1 l1 a2 = some (r1, r2, r3)) :
    Calls Try.prog 30 #[.agg #[.int .i64 a0_0, .bool a0_1], .slice A1 l1.length c1, .bool a2] w fun e w' => ∃ v2_ : Value, e = .returned (.agg #[.int .i64 r1, .bool r2, v2_]) ∧ Kd.R (Kd.slice 24 (Kd.slice 3 (Kd.int .i64))) 49 w' w.heap.size (fun _ => True) v2_ r3 ∧ Below w.heap.size w w' := by
 have hu27 := Try.underlying27
 have hu53 := Try.underlying53
 have HR1 := A_ hr1
 have HC1 := A_ hc1
 clear hr1 hc1
 have HB := A_ (Below.refl w.heap.size w)
 have H : (impl_newRuns.l0 k a2 l1 (l1.length : Int) 0 a0_0 a0_1 a0_0 a0_1 ([] : List (List (List Int)))) = some (r1, r2, r3) := h
 clear h
 have H' := A_ H
 clear H
 go_enter Try.func30, Try.ntmps30
 go_wp2_with (first | ((with_reducible refine gate_dst (N := 3) rfl ?_); refine box_event ?hg (N := 3) ?hd (cs := #[.int .i64 a0_0, .bool a0_1]) (t := 27) ?hr ?_; (case hd => rfl); (case hg => rfl); (case hr => first | (go_simp; done) | (go_simp; rfl)); intro gb319 hg w4 hbox hb; have n0_ := A_ (below_step (hq HB) hb); have n1_ := A_ (hbox); have n2_ := A_ ((by rw [hg]; exact (below_size (hq HB)) : w.heap.size ≤ gb319)); have n3_ := A_ ((by rw [hg]; exact (below_size (hq HB)) : w.heap.size ≤ gb319)); clear HB; have HB := n0_; have BK319 := n1_; have GW319 := n2_; have GE319 := n3_; clear n0_ n1_ n2_ n3_; clear hb hbox hg) | ((with_reducible refine gate_dst (N := 6) rfl ?_); refine box_event ?hg (N := 6) ?hd (cs := #[.int .i64 0, .bool false, .slice none 0 0]) (t := 53) ?hr ?_; (case hd => rfl); (case hg => rfl); (case hr => first | (go_simp; done) | (go_simp; rfl)); intro gb320 hg w5 hbox hb; have n0_ := A_ (blk_below (bq BK319) hb); have n1_ := A_ (below_step (hq HB) hb); have n2_ := A_ (hbox); have n3_ := A_ ((by rw [hg]; exact (below_size (hq HB)) : w.heap.size ≤ gb320)); have n4_ := A_ ((by rw [hg]; exact (below_size (hq HB)) : w.heap.size ≤ gb320)); have n5_ := A_ ((by rw [hg]; exact Nat.ne_of_lt (blk_lt (bq BK319)) : gb319 ≠ gb320)); have n6_ := A_ ((by rw [hg]; exact Nat.ne_of_gt (blk_lt (bq BK319)) : gb320 ≠ gb319)); clear BK319; clear HB; have BK319 := n0_; have HB := n1_; have BK320 := n2_; have GW320 := n3_; have GE320 := n4_; have NB319_320 := n5_; have NB320_319 := n6_; clear n0_ n1_ n2_ n3_ n4_ n5_ n6_; clear hb hbox hg; have hnb6 := NB319_320.out; have hnc6 := NB320_319.out; have hcz7_0 : w5.cell? ⟨gb319, 0, none⟩ = some (.int .i64 a0_0) := bc BK319 0; have hcz7_1 : w5.cell? ⟨gb319, 1, none⟩ = some (.bool a0_1) := bc BK319 1; have hfz7_0 := blk_frozen BK319.out 0; have hfz7_1 := blk_frozen BK319.out 1) | ((with_reducible refine gate_dst (N := 7) rfl ?_); refine box_event ?hg (N := 7) ?hd (cs := #[.int .i64 0, .bool false, .slice none 0 0]) (t := 53) ?hr ?_; (case hd => rfl); (case hg => rfl); (case hr => first | (go_simp; done) | (go_simp; rfl)); intro gb321 hg w8 hbox hb; have n0_ := A_ (blk_below (bq BK319) hb); have n1_ := A_ (blk_below (bq BK320) hb); have n2_ := A_ (below_step (hq HB) hb); have n3_ := A_ (hbox); have n4_ := A_ ((by rw [hg]; exact (below_size (hq HB)) : w.heap.size ≤ gb321)); have n5_ := A_ ((by rw [hg]; exact (below_size (hq HB)) : w.heap.size ≤ gb321)); have n6_ := A_ ((by rw [hg]; exact Nat.ne_of_lt (blk_lt (bq BK319)) : gb319 ≠ gb321)); have n7_ := A_ ((by rw [hg]; exact Nat.ne_of_gt (blk_lt (bq BK319)) : gb321 ≠ gb319)); have n8_ := A_ ((by rw [hg]; exact Nat.ne_of_lt (blk_lt (bq BK320)) : gb320 ≠ gb321)); have n9_ := A_ ((by rw [hg]; exact Nat.ne_of_gt (blk_lt (bq BK320)) : gb321 ≠ gb320)); clear BK319; clear BK320; clear HB; have BK319 := n0_; have BK320 := n1_; have HB := n2_; have BK321 := n3_; have GW321 := n4_; have GE321 := n5_; have NB319_321 := n6_; have NB321_319 := n7_; have NB320_321 := n8_; have NB321_320 := n9_; clear n0_ n1_ n2_ n3_ n4_ n5_ n6_ n7_ n8_ n9_; clear hb hbox hg; have hnb9 := NB321_319.out; have hnc9 := NB319_321.out; have hnb10 := NB321_320.out; have hnc10 := NB320_321.out; have hcz11_0 : w8.cell? ⟨gb321, 0, none⟩ = some (.int .i64 0) := bc BK321 0; have hcz11_1 : w8.cell? ⟨gb321, 1, none⟩ = some (.bool false) := bc BK321 1; have hcz11_2 : w8.cell? ⟨gb321, 2, none⟩ = some (.slice none 0 0) := bc BK321 2; have hfz11_0 := blk_frozen BK321.out 0; have hfz11_1 := blk_frozen BK321.out 1; have hfz11_2 := blk_frozen BK321.out 2))
 go_loopg [18] k (fun kq v18 w' => ∃ (x18_1 : Int) (x322002_1 : List (List (List Int))) (u322002 : Value), v18 = .int .i64 x18_1 ∧ Aside0 (impl_newRuns.l0 kq a2 l1 (l1.length : Int) x18_1 a0_0 a0_1 a0_0 a0_1 x322002_1 = some (r1, r2, r3)) ∧ Aside0 (kq ≤ k) ∧ Aside0 (Kd.R (Kd.slice 24 (Kd.slice 3 (Kd.int .i64))) 49 w' w.heap.size (fun _ => True) u322002 x322002_1) ∧ Aside0 (w'.heap[gb319]? = some (.cells #[.int .i64 a0_0, .bool a0_1] 27 (0, 0))) ∧ Aside0 (w'.heap[gb320]? = some (.cells #[.int .i64 0, .bool false, (.slice none 0 0)] 53 (0, 0))) ∧ Aside0 (w'.heap[gb321]? = some (.cells #[.int .i64 a0_0, .bool a0_1, u322002] 53 (0, 0))) ∧ Aside0 (Below w.heap.size w w'))
 case atStart => exact ⟨(0), (([] : List (List (List Int)))), (.slice none 0 0), (by first | rfl | (simp; done) | (simp [*]; done)), H', ⟨Nat.le_refl _⟩, ⟨by first | exact Kd.R_nil _ _ _ _ _ | exact Kd.N_nil _ _ _ _ _ | exact Kd.V_nil _ _ _ _ _ | exact Kd.Q_nil _ _ _ _ _ | exact Kd.S_nil _ _ _ _ _⟩, ⟨by (with_reducible repeat (first | refine blk_drewN ?_ _ | refine blk_drew ?_ | refine blk_alloc ?_ _)); refine blk_far ?_ NB319_321.out _; (with_reducible repeat (first | refine blk_drewN ?_ _ | refine blk_drew ?_ | refine blk_alloc ?_ _)); refine blk_far ?_ NB319_321.out _; (with_reducible repeat (first | refine blk_drewN ?_ _ | refine blk_drew ?_ | refine blk_alloc ?_ _)); refine blk_far ?_ NB319_321.out _; (with_reducible repeat (first | refine blk_drewN ?_ _ | refine blk_drew ?_ | refine blk_alloc ?_ _)); exact BK319.out⟩, ⟨by (with_reducible repeat (first | refine blk_drewN ?_ _ | refine blk_drew ?_ | refine blk_alloc ?_ _)); refine blk_far ?_ NB320_321.out _; (with_reducible repeat (first | refine blk_drewN ?_ _ | refine blk_drew ?_ | refine blk_alloc ?_ _)); refine blk_far ?_ NB320_321.out _; (with_reducible repeat (first | refine blk_drewN ?_ _ | refine blk_drew ?_ | refine blk_alloc ?_ _)); refine blk_far ?_ NB320_321.out _; (with_reducible repeat (first | refine blk_drewN ?_ _ | refine blk_drew ?_ | refine blk_alloc ?_ _)); exact BK320.out⟩, ⟨by (with_reducible repeat (first | refine blk_drewN ?_ _ | refine blk_drew ?_ | refine blk_alloc ?_ _)); refine blk_put (cs := #[.int .i64 a0_0, .bool a0_1, .slice none 0 0]) ?_ 2 _ rfl; (with_reducible repeat (first | refine blk_drewN ?_ _ | refine blk_drew ?_ | refine blk_alloc ?_ _)); refine blk_put (cs := #[.int .i64 a0_0, .bool false, .slice none 0 0]) ?_ 1 _ rfl; (with_reducible repeat (first | refine blk_drewN ?_ _ | refine blk_drew ?_ | refine blk_alloc ?_ _)); refine blk_put (cs := #[.int .i64 0, .bool false, .slice none 0 0]) ?_ 0 _ rfl; (with_reducible repeat (first | refine blk_drewN ?_ _ | refine blk_drew ?_ | refine blk_alloc ?_ _)); exact BK321.out⟩, ⟨hq HB⟩⟩
 case round =>
  clear H'
  try clear c1
  try clear p2
  try clear c3
  try clear c6
  try clear c9
  try clear c10
  try clear hcz11_0
  try clear hcz11_1
  try clear hcz11_2
  try clear hcz7_0
  try clear hcz7_1
  try clear hfz11_0
  try clear hfz11_1
  try clear hfz11_2
  try clear hfz7_0
  try clear hfz7_1
  obtain ⟨x18_1, x322002_1, u322002, rfl, HA, HK1, HO_322002, BK319, BK320, BK321, HB⟩ := hrel
  cases gk with
  | zero => exact absurd HA.out (by simp [impl_newRuns.l0])
  | succ k1 =>
   have H := HA.out
   clear HA
   simp only [impl_newRuns.l0] at H
   by_cases c12 : x18_1 < (l1.length : Int)
   ·
    rw [if_pos c12] at H
    have c12b0 : decide (x18_1 < (l1.length : Int)) = true := decide_eq_true c12
    clear c12
    by_cases c13 : 0 ≤ x18_1
    ·
     rw [if_pos c13] at H
     have c13b0 : decide (0 ≤ x18_1) = true := decide_eq_true c13
     clear c13
     by_cases c14 : x18_1 < (l1.length : Int)
     ·
      rw [if_pos c14] at H
      have c14b0 : decide (x18_1 < (l1.length : Int)) = true := decide_eq_true c14
      clear c14
      obtain ⟨y323, hy323⟩ : ∃ y_ : List (List Int), y_ = (([] : List (List Int))) := ⟨_, rfl⟩
      replace H : (impl_newRuns.l1 k1 a2 (rd l1 x18_1) y323 l1 (l1.length : Int) x18_1 a0_0 0 a0_0 a0_1 a0_0 a0_1 x322002_1) = some (r1, r2, r3) := by first | (rw [hy323]; with_reducible exact H) | (have H2_ := (Option.bind_some _ _).symm.trans H; rw [hy323]; with_reducible exact H2_) | (have H2_ := (Option.bind_some _ _).symm.trans H; with_reducible exact H2_) | with_reducible exact H | (rw [hy323]; exact H) | exact H
      have Ny323 := A_ hy323
      clear hy323
      have H' := A_ H
      clear H
      have p322 : 0 ≤ (x18_1 : Int) := of_decide_eq_true (by first | (with_reducible assumption) | assumption)
      have q322 : x18_1 < (l1.length : Int) := of_decide_eq_true (by first | (with_reducible assumption) | assumption)
      obtain ⟨ad322, e322, hx322_0⟩ := Kd.at_int HR1.out x18_1 p322 q322
      cases e322
      replace hx322_0 := (HB.out.cell (World.block_lt_of_cell? w _ hx322_0)).trans hx322_0
      replace p322 := eq_true p322
      replace q322 := eq_true q322
      go_wp2_with (first | ((with_reducible refine gate_dst (N := 22) rfl ?_); refine Kd.S_lit (Kd.slice 3 (Kd.int .i64)) _ 24 ?hg (N := 22) ?hd (xs := ([] : List (List Int))) (inner := []) (ok := fun _ => True) (okp := fun _ => True) ?hr ?hp (fun _ hk => hk) trivial (Below.refl _ _) (Nat.le_refl _) (by simp) ?_; (case hd => rfl); (case hg => rfl); (case hr => first | (go_simp; done) | (go_simp; rfl)); (case hp => exact (Reps.none _ _)); intro v324 w15 ho16 hb hg_ hnew_; clear hg_ hnew_; (first | rw [← Ny323.out] at ho16 | (simp only [Int.reduceToNat] at ho16; rw [← Ny323.out] at ho16)); have n0_ := A_ (Kd.R_elder' (rq HO_322002) (Kd.S_base ho16) hb); have n1_ := A_ (Kd.S_lower ho16 (below_size (hq HB))); have n2_ := A_ (blk_below (bq BK319) hb); have n3_ := A_ (blk_below (bq BK320) hb); have n4_ := A_ (blk_below (bq BK321) hb); have n5_ := A_ (below_step (hq HB) hb); clear HO_322002; clear BK319; clear BK320; clear BK321; clear HB; have HO_322002 := n0_; have HO325 := n1_; have BK319 := n2_; have BK320 := n3_; have BK321 := n4_; have HB := n5_; clear n0_ n1_ n2_ n3_ n4_ n5_; clear hb ho16; have hnb17 := NB319_320.out; have hnc17 := NB320_319.out; have hnb18 := NB319_321.out; have hnc18 := NB321_319.out; have hcz19_0 : w15.cell? ⟨gb319, 0, none⟩ = some (.int .i64 a0_0) := bc BK319 0; have hcz19_1 : w15.cell? ⟨gb319, 1, none⟩ = some (.bool a0_1) := bc BK319 1; have hfz19_0 := blk_frozen BK319.out 0; have hfz19_1 := blk_frozen BK319.out 1))
      go_loopg [10, 25] k1 (fun kq v10 v25 w' => ∃ (x10_2 : List (List Int)) (x25_2 : Int), v25 = .int .i64 x25_2 ∧ Aside0 (impl_newRuns.l1 kq a2 (rd l1 x18_1) x10_2 l1 (l1.length : Int) x18_1 a0_0 x25_2 a0_0 a0_1 a0_0 a0_1 x322002_1 = some (r1, r2, r3)) ∧ Aside0 (kq ≤ k1) ∧ Aside0 (Kd.S (Kd.slice 3 (Kd.int .i64)) 24 w' w.heap.size (fun _ => True) v10 x10_2) ∧ Aside0 (Kd.R (Kd.slice 24 (Kd.slice 3 (Kd.int .i64))) 49 w' w.heap.size (fun k_ => some k_ ≠ (v10 : Value).ownBlock) u322002 x322002_1) ∧ Aside0 (w'.heap[gb319]? = some (.cells #[.int .i64 a0_0, .bool a0_1] 27 (0, 0))) ∧ Aside0 (w'.heap[gb320]? = some (.cells #[.int .i64 0, .bool false, (.slice none 0 0)] 53 (0, 0))) ∧ Aside0 (w'.heap[gb321]? = some (.cells #[.int .i64 a0_0, .bool a0_1, u322002] 53 (0, 0))) ∧ Aside0 (Below w.heap.size w w'))
      case atStart => exact ⟨(y323), (0), (by first | rfl | (simp; done) | (simp [*]; done)), H', ⟨Nat.le_refl _⟩, ⟨sq HO325⟩, ⟨by (with_reducible repeat (first | apply Kd.R_alloc | apply Kd.R_drewN | apply Kd.R_drew)); exact Kd.R_mono HO_322002.out (fun _ hk => hk.2)⟩, ⟨bq BK319⟩, ⟨bq BK320⟩, ⟨bq BK321⟩, ⟨hq HB⟩⟩
      case round =>
       clear H'
       try clear c1
       try clear p2
       try clear c3
       try clear p3
       try clear q3
       try clear hx3
       try clear c6
       try clear c9
       try clear c10
       try clear c12
       try clear c12b0
       try clear c13
       try clear c13b0
       try clear c14
       try clear c14b0
       try clear c17
       try clear c18
       try clear hcz11_0
       try clear hcz11_1
       try clear hcz11_2
       try clear hcz19_0
       try clear hcz19_1
       try clear hcz7_0
       try clear hcz7_1
       try clear hfz11_0
       try clear hfz11_1
       try clear hfz11_2
       try clear hfz19_0
       try clear hfz19_1
       try clear hfz7_0
       try clear hfz7_1
       try clear hx322_0
       try clear p2
       try clear p322
       try clear q322
       obtain ⟨x10_2, x25_2, rfl, HA, HK2, HO_10, HO_322002, BK319, BK320, BK321, HB⟩ := hrel
       cases gk with
       | zero => exact absurd HA.out (by simp [impl_newRuns.l1])
       | succ k2 =>
        have H := HA.out
        clear HA
        simp only [impl_newRuns.l1] at H
        by_cases c20 : x25_2 < a0_0
        ·
         rw [if_pos c20] at H
         have c20b0 : decide (x25_2 < a0_0) = true := decide_eq_true c20
         clear c20
         obtain ⟨y329, hy329⟩ : ∃ y_ : List Int, y_ = (([] : List Int)) := ⟨_, rfl⟩
         replace H : (impl_newRuns.l2 k2 a2 (rd l1 x18_1) x10_2 x25_2 y329 0 l1 (l1.length : Int) x18_1 a0_0 x25_2 a0_0 a0_1 a0_0 a0_1 x322002_1) = some (r1, r2, r3) := by first | (rw [hy329]; with_reducible exact H) | (have H2_ := (Option.bind_some _ _).symm.trans H; rw [hy329]; with_reducible exact H2_) | (have H2_ := (Option.bind_some _ _).symm.trans H; with_reducible exact H2_) | with_reducible exact H | (rw [hy329]; exact H) | exact H
         have Ny329 := A_ hy329
         clear hy329
         have H' := A_ H
         clear H
         go_wp2_with (first | ((with_reducible refine gate_dst (N := 28) rfl ?_); refine Kd.R_lit (Kd.int .i64) _ 3 ?hg (N := 28) ?hd (xs := ([] : List Int)) (inner := []) (ok := fun _ => True) (okp := fun _ => True) ?hr ?hp (fun _ hk => hk) trivial (Below.refl _ _) (Nat.le_refl _) (by simp) ?_; (case hd => rfl); (case hg => rfl); (case hr => first | (go_simp; done) | (go_simp; rfl)); (case hp => exact (Reps.none _ _)); intro v330 w21 ho22 hb hg_ hnew_; clear hg_ hnew_; (first | rw [← Ny329.out] at ho22 | (simp only [Int.reduceToNat] at ho22; rw [← Ny329.out] at ho22)); have n0_ := A_ (Kd.S_elder' (sq HO_10) (Kd.R_base ho22) hb); have n1_ := A_ (Kd.R_elder' (rq HO_322002) (Kd.R_base ho22) hb); have n2_ := A_ (Kd.R_lower ho22 (below_size (hq HB))); have n3_ := A_ (blk_below (bq BK319) hb); have n4_ := A_ (blk_below (bq BK320) hb); have n5_ := A_ (blk_below (bq BK321) hb); have n6_ := A_ (below_step (hq HB) hb); clear HO_10; clear HO_322002; clear BK319; clear BK320; clear BK321; clear HB; have HO_10 := n0_; have HO_322002 := n1_; have HO331 := n2_; have BK319 := n3_; have BK320 := n4_; have BK321 := n5_; have HB := n6_; clear n0_ n1_ n2_ n3_ n4_ n5_ n6_; clear hb ho22))
         go_loopg [12, 13] k2 (fun kq v12 v13 w' => ∃ (x12_3 : List Int) (x13_3 : Int), v13 = .int .i64 x13_3 ∧ Aside0 (impl_newRuns.l2 kq a2 (rd l1 x18_1) x10_2 x25_2 x12_3 x13_3 l1 (l1.length : Int) x18_1 a0_0 x25_2 a0_0 a0_1 a0_0 a0_1 x322002_1 = some (r1, r2, r3)) ∧ Aside0 (kq ≤ k2) ∧ Aside0 (Kd.S (Kd.slice 3 (Kd.int .i64)) 24 w' w.heap.size (fun k_ => some k_ ≠ (v12 : Value).ownBlock) u10 x10_2) ∧ Aside0 (Kd.R (Kd.int .i64) 3 w' w.heap.size (fun _ => True) v12 x12_3) ∧ Aside0 (Kd.R (Kd.slice 24 (Kd.slice 3 (Kd.int .i64))) 49 w' w.heap.size (fun k_ => some k_ ≠ (u10 : Value).ownBlock ∧ some k_ ≠ (v12 : Value).ownBlock) u322002 x322002_1) ∧ Aside0 (w'.heap[gb319]? = some (.cells #[.int .i64 a0_0, .bool a0_1] 27 (0, 0))) ∧ Aside0 (w'.heap[gb320]? = some (.cells #[.int .i64 0, .bool false, (.slice none 0 0)] 53 (0, 0))) ∧ Aside0 (w'.heap[gb321]? = some (.cells #[.int .i64 a0_0, .bool a0_1, u322002] 53 (0, 0))) ∧ Aside0 (Below w.heap.size w w'))
         case atStart => exact ⟨(y329), (0), (by first | rfl | (simp; done) | (simp [*]; done)), H', ⟨Nat.le_refl _⟩, ⟨by (with_reducible repeat (first | apply Kd.S_alloc | apply Kd.S_drewN | apply Kd.S_drew)); exact Kd.S_mono HO_10.out (fun _ hk => hk.2)⟩, ⟨rq HO331⟩, ⟨rq HO_322002⟩, ⟨bq BK319⟩, ⟨bq BK320⟩, ⟨bq BK321⟩, ⟨hq HB⟩⟩
         case round =>
          clear H'
          try clear c1
          try clear c2
          try clear p2
          try clear c3
          try clear p3
          try clear q3
          try clear hx3
          try clear c6
          try clear c9
          try clear c10
          try clear c12
          try clear c12b0
          try clear c13
          try clear c13b0
          try clear c14
          try clear c14b0
          try clear c17
          try clear c18
          try clear c20
          try clear c20b0
          try clear hcz11_0
          try clear hcz11_1
          try clear hcz11_2
          try clear hcz19_0
          try clear hcz19_1
          try clear hcz7_0
          try clear hcz7_1
          try clear hfz11_0
          try clear hfz11_1
          try clear hfz11_2
          try clear hfz19_0
          try clear hfz19_1
          try clear hfz7_0
          try clear hfz7_1
          try clear hx322_0
          try clear p2
          try clear p3
          try clear p322
          try clear q3
          try clear q322
          obtain ⟨x12_3, x13_3, rfl, HA, HK3, HO_10, HO_12, HO_322002, BK319, BK320, BK321, HB⟩ := hrel
          cases gk with
          | zero => exact absurd HA.out (by simp [impl_newRuns.l2])
          | succ k3 =>
           have H := HA.out
           clear HA
           simp only [impl_newRuns.l2] at H
           by_cases c23 : x13_3 ≤ a0_0
           ·
            rw [if_pos c23] at H
            have c23b0 : decide (x13_3 ≤ a0_0) = true := decide_eq_true c23
            clear c23
            replace H := Option.bind_eq_some_iff.mp H
            obtain ⟨t332, A240, H⟩ := H
            replace H : (if t332 = true then ((impl_Road_runTime.f k3 a0_0 a0_1 (rd l1 x18_1) x25_2 x13_3 a2).bind fun t333 => (if x12_3.length < 17592186044416 then (impl_newRuns.l2 k3 a2 (rd l1 x18_1) x10_2 x25_2 (x12_3 ++ [t333]) (wrap64 (x13_3 + 1)) l1 (l1.length : Int) x18_1 a0_0 x25_2 a0_0 a0_1 a0_0 a0_1 x322002_1) else (none))) else (if x10_2.length < 5864062014805 then (impl_newRuns.l1 k3 a2 (rd l1 x18_1) (x10_2 ++ [x12_3]) l1 (l1.length : Int) x18_1 a0_0 (wrap64 (x25_2 + 1)) a0_0 a0_1 a0_0 a0_1 x322002_1) else (none))) = some (r1, r2, r3) := H
            have A24 := A_ A240
            clear A240
            by_cases c25 : t332 = true
            ·
             subst c25
             have H1 : ((impl_Road_runTime.f k3 a0_0 a0_1 (rd l1 x18_1) x25_2 x13_3 a2).bind fun t333 => (if x12_3.length < 17592186044416 then (impl_newRuns.l2 k3 a2 (rd l1 x18_1) x10_2 x25_2 (x12_3 ++ [t333]) (wrap64 (x13_3 + 1)) l1 (l1.length : Int) x18_1 a0_0 x25_2 a0_0 a0_1 a0_0 a0_1 x322002_1) else (none))) = some (r1, r2, r3) := by rw [if_pos rfl] at H; exact H
             clear H
             have H := H1
             clear H1
             replace H := Option.bind_eq_some_iff.mp H
             obtain ⟨t333, A260, H⟩ := H
             replace H : (if x12_3.length < 17592186044416 then (impl_newRuns.l2 k3 a2 (rd l1 x18_1) x10_2 x25_2 (x12_3 ++ [t333]) (wrap64 (x13_3 + 1)) l1 (l1.length : Int) x18_1 a0_0 x25_2 a0_0 a0_1 a0_0 a0_1 x322002_1) else (none)) = some (r1, r2, r3) := H
             have A26 := A_ A260
             clear A260
             by_cases c27 : x12_3.length < 17592186044416
             ·
              rw [if_pos c27] at H
              have LMc27 := A_ c27
              clear c27
              obtain ⟨y334, hy334⟩ : ∃ y_ : List Int, y_ = (x12_3 ++ [t333]) := ⟨_, rfl⟩
              replace H : (impl_newRuns.l2 k3 a2 (rd l1 x18_1) x10_2 x25_2 y334 (wrap64 (x13_3 + 1)) l1 (l1.length : Int) x18_1 a0_0 x25_2 a0_0 a0_1 a0_0 a0_1 x322002_1) = some (r1, r2, r3) := by first | (rw [hy334]; with_reducible exact H) | (have H2_ := (Option.bind_some _ _).symm.trans H; rw [hy334]; with_reducible exact H2_) | (have H2_ := (Option.bind_some _ _).symm.trans H; with_reducible exact H2_) | with_reducible exact H | (rw [hy334]; exact H) | exact H
              have Ny334 := A_ hy334
              clear hy334
              have H' := A_ H
              clear H
              have hnb28 := NB319_320.out
              have hnc28 := NB320_319.out
              have hnb29 := NB319_321.out
              have hnc29 := NB321_319.out
              have hcz30_0 : wr.cell? ⟨gb319, 0, none⟩ = some (.int .i64 a0_0) := bc BK319 0
              have hcz30_1 : wr.cell? ⟨gb319, 1, none⟩ = some (.bool a0_1) := bc BK319 1
              have hfz30_0 := blk_frozen BK319.out 0
              have hfz30_1 := blk_frozen BK319.out 1
              go_wp2_with (first | (go_at_call 50; (with_reducible refine (impl_Road_isRun.calls k3 a0_0 a0_1 x25_2 x13_3 true _ A24.out).mono ?_); rintro e w31 ⟨rfl, hb⟩; have n0_ := A_ (Kd.S_below (sq HO_10) hb); have n1_ := A_ (Kd.R_below (rq HO_12) hb); have n2_ := A_ (Kd.R_below (rq HO_322002) hb); have n3_ := A_ (blk_below (bq BK319) hb); have n4_ := A_ (blk_below (bq BK320) hb); have n5_ := A_ (blk_below (bq BK321) hb); have n6_ := A_ (below_step (hq HB) hb); clear HO_10; clear HO_12; clear HO_322002; clear BK319; clear BK320; clear BK321; clear HB; have HO_10 := n0_; have HO_12 := n1_; have HO_322002 := n2_; have BK319 := n3_; have BK320 := n4_; have BK321 := n5_; have HB := n6_; clear n0_ n1_ n2_ n3_ n4_ n5_ n6_; (try clear hb); (try clear hb2); (try clear hk); (try clear hi); have hcz32_0 : w31.cell? ⟨gb319, 0, none⟩ = some (.int .i64 a0_0) := bc BK319 0; have hcz32_1 : w31.cell? ⟨gb319, 1, none⟩ = some (.bool a0_1) := bc BK319 1; have hfz32_0 := blk_frozen BK319.out 0; have hfz32_1 := blk_frozen BK319.out 1) | ((with_reducible refine gate_callee (f := 51) rfl ?_); refine goesL_ (some 47) rfl rfl Try.func51 (by kernel_rfl) rfl #[.agg #[.int .i64 a0_0, .bool a0_1], .int .i64 (rd l1 x18_1), .int .i64 x25_2, .int .i64 x13_3, .bool a2] rfl gq ?_; (with_reducible refine (impl_Road_runTime.calls k3 a0_0 a0_1 (rd l1 x18_1) x25_2 x13_3 a2 t333 _ A26.out).mono ?_); rintro e w33 ⟨rfl, hb⟩; refine ⟨_, rfl, ?_⟩; have n0_ := A_ (Kd.S_below (sq HO_10) hb); have n1_ := A_ (Kd.R_below (rq HO_12) hb); have n2_ := A_ (Kd.R_below (rq HO_322002) hb); have n3_ := A_ (blk_below (bq BK319) hb); have n4_ := A_ (blk_below (bq BK320) hb); have n5_ := A_ (blk_below (bq BK321) hb); have n6_ := A_ (below_step (hq HB) hb); clear HO_10; clear HO_12; clear HO_322002; clear BK319; clear BK320; clear BK321; clear HB; have HO_10 := n0_; have HO_12 := n1_; have HO_322002 := n2_; have BK319 := n3_; have BK320 := n4_; have BK321 := n5_; have HB := n6_; clear n0_ n1_ n2_ n3_ n4_ n5_ n6_; (try clear hb); (try clear hb2); (try clear hk); (try clear hi)) | ((with_reducible refine gate_builtin (b := .append) (xs := #[.tmp 41, .tmp 48]) rfl ?_); at_builtin; refine Kd.R_append (Kd.int .i64) (w0 := w) w.heap.size rfl (.tmp 41) (.tmp 48) 24 3 (.int .i64 0) 8 rfl Try.underlying24 info3 rfl (by decide) (by omega) u12 x12_3 t333 [.int .i64 t333] (fun _ => True) (fun _ => False) rfl rfl ?aP (fun _ hk => hk.elim) ?aF ?aO ?aB ?aS ?aL ?_; (case aP => exact rfl); (case aB => exact (hq HB)); (case aF => exact (fun _ _ => trivial)); (case aO => exact (rq HO_12)); (case aS => exact (below_size (hq HB))); (case aL => have := LMc27.out; omega); intro v335 w34 ho hb hg hat; rw [← Ny334.out] at ho; have n0_ := A_ (Kd.S_after (ok := (fun _ => True)) (by (with_reducible repeat (first | apply Kd.S_alloc | apply Kd.S_drewN | apply Kd.S_drew)); exact Kd.S_mono HO_10.out (fun _ hk => ⟨trivial, hk⟩)) hg hat); have n1_ := A_ (Kd.R_after (ok := (fun k_ => some k_ ≠ (u10 : Value).ownBlock)) (rq HO_322002) hg hat); have n2_ := A_ (blk_grown (g := gb319) (o := .cells #[.int .i64 a0_0, .bool a0_1] 27 (0, 0)) (bq BK319) hg (Kd.R_ne HO_12.out BK319.out (by decide))); have n3_ := A_ (blk_grown (g := gb320) (o := .cells #[.int .i64 0, .bool false, .slice none 0 0] 53 (0, 0)) (bq BK320) hg (Kd.R_ne HO_12.out BK320.out (by decide))); have n4_ := A_ (blk_grown (g := gb321) (o := .cells #[.int .i64 a0_0, .bool a0_1, u322002] 53 (0, 0)) (bq BK321) hg (Kd.R_ne HO_12.out BK321.out (by decide))); have n5_ := A_ (hb); have n6_ := A_ (ho); clear HO_10; clear HO_322002; clear BK319; clear BK320; clear BK321; clear HB; clear HO_12; have HO_10 := n0_; have HO_322002 := n1_; have BK319 := n2_; have BK320 := n3_; have BK321 := n4_; have HB := n5_; have HO336 := n6_; clear n0_ n1_ n2_ n3_ n4_ n5_ n6_; clear ho hb hg hat))
              go_roundg k3
              case measure => have := HK1.out; have := HK2.out; have := HK3.out; omega
              case rel => exact ⟨(y334), (wrap64 (x13_3 + 1)), (by first | rfl | (simp; done) | (simp [*]; done)), H', ⟨by have := HK1.out; have := HK2.out; have := HK3.out; omega⟩, ⟨by (with_reducible repeat (first | apply Kd.S_alloc | apply Kd.S_drewN | apply Kd.S_drew)); exact Kd.S_mono HO_10.out (fun _ hk => hk.2)⟩, ⟨rq HO336⟩, ⟨rq HO_322002⟩, ⟨bq BK319⟩, ⟨bq BK320⟩, ⟨bq BK321⟩, ⟨hq HB⟩⟩
             ·
              rw [if_neg c27] at H
              exact absurd H (by simp)
            ·
             replace c25 := Bool.eq_false_iff.mpr c25
             subst c25
             have H1 : (if x10_2.length < 5864062014805 then (impl_newRuns.l1 k3 a2 (rd l1 x18_1) (x10_2 ++ [x12_3]) l1 (l1.length : Int) x18_1 a0_0 (wrap64 (x25_2 + 1)) a0_0 a0_1 a0_0 a0_1 x322002_1) else (none)) = some (r1, r2, r3) := by rw [if_neg (show ¬ (false = true) by decide)] at H; exact H
             clear H
             have H := H1
             clear H1
             by_cases c35 : x10_2.length < 5864062014805
             ·
              rw [if_pos c35] at H
              have LMc35 := A_ c35
              clear c35
              obtain ⟨y337, hy337⟩ : ∃ y_ : List (List Int), y_ = (x10_2 ++ [x12_3]) := ⟨_, rfl⟩
              replace H : (impl_newRuns.l1 k3 a2 (rd l1 x18_1) y337 l1 (l1.length : Int) x18_1 a0_0 (wrap64 (x25_2 + 1)) a0_0 a0_1 a0_0 a0_1 x322002_1) = some (r1, r2, r3) := by first | (rw [hy337]; with_reducible exact H) | (have H2_ := (Option.bind_some _ _).symm.trans H; rw [hy337]; with_reducible exact H2_) | (have H2_ := (Option.bind_some _ _).symm.trans H; with_reducible exact H2_) | with_reducible exact H | (rw [hy337]; exact H) | exact H
              have Ny337 := A_ hy337
              clear hy337
              have H' := A_ H
              clear H
              have hnb36 := NB319_320.out
              have hnc36 := NB320_319.out
              have hnb37 := NB319_321.out
              have hnc37 := NB321_319.out
              have hcz38_0 : wr.cell? ⟨gb319, 0, none⟩ = some (.int .i64 a0_0) := bc BK319 0
              have hcz38_1 : wr.cell? ⟨gb319, 1, none⟩ = some (.bool a0_1) := bc BK319 1
              have hfz38_0 := blk_frozen BK319.out 0
              have hfz38_1 := blk_frozen BK319.out 1
              go_wp2_with (first | (go_at_call 50; (with_reducible refine (impl_Road_isRun.calls k3 a0_0 a0_1 x25_2 x13_3 false _ A24.out).mono ?_); rintro e w39 ⟨rfl, hb⟩; have n0_ := A_ (Kd.S_below (sq HO_10) hb); have n1_ := A_ (Kd.R_below (rq HO_12) hb); have n2_ := A_ (Kd.R_below (rq HO_322002) hb); have n3_ := A_ (blk_below (bq BK319) hb); have n4_ := A_ (blk_below (bq BK320) hb); have n5_ := A_ (blk_below (bq BK321) hb); have n6_ := A_ (below_step (hq HB) hb); clear HO_10; clear HO_12; clear HO_322002; clear BK319; clear BK320; clear BK321; clear HB; have HO_10 := n0_; have HO_12 := n1_; have HO_322002 := n2_; have BK319 := n3_; have BK320 := n4_; have BK321 := n5_; have HB := n6_; clear n0_ n1_ n2_ n3_ n4_ n5_ n6_; (try clear hb); (try clear hb2); (try clear hk); (try clear hi); obtain ⟨Ao41, co41, eo41⟩ := Kd.R_slice HO_12.out; subst eo41) | ((with_reducible refine gate_builtin (b := .append) (xs := #[.tmp 50, .tmp 52]) rfl ?_); at_builtin; refine Kd.S_append (Kd.slice 3 (Kd.int .i64)) (w0 := w) w.heap.size rfl (.tmp 50) (.tmp 52) 49 24 (.slice none 0 0) 24 rfl Try.underlying49 info24 rfl (by decide) (by omega) u10 x10_2 x12_3 [.slice Ao41 x12_3.length co41] (fun _ => True) (fun k_ => some k_ = (.slice Ao41 x12_3.length co41 : Value).ownBlock) rfl rfl ?aP (fun k_ hk_ => ((Kd.R_mono (ok' := fun k_ => ((fun _ => True)) k_ ∧ some k_ ≠ (u10 : Value).ownBlock) (Kd.R_apart' (HO_12.out) (Kd.S_typed HO_10.out) (by decide)) (fun k_ hk => ⟨trivial, hk.2⟩))).1 k_ hk_.symm) ?aF ?aO ?aB ?aS ?aL ?_; (case aP => exact Kd.M_row (Kd.R_mono (Kd.R_tight rfl (Kd.R_mono (ok' := fun k_ => ((fun _ => True)) k_ ∧ some k_ ≠ (u10 : Value).ownBlock) (Kd.R_apart' (HO_12.out) (Kd.S_typed HO_10.out) (by decide)) (fun k_ hk => ⟨trivial, hk.2⟩))) (fun _ h_ => h_))); (case aB => exact (hq HB)); (case aF => exact (fun _ _ => trivial)); (case aO => exact (by (with_reducible repeat (first | apply Kd.S_alloc | apply Kd.S_drewN | apply Kd.S_drew)); exact Kd.S_mono HO_10.out (fun k_ hk => ⟨trivial, fun e_ => hk e_⟩))); (case aS => exact (below_size (hq HB))); (case aL => have := LMc35.out; omega); intro v338 w40 ho hb hg hat; rw [← Ny337.out] at ho; have n0_ := A_ (Kd.R_after (ok := (fun k_ => some k_ ≠ (.slice Ao41 x12_3.length co41 : Value).ownBlock)) (by (with_reducible repeat (first | apply Kd.R_alloc | apply Kd.R_drewN | apply Kd.R_drew)); exact Kd.R_mono HO_322002.out (fun _ hk => ⟨hk.2, hk.1⟩)) hg hat); have n1_ := A_ (blk_grown (g := gb319) (o := .cells #[.int .i64 a0_0, .bool a0_1] 27 (0, 0)) (bq BK319) hg (Kd.S_ne HO_10.out BK319.out (by decide))); have n2_ := A_ (blk_grown (g := gb320) (o := .cells #[.int .i64 0, .bool false, .slice none 0 0] 53 (0, 0)) (bq BK320) hg (Kd.S_ne HO_10.out BK320.out (by decide))); have n3_ := A_ (blk_grown (g := gb321) (o := .cells #[.int .i64 a0_0, .bool a0_1, u322002] 53 (0, 0)) (bq BK321) hg (Kd.S_ne HO_10.out BK321.out (by decide))); have n4_ := A_ (hb); have n5_ := A_ (ho); clear HO_322002; clear BK319; clear BK320; clear BK321; clear HB; clear HO_10; clear HO_12; have HO_322002 := n0_; have BK319 := n1_; have BK320 := n2_; have BK321 := n3_; have HB := n4_; have HO339 := n5_; clear n0_ n1_ n2_ n3_ n4_ n5_; clear ho hb hg hat))
              go_roundg k3
              case measure => have := HK1.out; have := HK2.out; have := HK3.out; omega
              case rel => exact ⟨(y337), (wrap64 (x25_2 + 1)), (by first | rfl | (simp; done) | (simp [*]; done)), H', ⟨by have := HK1.out; have := HK2.out; have := HK3.out; omega⟩, ⟨sq HO339⟩, ⟨by (with_reducible repeat (first | apply Kd.R_alloc | apply Kd.R_drewN | apply Kd.R_drew)); exact Kd.R_mono HO_322002.out (fun _ hk => hk.2)⟩, ⟨bq BK319⟩, ⟨bq BK320⟩, ⟨bq BK321⟩, ⟨hq HB⟩⟩
             ·
              rw [if_neg c35] at H
              exact absurd H (by simp)
           ·
            rw [if_neg c23] at H
            have c23b0 : decide (x13_3 ≤ a0_0) = false := decide_eq_false c23
            clear c23
            by_cases c42 : x10_2.length < 5864062014805
            ·
             rw [if_pos c42] at H
             have LMc42 := A_ c42
             clear c42
             obtain ⟨y340, hy340⟩ : ∃ y_ : List (List Int), y_ = (x10_2 ++ [x12_3]) := ⟨_, rfl⟩
             replace H : (impl_newRuns.l1 k3 a2 (rd l1 x18_1) y340 l1 (l1.length : Int) x18_1 a0_0 (wrap64 (x25_2 + 1)) a0_0 a0_1 a0_0 a0_1 x322002_1) = some (r1, r2, r3) := by first | (rw [hy340]; with_reducible exact H) | (have H2_ := (Option.bind_some _ _).symm.trans H; rw [hy340]; with_reducible exact H2_) | (have H2_ := (Option.bind_some _ _).symm.trans H; with_reducible exact H2_) | with_reducible exact H | (rw [hy340]; exact H) | exact H
             have Ny340 := A_ hy340
             clear hy340
             have H' := A_ H
             clear H
             have hnb43 := NB319_320.out
             have hnc43 := NB320_319.out
             have hnb44 := NB319_321.out
             have hnc44 := NB321_319.out
             have hcz45_0 : wr.cell? ⟨gb319, 0, none⟩ = some (.int .i64 a0_0) := bc BK319 0
             have hcz45_1 : wr.cell? ⟨gb319, 1, none⟩ = some (.bool a0_1) := bc BK319 1
             have hfz45_0 := blk_frozen BK319.out 0
             have hfz45_1 := blk_frozen BK319.out 1
             obtain ⟨Ao47, co47, eo47⟩ := Kd.R_slice HO_12.out
             subst eo47
             go_wp2_with (first | ((with_reducible refine gate_builtin (b := .append) (xs := #[.tmp 50, .tmp 52]) rfl ?_); at_builtin; refine Kd.S_append (Kd.slice 3 (Kd.int .i64)) (w0 := w) w.heap.size rfl (.tmp 50) (.tmp 52) 49 24 (.slice none 0 0) 24 rfl Try.underlying49 info24 rfl (by decide) (by omega) u10 x10_2 x12_3 [.slice Ao47 x12_3.length co47] (fun _ => True) (fun k_ => some k_ = (.slice Ao47 x12_3.length co47 : Value).ownBlock) rfl rfl ?aP (fun k_ hk_ => ((Kd.R_mono (ok' := fun k_ => ((fun _ => True)) k_ ∧ some k_ ≠ (u10 : Value).ownBlock) (Kd.R_apart' (HO_12.out) (Kd.S_typed HO_10.out) (by decide)) (fun k_ hk => ⟨trivial, hk.2⟩))).1 k_ hk_.symm) ?aF ?aO ?aB ?aS ?aL ?_; (case aP => exact Kd.M_row (Kd.R_mono (Kd.R_tight rfl (Kd.R_mono (ok' := fun k_ => ((fun _ => True)) k_ ∧ some k_ ≠ (u10 : Value).ownBlock) (Kd.R_apart' (HO_12.out) (Kd.S_typed HO_10.out) (by decide)) (fun k_ hk => ⟨trivial, hk.2⟩))) (fun _ h_ => h_))); (case aB => exact (hq HB)); (case aF => exact (fun _ _ => trivial)); (case aO => exact (by (with_reducible repeat (first | apply Kd.S_alloc | apply Kd.S_drewN | apply Kd.S_drew)); exact Kd.S_mono HO_10.out (fun k_ hk => ⟨trivial, fun e_ => hk e_⟩))); (case aS => exact (below_size (hq HB))); (case aL => have := LMc42.out; omega); intro v341 w46 ho hb hg hat; rw [← Ny340.out] at ho; have n0_ := A_ (Kd.R_after (ok := (fun k_ => some k_ ≠ (.slice Ao47 x12_3.length co47 : Value).ownBlock)) (by (with_reducible repeat (first | apply Kd.R_alloc | apply Kd.R_drewN | apply Kd.R_drew)); exact Kd.R_mono HO_322002.out (fun _ hk => ⟨hk.2, hk.1⟩)) hg hat); have n1_ := A_ (blk_grown (g := gb319) (o := .cells #[.int .i64 a0_0, .bool a0_1] 27 (0, 0)) (bq BK319) hg (Kd.S_ne HO_10.out BK319.out (by decide))); have n2_ := A_ (blk_grown (g := gb320) (o := .cells #[.int .i64 0, .bool false, .slice none 0 0] 53 (0, 0)) (bq BK320) hg (Kd.S_ne HO_10.out BK320.out (by decide))); have n3_ := A_ (blk_grown (g := gb321) (o := .cells #[.int .i64 a0_0, .bool a0_1, u322002] 53 (0, 0)) (bq BK321) hg (Kd.S_ne HO_10.out BK321.out (by decide))); have n4_ := A_ (hb); have n5_ := A_ (ho); clear HO_322002; clear BK319; clear BK320; clear BK321; clear HB; clear HO_10; clear HO_12; have HO_322002 := n0_; have BK319 := n1_; have BK320 := n2_; have BK321 := n3_; have HB := n4_; have HO342 := n5_; clear n0_ n1_ n2_ n3_ n4_ n5_; clear ho hb hg hat))
             go_roundg k3
             case measure => have := HK1.out; have := HK2.out; have := HK3.out; omega
             case rel => exact ⟨(y340), (wrap64 (x25_2 + 1)), (by first | rfl | (simp; done) | (simp [*]; done)), H', ⟨by have := HK1.out; have := HK2.out; have := HK3.out; omega⟩, ⟨sq HO342⟩, ⟨by (with_reducible repeat (first | apply Kd.R_alloc | apply Kd.R_drewN | apply Kd.R_drew)); exact Kd.R_mono HO_322002.out (fun _ hk => hk.2)⟩, ⟨bq BK319⟩, ⟨bq BK320⟩, ⟨bq BK321⟩, ⟨hq HB⟩⟩
            ·
             rw [if_neg c42] at H
             exact absurd H (by simp)
        ·
         rw [if_neg c20] at H
         have c20b0 : decide (x25_2 < a0_0) = false := decide_eq_false c20
         clear c20
         by_cases c48 : x322002_1.length < 5864062014805
         ·
          rw [if_pos c48] at H
          have LMc48 := A_ c48
          clear c48
          obtain ⟨y326, hy326⟩ : ∃ y_ : List (List (List Int)), y_ = (x322002_1 ++ [x10_2]) := ⟨_, rfl⟩
          replace H : (impl_newRuns.l0 k2 a2 l1 (l1.length : Int) (wrap64 (x18_1 + 1)) a0_0 a0_1 a0_0 a0_1 y326) = some (r1, r2, r3) := by first | (rw [hy326]; with_reducible exact H) | (have H2_ := (Option.bind_some _ _).symm.trans H; rw [hy326]; with_reducible exact H2_) | (have H2_ := (Option.bind_some _ _).symm.trans H; with_reducible exact H2_) | with_reducible exact H | (rw [hy326]; exact H) | exact H
          have Ny326 := A_ hy326
          clear hy326
          have H' := A_ H
          clear H
          have hnb49 := NB321_319.out
          have hnc49 := NB319_321.out
          have hnb50 := NB321_320.out
          have hnc50 := NB320_321.out
          have hcz51_0 : wr.cell? ⟨gb321, 0, none⟩ = some (.int .i64 a0_0) := bc BK321 0
          have hcz51_1 : wr.cell? ⟨gb321, 1, none⟩ = some (.bool a0_1) := bc BK321 1
          have hcz51_2 : wr.cell? ⟨gb321, 2, none⟩ = some (u322002) := bc BK321 2
          have hfz51_0 := blk_frozen BK321.out 0
          have hfz51_1 := blk_frozen BK321.out 1
          have hfz51_2 := blk_frozen BK321.out 2
          obtain ⟨Ao53, co53, eo53⟩ := Kd.S_slice HO_10.out
          subst eo53
          go_wp2_with (first | ((with_reducible refine gate_builtin (b := .append) (xs := #[.tmp 56, .tmp 58]) rfl ?_); at_builtin; refine Kd.R_append (Kd.slice 24 (Kd.slice 3 (Kd.int .i64))) (w0 := w) w.heap.size rfl (.tmp 56) (.tmp 58) 51 49 (.slice none 0 0) 24 rfl Try.underlying51 info49 rfl (by decide) (by omega) u322002 x322002_1 x10_2 [.slice Ao53 x10_2.length co53] (fun _ => True) (fun k_ => ((fun _ => True)) k_ ∧ some k_ ≠ (u322002 : Value).ownBlock) rfl rfl ?aP (fun _ hk => hk) ?aF ?aO ?aB ?aS ?aL ?_; (case aP => exact Kd.M_row (Kd.R_mono (Kd.R_apart' ((Kd.S_R HO_10.out)) (Kd.R_typed HO_322002.out) (by decide)) (fun k_ hk => ⟨trivial, hk.2⟩))); (case aB => exact (hq HB)); (case aF => exact (fun _ _ => trivial)); (case aO => exact (by (with_reducible repeat (first | apply Kd.R_alloc | apply Kd.R_drewN | apply Kd.R_drew)); exact Kd.R_mono HO_322002.out (fun _ hk => trivial))); (case aS => exact (below_size (hq HB))); (case aL => have := LMc48.out; omega); intro v327 w52 ho hb hg hat; rw [← Ny326.out] at ho; have n0_ := A_ (blk_grown (g := gb319) (o := .cells #[.int .i64 a0_0, .bool a0_1] 27 (0, 0)) (bq BK319) hg (Kd.R_ne HO_322002.out BK319.out (by decide))); have n1_ := A_ (blk_grown (g := gb320) (o := .cells #[.int .i64 0, .bool false, .slice none 0 0] 53 (0, 0)) (bq BK320) hg (Kd.R_ne HO_322002.out BK320.out (by decide))); have n2_ := A_ (blk_grown (g := gb321) (o := .cells #[.int .i64 a0_0, .bool a0_1, u322002] 53 (0, 0)) (bq BK321) hg (Kd.R_ne HO_322002.out BK321.out (by decide))); have n3_ := A_ (hb); have n4_ := A_ (ho); clear BK319; clear BK320; clear BK321; clear HB; clear HO_322002; clear HO_10; have BK319 := n0_; have BK320 := n1_; have BK321 := n2_; have HB := n3_; have HO328 := n4_; clear n0_ n1_ n2_ n3_ n4_; clear ho hb hg hat; obtain ⟨Ao54, co54, eo54⟩ := Kd.R_slice HO328.out; subst eo54; have hcz55_0 : w52.cell? ⟨gb321, 0, none⟩ = some (.int .i64 a0_0) := bc BK321 0; have hcz55_1 : w52.cell? ⟨gb321, 1, none⟩ = some (.bool a0_1) := bc BK321 1; have hcz55_2 : w52.cell? ⟨gb321, 2, none⟩ = some (u322002) := bc BK321 2; have hfz55_0 := blk_frozen BK321.out 0; have hfz55_1 := blk_frozen BK321.out 1; have hfz55_2 := blk_frozen BK321.out 2))
          go_roundg k2
          case measure => have := HK1.out; have := HK2.out; omega
          case rel => exact ⟨(wrap64 (x18_1 + 1)), (y326), (.slice Ao54 y326.length co54), (by first | rfl | (simp; done) | (simp [*]; done)), H', ⟨by have := HK1.out; have := HK2.out; omega⟩, ⟨by (with_reducible repeat (first | apply Kd.R_alloc | apply Kd.R_drewN | apply Kd.R_drew)); exact Kd.R_mono (Kd.R_far (p := ⟨gb321, 2, none⟩) (Kd.R_types HO328.out BK321.out (by decide)) (fun _ hk => hk.2) (.slice Ao54 y326.length co54)) (fun _ hk => trivial)⟩, ⟨by (with_reducible repeat (first | refine blk_drewN ?_ _ | refine blk_drew ?_ | refine blk_alloc ?_ _)); refine blk_far ?_ NB319_321.out _; (with_reducible repeat (first | refine blk_drewN ?_ _ | refine blk_drew ?_ | refine blk_alloc ?_ _)); exact BK319.out⟩, ⟨by (with_reducible repeat (first | refine blk_drewN ?_ _ | refine blk_drew ?_ | refine blk_alloc ?_ _)); refine blk_far ?_ NB320_321.out _; (with_reducible repeat (first | refine blk_drewN ?_ _ | refine blk_drew ?_ | refine blk_alloc ?_ _)); exact BK320.out⟩, ⟨by (with_reducible repeat (first | refine blk_drewN ?_ _ | refine blk_drew ?_ | refine blk_alloc ?_ _)); refine blk_put (cs := #[.int .i64 a0_0, .bool a0_1, u322002]) ?_ 2 _ rfl; (with_reducible repeat (first | refine blk_drewN ?_ _ | refine blk_drew ?_ | refine blk_alloc ?_ _)); exact BK321.out⟩, ⟨hq HB⟩⟩
         ·
          rw [if_neg c48] at H
          exact absurd H (by simp)
     ·
      rw [if_neg c14] at H
      exact absurd H (by simp)
    ·
     rw [if_neg c13] at H
     exact absurd H (by simp)
   ·
    rw [if_neg c12] at H
    have c12b0 : decide (x18_1 < (l1.length : Int)) = false := decide_eq_false c12
    clear c12
    simp only [Option.some.injEq, Prod.mk.injEq] at H
    obtain ⟨rfl, rfl, rfl⟩ := H
    have hnb56 := NB321_319.out
    have hnc56 := NB319_321.out
    have hnb57 := NB321_320.out
    have hnc57 := NB320_321.out
    have hcz58_0 : wr.cell? ⟨gb321, 0, none⟩ = some (.int .i64 a0_0) := bc BK321 0
    have hcz58_1 : wr.cell? ⟨gb321, 1, none⟩ = some (.bool a0_1) := bc BK321 1
    have hcz58_2 : wr.cell? ⟨gb321, 2, none⟩ = some (u322002) := bc BK321 2
    have hfz58_0 := blk_frozen BK321.out 0
    have hfz58_1 := blk_frozen BK321.out 1
    have hfz58_2 := blk_frozen BK321.out 2
    have hnb59 := NB320_319.out
    have hnc59 := NB319_320.out
    have hcz60_0 : wr.cell? ⟨gb320, 0, none⟩ = some (.int .i64 0) := bc BK320 0
    have hcz60_1 : wr.cell? ⟨gb320, 1, none⟩ = some (.bool false) := bc BK320 1
    have hcz60_2 : wr.cell? ⟨gb320, 2, none⟩ = some (.slice none 0 0) := bc BK320 2
    have hfz60_0 := blk_frozen BK320.out 0
    have hfz60_1 := blk_frozen BK320.out 1
    have hfz60_2 := blk_frozen BK320.out 2
    obtain ⟨Ao61, co61, eo61⟩ := Kd.R_slice HO_322002.out
    subst eo61
    go_wp2
    refine bodyPost_ret (results_cell_row rfl _ _ gb320 53 #[.int .i64 a0_0, .bool a0_1, .slice Ao61 x322002_1.length co61] (0, 0) _ rfl (by (with_reducible repeat (first | refine blk_drewN ?_ _ | refine blk_drew ?_ | refine blk_alloc ?_ _)); refine blk_put (cs := #[.int .i64 a0_0, .bool a0_1, .slice none 0 0]) ?_ 2 _ rfl; (with_reducible repeat (first | refine blk_drewN ?_ _ | refine blk_drew ?_ | refine blk_alloc ?_ _)); refine blk_put (cs := #[.int .i64 a0_0, .bool false, .slice none 0 0]) ?_ 1 _ rfl; (with_reducible repeat (first | refine blk_drewN ?_ _ | refine blk_drew ?_ | refine blk_alloc ?_ _)); refine blk_put (cs := #[.int .i64 0, .bool false, .slice none 0 0]) ?_ 0 _ rfl; (with_reducible repeat (first | refine blk_drewN ?_ _ | refine blk_drew ?_ | refine blk_alloc ?_ _)); exact BK320.out) Try.underlying53 rfl (by kernel_rfl)) rfl ?_
    exact ⟨_, rt, by (with_reducible repeat (first | apply Kd.R_alloc | apply Kd.R_drewN | apply Kd.R_drew)); exact Kd.R_mono (Kd.R_far (p := ⟨gb320, 2, none⟩) (Kd.R_far (p := ⟨gb320, 1, none⟩) (Kd.R_far (p := ⟨gb320, 0, none⟩) (Kd.R_types HO_322002.out BK320.out (by decide)) (fun _ hk => hk.2) (.int .i64 a0_0)) (fun _ hk => hk.2) (.bool a0_1)) (fun _ hk => hk.2) (.slice Ao61 x322002_1.length co61)) (fun _ hk => trivial), hq HB⟩

/-! ### impl_copied: function 48 -/
def impl_copied.f (l0 : List Int) : Option (List Int) := (some (([] : List Int) : List Int)).bind fun y343 => (if y343.length + l0.length < 17592186044416 then (some (y343 ++ l0)) else (none))
set_option maxHeartbeats 8000000 in
set_option maxRecDepth 100000 in
theorem impl_copied.calls (A0 : Option Addr) (c0 : Nat) (l0 : List Int) (r : List Int) (w : World) (hr0 : Kd.C (Kd.int .i64) w A0 l0.length l0) (hc0 : l0.length ≤ c0) (h : impl_copied.f l0 = some r) :
    Calls Try.prog 48 #[.slice A0 l0.length c0] w fun e w' => ∃ v0_ : Value, e = .returned (v0_) ∧ Kd.R (Kd.int .i64) 3 w' w.heap.size (fun _ => True) v0_ r ∧ Below w.heap.size w w' := by
 have HR0 := A_ hr0
 have HC0 := A_ hc0
 clear hr0 hc0
 have HB := A_ (Below.refl w.heap.size w)
 have H : ((some (([] : List Int) : List Int)).bind fun y343 => (if y343.length + l0.length < 17592186044416 then (some (y343 ++ l0)) else (none))) = some r := h
 clear h
 obtain ⟨y343, hy343⟩ : ∃ y_ : List Int, y_ = (([] : List Int)) := ⟨_, rfl⟩
 replace H : (if y343.length + l0.length < 17592186044416 then (some (y343 ++ l0)) else (none)) = some r := by first | (rw [hy343]; with_reducible exact H) | (have H2_ := (Option.bind_some _ _).symm.trans H; rw [hy343]; with_reducible exact H2_) | (have H2_ := (Option.bind_some _ _).symm.trans H; with_reducible exact H2_) | with_reducible exact H | (rw [hy343]; exact H) | exact H
 have Ny343 := A_ hy343
 clear hy343
 by_cases c2 : y343.length + l0.length < 17592186044416
 ·
  rw [if_pos c2] at H
  have LMc2 := A_ c2
  clear c2
  obtain ⟨y346, hy346⟩ : ∃ y_ : List Int, y_ = (y343 ++ l0) := ⟨_, rfl⟩
  replace H : (some y346) = some r := by first | (rw [hy346]; with_reducible exact H) | (have H2_ := (Option.bind_some _ _).symm.trans H; rw [hy346]; with_reducible exact H2_) | (have H2_ := (Option.bind_some _ _).symm.trans H; with_reducible exact H2_) | with_reducible exact H | (rw [hy346]; exact H) | exact H
  have Ny346 := A_ hy346
  clear hy346
  obtain rfl := Option.some.inj H
  go_enter Try.func48, Try.ntmps48
  go_wp2_with (first | ((with_reducible refine gate_dst (N := 3) rfl ?_); refine Kd.R_lit (Kd.int .i64) _ 3 ?hg (N := 3) ?hd (xs := ([] : List Int)) (inner := []) (ok := fun _ => True) (okp := fun _ => True) ?hr ?hp (fun _ hk => hk) trivial (Below.refl _ _) (Nat.le_refl _) (by simp) ?_; (case hd => rfl); (case hg => rfl); (case hr => first | (go_simp; done) | (go_simp; rfl)); (case hp => exact (Reps.none _ _)); intro v344 w3 ho4 hb hg_ hnew_; clear hg_ hnew_; (first | rw [← Ny343.out] at ho4 | (simp only [Int.reduceToNat] at ho4; rw [← Ny343.out] at ho4)); have n0_ := A_ (Kd.R_lower ho4 (below_size (hq HB))); have n1_ := A_ (below_step (hq HB) hb); clear HB; have HO345 := n0_; have HB := n1_; clear n0_ n1_; clear hb ho4) | ((with_reducible refine gate_builtin (b := .append) (xs := #[.tmp 3, .tmp 4]) rfl ?_); at_builtin; refine Kd.R_append_rows (Kd.int .i64) (w0 := w) w.heap.size rfl (.tmp 3) (.tmp 4) 24 3 (.int .i64 0) 8 rfl Try.underlying24 info3 rfl (by decide) (by omega) v344 y343 l0 _ _ _ (fun _ => True) (fun _ => False) rfl rfl ?aO ?aR (fun _ _ h => h) (fun _ h => h.elim) ?aF ?aB ?aS ?aL ?_; (case aR => repeat (first | exact (Kd.C_below HR0.out HB.out) | (with_reducible refine Kd.C_alloc ?_ _) | (with_reducible refine Kd.C_drewN ?_ _) | (with_reducible refine Kd.C_drew ?_))); (case aB => exact (hq HB)); (case aF => exact (fun _ _ => trivial)); (case aO => exact (rq HO345)); (case aS => exact (below_size (hq HB))); (case aL => have := LMc2.out; omega); intro v347 w5 ho hb hg hat; rw [← Ny346.out] at ho; have n0_ := A_ (hb); have n1_ := A_ (ho); clear HB; clear HO345; have HB := n0_; have HO348 := n1_; clear n0_ n1_; clear ho hb hg hat))
  go_ret
  exact ⟨_, rt, rq HO348, hq HB⟩
 ·
  rw [if_neg c2] at H
  exact absurd H (by simp)

/-! ### slices_Index_int_int: function 63 -/
def slices_Index_int_int.l0 : Nat → List Int → Int → Int → Int → Option (Int)
  | 0, _, _, _, _ => none
  | k + 1, x0, x1, x7, x8 => if x8 < x7 then (if 0 ≤ x8 then (if x8 < (x0.length : Int) then (if x1 = (rd x0 x8) then (some x8) else (slices_Index_int_int.l0 k x0 x1 x7 (wrap64 (x8 + 1)))) else (none)) else (none)) else (some (-1))
def slices_Index_int_int.f (k : Nat) (l0 : List Int) (a1 : Int) : Option (Int) := slices_Index_int_int.l0 k l0 a1 (l0.length : Int) 0
theorem slices_Index_int_int.mono_l : ∀ k, (∀ y0 y1 y2 y3, LeO (slices_Index_int_int.l0 k y0 y1 y2 y3) (slices_Index_int_int.l0 (k + 1) y0 y1 y2 y3))
  | 0 => fun _ _ _ _ r h => by simp [slices_Index_int_int.l0] at h
  | k + 1 => by
    have ih0 := slices_Index_int_int.mono_l k
    · intro y0 y1 y2 y3
      unfold slices_Index_int_int.l0
      repeat' first
      | (with_reducible exact ih0 _ _ _ _)
      | (with_reducible exact LeO.refl _)
      | (with_reducible exact LeO.none _)
      | (with_reducible refine LeO.ite ?_ ?_)
      | (with_reducible refine LeO.bind ?_ (fun _ => ?_))
      | exact ih0 _ _ _ _
      | exact LeO.none _
      | refine LeO.ite ?_ ?_
      | refine LeO.bind ?_ (fun _ => ?_)
theorem slices_Index_int_int.mono : ∀ a0 a1 k, LeO (slices_Index_int_int.f k a0 a1) (slices_Index_int_int.f (k + 1) a0 a1) := by
  intro a0 a1 k
  have ih0 := slices_Index_int_int.mono_l k
  unfold slices_Index_int_int.f
  repeat' first
      | (with_reducible exact ih0 _ _ _ _)
      | (with_reducible exact LeO.refl _)
      | (with_reducible exact LeO.none _)
      | (with_reducible refine LeO.ite ?_ ?_)
      | (with_reducible refine LeO.bind ?_ (fun _ => ?_))
      | exact ih0 _ _ _ _
      | exact LeO.none _
      | refine LeO.ite ?_ ?_
      | refine LeO.bind ?_ (fun _ => ?_)
set_option maxHeartbeats 8000000 in
set_option maxRecDepth 100000 in
theorem slices_Index_int_int.calls (k : Nat) (A0 : Option Addr) (c0 : Nat) (l0 : List Int) (a1 : Int) (r : Int) (w : World) (hr0 : Kd.C (Kd.int .i64) w A0 l0.length l0) (hc0 : l0.length ≤ c0) (h : slices_Index_int_int.f k l0 a1 = some r) :
    Calls Try.prog 63 #[.slice A0 l0.length c0, .int .i64 a1] w fun e w' => e = .returned (.int .i64 r) ∧ Drawn0 w w' := by
 have HR0 := A_ hr0
 have HC0 := A_ hc0
 clear hr0 hc0
 have H : (slices_Index_int_int.l0 k l0 a1 (l0.length : Int) 0) = some r := h
 clear h
 have H' := A_ H
 clear H
 go_enter Try.func63, Try.ntmps63
 go_wp2
 go_loopg [8] k (fun kq v8 w' => ∃ (x8_1 : Int), v8 = .int .i64 x8_1 ∧ Aside0 (slices_Index_int_int.l0 kq l0 a1 (l0.length : Int) x8_1 = some r) ∧ Aside0 (kq ≤ k) ∧ Drawn0 w w')
 case atStart => exact ⟨(0), (by first | rfl | (simp; done) | (simp [*]; done)), H', ⟨Nat.le_refl _⟩, by repeat (first | exact Drawn0.refl _ | apply Drawn0.step)⟩
 case round =>
  clear H'
  try clear p2
  obtain ⟨x8_1, rfl, HA, HK1, ⟨m1, rfl⟩⟩ := hrel
  cases gk with
  | zero => exact absurd HA.out (by simp [slices_Index_int_int.l0])
  | succ k1 =>
   have H := HA.out
   clear HA
   simp only [slices_Index_int_int.l0] at H
   by_cases c3 : x8_1 < (l0.length : Int)
   ·
    rw [if_pos c3] at H
    have c3b0 : decide (x8_1 < (l0.length : Int)) = true := decide_eq_true c3
    clear c3
    by_cases c4 : 0 ≤ x8_1
    ·
     rw [if_pos c4] at H
     have c4b0 : decide (0 ≤ x8_1) = true := decide_eq_true c4
     clear c4
     by_cases c5 : x8_1 < (l0.length : Int)
     ·
      rw [if_pos c5] at H
      have c5b0 : decide (x8_1 < (l0.length : Int)) = true := decide_eq_true c5
      clear c5
      by_cases c6 : a1 = (rd l0 x8_1)
      ·
       rw [if_pos c6] at H
       have c6b0 : (a1 == (rd l0 x8_1)) = true := beq_iff_eq.mpr c6
       have c6b1 : (a1 != (rd l0 x8_1)) = false := bne_eq_false_iff_eq.mpr c6
       clear c6
       obtain rfl := Option.some.inj H
       have p349 : 0 ≤ (x8_1 : Int) := of_decide_eq_true (by first | (with_reducible assumption) | assumption)
       have q349 : x8_1 < (l0.length : Int) := of_decide_eq_true (by first | (with_reducible assumption) | assumption)
       obtain ⟨ad349, e349, hx349_0⟩ := Kd.at_int HR0.out x8_1 p349 q349
       cases e349
       replace p349 := eq_true p349
       replace q349 := eq_true q349
       go_wp2
       go_ret
       exact ⟨by first | rfl | (simp; done) | (simp [*]; done), by repeat (first | exact Drawn0.refl _ | apply Drawn0.step)⟩
      ·
       rw [if_neg c6] at H
       have c6b0 : (a1 == (rd l0 x8_1)) = false := beq_eq_false_iff_ne.mpr c6
       have c6b1 : (a1 != (rd l0 x8_1)) = true := bne_iff_ne.mpr c6
       have H' := A_ H
       clear H
       have p349 : 0 ≤ (x8_1 : Int) := of_decide_eq_true (by first | (with_reducible assumption) | assumption)
       have q349 : x8_1 < (l0.length : Int) := of_decide_eq_true (by first | (with_reducible assumption) | assumption)
       obtain ⟨ad349, e349, hx349_0⟩ := Kd.at_int HR0.out x8_1 p349 q349
       cases e349
       replace p349 := eq_true p349
       replace q349 := eq_true q349
       go_wp2
       go_roundg k1
       case measure => have := HK1.out; omega
       case rel => exact ⟨(wrap64 (x8_1 + 1)), (by first | rfl | (simp; done) | (simp [*]; done)), H', ⟨by have := HK1.out; omega⟩, by repeat (first | exact Drawn0.refl _ | apply Drawn0.step)⟩
     ·
      rw [if_neg c5] at H
      exact absurd H (by simp)
    ·
     rw [if_neg c4] at H
     exact absurd H (by simp)
   ·
    rw [if_neg c3] at H
    have c3b0 : decide (x8_1 < (l0.length : Int)) = false := decide_eq_false c3
    clear c3
    obtain rfl := Option.some.inj H
    go_wp2
    go_ret
    exact ⟨by first | rfl | (simp; done) | (simp [*]; done), by repeat (first | exact Drawn0.refl _ | apply Drawn0.step)⟩

end Go.Proofs.Ythnaghigpgfchaa.PFnExactFirstOrder
