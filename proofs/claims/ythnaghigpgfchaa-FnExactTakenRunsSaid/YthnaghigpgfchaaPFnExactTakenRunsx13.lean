-- Printed, and told shorter by this session's program shrink.py.
-- Printed by this session's program myprint.py.
import Derived.Test.YthnaghigpgfchaaPFnExactTakenRunsx0
import Derived.Test.YthnaghigpgfchaaPFnExactTakenRunsx6
import Derived.Test.YthnaghigpgfchaaPFnExactTakenRunsx12
namespace Go.Proofs.Ythnaghigpgfchaa.PFnExactTakenRuns
open Go.RowKit Go.Proofs.Ythnaghigpgfchaa.Own Go.Proofs.YthnaghigpgfchaaW.PrintWords Go.Proofs.YthnaghigpgfchaaW.PrintLast Go.Proofs.YthnaghigpgfchaaW.PrintMore
attribute [local go_sem] max2_int min2_int max_two min_two max_three min_three max_four min_four   -- for this text's walks alone
set_option linter.unusedVariables false
set_option linter.unusedSimpArgs false

/-! ### laws_FnExactTakenRuns: function 3 -/
mutual
def laws_FnExactTakenRuns.j0 : Nat → List Int → List Int → Int → List Int → Bool → List Int → Bool → List Int → List Int → List Int → List Int → Bool → Bool → Int → Bool → Option (Bool)
  | 0, _, _, _, _, _, _, _, _, _, _, _, _, _, _, _ => none
  | k + 1, x1, x2, x3, x4, x5, x13, x14, x15, x16, x17, x18, x19, x73, x364000, x364001 => if x73 = true then (some false) else ((laws_toIntS.f k x1).bind fun t395 => ((laws_eqIntS.f k x15 t395).bind fun t398 => (if t398 = true then ((laws_toIntS.f k x2).bind fun t399 => ((laws_eqIntS.f k x16 t399).bind fun t402 => (if t402 = true then ((laws_toIntS.f k x4).bind fun t403 => ((laws_eqIntS.f k x17 t403).bind fun t406 => (if t406 = true then ((laws_markIntS.f k x15 1).bind fun bt407 => ((laws_markIntS.f k x16 bt407.1).bind fun bt409 => ((laws_markIntS.f k x17 bt409.1).bind fun bt411 => (if bt411.1 < 0 then (laws_FnExactTakenRuns.j1 k x1 x2 x3 x4 x5 x13 x14 x18 true x364000 x364001) else ((laws_eqIntS.f k x18 x13).bind fun t413 => (if t413 = true then (laws_FnExactTakenRuns.j1 k x1 x2 x3 x4 x5 x13 x14 x18 (x19 != x14) x364000 x364001) else (laws_FnExactTakenRuns.j1 k x1 x2 x3 x4 x5 x13 x14 x18 true x364000 x364001))))))) else (some false)))) else (some false)))) else (some false))))
def laws_FnExactTakenRuns.j1 : Nat → List Int → List Int → Int → List Int → Bool → List Int → Bool → List Int → Bool → Int → Bool → Option (Bool)
  | 0, _, _, _, _, _, _, _, _, _, _, _ => none
  | k + 1, x1, x2, x3, x4, x5, x13, x14, x18, x110, x364000, x364001 => if x110 = true then (some false) else ((laws_markIntS.f k x18 1).bind fun bt414 => ((laws_heldIntS.f k bt414.2 1).bind fun t416 => (if t416 < 0 then (some false) else (if t416 = bt414.1 then ((laws_toRoad.f x364000 x364001).bind fun bt417 => ((laws_toIntS.f k x1).bind fun t419 => ((laws_toIntS.f k x2).bind fun t422 => ((laws_toIntS.f k x4).bind fun t425 => ((impl_TakenRuns.f k bt417.1 bt417.2 t419 t422 x3 t425 x5).bind fun bt428 => ((laws_eqIntS.f k bt428.1 x13).bind fun t432 => (if t432 = true then (laws_FnExactTakenRuns.j2 k bt414.2 bt414.1 (bt428.2 != x14)) else (laws_FnExactTakenRuns.j2 k bt414.2 bt414.1 true)))))))) else (some false)))))
def laws_FnExactTakenRuns.j2 : Nat → List Int → Int → Bool → Option (Bool)
  | 0, _, _, _ => none
  | k + 1, x18, x21, x144 => if x144 = true then (some false) else ((laws_heldIntS.f k x18 1).bind fun t433 => (if t433 < 0 then (some false) else (if t433 = x21 then (some true) else (some false))))
end
def laws_FnExactTakenRuns.f (k : Nat) (a0_0 : Int) (a0_1 : Bool) (l1 : List Int) (l2 : List Int) (a3 : Int) (l4 : List Int) (a5 : Bool) : Option (Bool) := if (l1.length : Int) > 1048576 then (some true) else (if (l2.length : Int) > 1048576 then (some true) else (if (l4.length : Int) > 1048576 then (some true) else ((laws_toRoad.f a0_0 a0_1).bind fun bt364 => ((laws_toIntS.f k l1).bind fun t366 => ((laws_toIntS.f k l2).bind fun t369 => ((laws_toIntS.f k l4).bind fun t372 => ((spec_TakenRuns.f k bt364.1 bt364.2 t366 t369 a3 t372 a5).bind fun bt375 => ((laws_toIntS.f k l1).bind fun t379 => ((laws_toIntS.f k l2).bind fun t382 => ((laws_toIntS.f k l4).bind fun t385 => ((laws_toRoad.f a0_0 a0_1).bind fun bt388 => ((impl_TakenRuns.f k bt388.1 bt388.2 t379 t382 a3 t385 a5).bind fun bt390 => ((laws_eqIntS.f k bt390.1 bt375.1).bind fun t394 => (if t394 = true then (laws_FnExactTakenRuns.j0 k l1 l2 a3 l4 a5 bt375.1 bt375.2 t379 t382 t385 bt390.1 bt390.2 (bt390.2 != bt375.2) a0_0 a0_1) else (laws_FnExactTakenRuns.j0 k l1 l2 a3 l4 a5 bt375.1 bt375.2 t379 t382 t385 bt390.1 bt390.2 true a0_0 a0_1)))))))))))))))
theorem laws_FnExactTakenRuns.mono_l : ∀ k, (∀ y0 y1 y2 y3 y4 y5 y6 y7 y8 y9 y10 y11 y12 y13 y14, LeO (laws_FnExactTakenRuns.j0 k y0 y1 y2 y3 y4 y5 y6 y7 y8 y9 y10 y11 y12 y13 y14) (laws_FnExactTakenRuns.j0 (k + 1) y0 y1 y2 y3 y4 y5 y6 y7 y8 y9 y10 y11 y12 y13 y14)) ∧ (∀ y0 y1 y2 y3 y4 y5 y6 y7 y8 y9 y10, LeO (laws_FnExactTakenRuns.j1 k y0 y1 y2 y3 y4 y5 y6 y7 y8 y9 y10) (laws_FnExactTakenRuns.j1 (k + 1) y0 y1 y2 y3 y4 y5 y6 y7 y8 y9 y10)) ∧ (∀ y0 y1 y2, LeO (laws_FnExactTakenRuns.j2 k y0 y1 y2) (laws_FnExactTakenRuns.j2 (k + 1) y0 y1 y2))
  | 0 => ⟨fun _ _ _ _ _ _ _ _ _ _ _ _ _ _ _ r h => by simp [laws_FnExactTakenRuns.j0] at h, fun _ _ _ _ _ _ _ _ _ _ _ r h => by simp [laws_FnExactTakenRuns.j1] at h, fun _ _ _ r h => by simp [laws_FnExactTakenRuns.j2] at h⟩
  | k + 1 => by
    obtain ⟨ih0, ih1, ih2⟩ := laws_FnExactTakenRuns.mono_l k
    refine ⟨?_, ?_, ?_⟩
    · intro y0 y1 y2 y3 y4 y5 y6 y7 y8 y9 y10 y11 y12 y13 y14
      unfold laws_FnExactTakenRuns.j0
      repeat' first
      | (with_reducible exact ih0 _ _ _ _ _ _ _ _ _ _ _ _ _ _ _)
      | (with_reducible exact ih1 _ _ _ _ _ _ _ _ _ _ _)
      | (with_reducible exact ih2 _ _ _)
      | (with_reducible exact impl_TakenRuns.mono _ _ _ _ _ _ _ _)
      | (with_reducible exact laws_eqIntS.mono _ _ _)
      | (with_reducible exact laws_heldIntS.mono _ _ _)
      | (with_reducible exact laws_markIntS.mono _ _ _)
      | (with_reducible exact laws_toIntS.mono _ _)
      | (with_reducible exact spec_TakenRuns.mono _ _ _ _ _ _ _ _)
      | (with_reducible exact LeO.refl _)
      | (with_reducible exact LeO.none _)
      | (with_reducible refine LeO.ite ?_ ?_)
      | (with_reducible refine LeO.bind ?_ (fun _ => ?_))
      | exact ih0 _ _ _ _ _ _ _ _ _ _ _ _ _ _ _
      | exact ih1 _ _ _ _ _ _ _ _ _ _ _
      | exact ih2 _ _ _
      | exact impl_TakenRuns.mono _ _ _ _ _ _ _ _
      | exact laws_eqIntS.mono _ _ _
      | exact laws_heldIntS.mono _ _ _
      | exact laws_markIntS.mono _ _ _
      | exact laws_toIntS.mono _ _
      | exact spec_TakenRuns.mono _ _ _ _ _ _ _ _
      | exact LeO.none _
      | refine LeO.ite ?_ ?_
      | refine LeO.bind ?_ (fun _ => ?_)
    · intro y0 y1 y2 y3 y4 y5 y6 y7 y8 y9 y10
      unfold laws_FnExactTakenRuns.j1
      repeat' first
      | (with_reducible exact ih0 _ _ _ _ _ _ _ _ _ _ _ _ _ _ _)
      | (with_reducible exact ih1 _ _ _ _ _ _ _ _ _ _ _)
      | (with_reducible exact ih2 _ _ _)
      | (with_reducible exact impl_TakenRuns.mono _ _ _ _ _ _ _ _)
      | (with_reducible exact laws_eqIntS.mono _ _ _)
      | (with_reducible exact laws_heldIntS.mono _ _ _)
      | (with_reducible exact laws_markIntS.mono _ _ _)
      | (with_reducible exact laws_toIntS.mono _ _)
      | (with_reducible exact spec_TakenRuns.mono _ _ _ _ _ _ _ _)
      | (with_reducible exact LeO.refl _)
      | (with_reducible exact LeO.none _)
      | (with_reducible refine LeO.ite ?_ ?_)
      | (with_reducible refine LeO.bind ?_ (fun _ => ?_))
      | exact ih0 _ _ _ _ _ _ _ _ _ _ _ _ _ _ _
      | exact ih1 _ _ _ _ _ _ _ _ _ _ _
      | exact ih2 _ _ _
      | exact impl_TakenRuns.mono _ _ _ _ _ _ _ _
      | exact laws_eqIntS.mono _ _ _
      | exact laws_heldIntS.mono _ _ _
      | exact laws_markIntS.mono _ _ _
      | exact laws_toIntS.mono _ _
      | exact spec_TakenRuns.mono _ _ _ _ _ _ _ _
      | exact LeO.none _
      | refine LeO.ite ?_ ?_
      | refine LeO.bind ?_ (fun _ => ?_)
    · intro y0 y1 y2
      unfold laws_FnExactTakenRuns.j2
      repeat' first
      | (with_reducible exact ih0 _ _ _ _ _ _ _ _ _ _ _ _ _ _ _)
      | (with_reducible exact ih1 _ _ _ _ _ _ _ _ _ _ _)
      | (with_reducible exact ih2 _ _ _)
      | (with_reducible exact impl_TakenRuns.mono _ _ _ _ _ _ _ _)
      | (with_reducible exact laws_eqIntS.mono _ _ _)
      | (with_reducible exact laws_heldIntS.mono _ _ _)
      | (with_reducible exact laws_markIntS.mono _ _ _)
      | (with_reducible exact laws_toIntS.mono _ _)
      | (with_reducible exact spec_TakenRuns.mono _ _ _ _ _ _ _ _)
      | (with_reducible exact LeO.refl _)
      | (with_reducible exact LeO.none _)
      | (with_reducible refine LeO.ite ?_ ?_)
      | (with_reducible refine LeO.bind ?_ (fun _ => ?_))
      | exact ih0 _ _ _ _ _ _ _ _ _ _ _ _ _ _ _
      | exact ih1 _ _ _ _ _ _ _ _ _ _ _
      | exact ih2 _ _ _
      | exact impl_TakenRuns.mono _ _ _ _ _ _ _ _
      | exact laws_eqIntS.mono _ _ _
      | exact laws_heldIntS.mono _ _ _
      | exact laws_markIntS.mono _ _ _
      | exact laws_toIntS.mono _ _
      | exact spec_TakenRuns.mono _ _ _ _ _ _ _ _
      | exact LeO.none _
      | refine LeO.ite ?_ ?_
      | refine LeO.bind ?_ (fun _ => ?_)
theorem laws_FnExactTakenRuns.mono : ∀ a0 a1 a2 a3 a4 a5 a6 k, LeO (laws_FnExactTakenRuns.f k a0 a1 a2 a3 a4 a5 a6) (laws_FnExactTakenRuns.f (k + 1) a0 a1 a2 a3 a4 a5 a6) := by
  intro a0 a1 a2 a3 a4 a5 a6 k
  obtain ⟨ih0, ih1, ih2⟩ := laws_FnExactTakenRuns.mono_l k
  unfold laws_FnExactTakenRuns.f
  repeat' first
      | (with_reducible exact ih0 _ _ _ _ _ _ _ _ _ _ _ _ _ _ _)
      | (with_reducible exact ih1 _ _ _ _ _ _ _ _ _ _ _)
      | (with_reducible exact ih2 _ _ _)
      | (with_reducible exact impl_TakenRuns.mono _ _ _ _ _ _ _ _)
      | (with_reducible exact laws_eqIntS.mono _ _ _)
      | (with_reducible exact laws_heldIntS.mono _ _ _)
      | (with_reducible exact laws_markIntS.mono _ _ _)
      | (with_reducible exact laws_toIntS.mono _ _)
      | (with_reducible exact spec_TakenRuns.mono _ _ _ _ _ _ _ _)
      | (with_reducible exact LeO.refl _)
      | (with_reducible exact LeO.none _)
      | (with_reducible refine LeO.ite ?_ ?_)
      | (with_reducible refine LeO.bind ?_ (fun _ => ?_))
      | exact ih0 _ _ _ _ _ _ _ _ _ _ _ _ _ _ _
      | exact ih1 _ _ _ _ _ _ _ _ _ _ _
      | exact ih2 _ _ _
      | exact impl_TakenRuns.mono _ _ _ _ _ _ _ _
      | exact laws_eqIntS.mono _ _ _
      | exact laws_heldIntS.mono _ _ _
      | exact laws_markIntS.mono _ _ _
      | exact laws_toIntS.mono _ _
      | exact spec_TakenRuns.mono _ _ _ _ _ _ _ _
      | exact LeO.none _
      | refine LeO.ite ?_ ?_
      | refine LeO.bind ?_ (fun _ => ?_)
set_option maxHeartbeats 8000000 in
set_option maxRecDepth 100000 in
theorem laws_FnExactTakenRuns.calls (k : Nat) (a0_0 : Int) (a0_1 : Bool) (A1 : Option Addr) (c1 : Nat) (l1 : List Int) (A2 : Option Addr) (c2 : Nat) (l2 : List Int) (a3 : Int) (A4 : Option Addr) (c4 : Nat) (l4 : List Int) (a5 : Bool) (r : Bool) (hr_ : r = true) (w : World) (hr1 : Kd.C (Kd.int .i64) w A1 l1.length l1) (hc1 : l1.length ≤ c1) (hr2 : Kd.C (Kd.int .i64) w A2 l2.length l2) (hc2 : l2.length ≤ c2) (hr4 : Kd.C (Kd.int .i64) w A4 l4.length l4) (hc4 : l4.length ≤ c4) (h : laws_FnExactTakenRuns.f k a0_0 a0_1 l1 l2 a3 l4 a5 = some r) :
    Calls Try.prog 3 #[.agg #[.int .i64 a0_0, .bool a0_1], .slice A1 l1.length c1, .slice A2 l2.length c2, .int .i64 a3, .slice A4 l4.length c4, .bool a5] w fun e w' => e = .returned (.bool r) ∧ Below w.heap.size w w' := by
 have hu23 := Try.underlying23
 have HR1 := A_ hr1
 have HC1 := A_ hc1
 clear hr1 hc1
 have HR2 := A_ hr2
 have HC2 := A_ hc2
 clear hr2 hc2
 have HR4 := A_ hr4
 have HC4 := A_ hc4
 clear hr4 hc4
 have HB := A_ (Below.refl w.heap.size w)
 have H : (if (l1.length : Int) > 1048576 then (some true) else (if (l2.length : Int) > 1048576 then (some true) else (if (l4.length : Int) > 1048576 then (some true) else ((laws_toRoad.f a0_0 a0_1).bind fun bt364 => ((laws_toIntS.f k l1).bind fun t366 => ((laws_toIntS.f k l2).bind fun t369 => ((laws_toIntS.f k l4).bind fun t372 => ((spec_TakenRuns.f k bt364.1 bt364.2 t366 t369 a3 t372 a5).bind fun bt375 => ((laws_toIntS.f k l1).bind fun t379 => ((laws_toIntS.f k l2).bind fun t382 => ((laws_toIntS.f k l4).bind fun t385 => ((laws_toRoad.f a0_0 a0_1).bind fun bt388 => ((impl_TakenRuns.f k bt388.1 bt388.2 t379 t382 a3 t385 a5).bind fun bt390 => ((laws_eqIntS.f k bt390.1 bt375.1).bind fun t394 => (if t394 = true then (laws_FnExactTakenRuns.j0 k l1 l2 a3 l4 a5 bt375.1 bt375.2 t379 t382 t385 bt390.1 bt390.2 (bt390.2 != bt375.2) a0_0 a0_1) else (laws_FnExactTakenRuns.j0 k l1 l2 a3 l4 a5 bt375.1 bt375.2 t379 t382 t385 bt390.1 bt390.2 true a0_0 a0_1)))))))))))))))) = some r := h
 clear h
 by_cases c7 : (l1.length : Int) > 1048576
 ·
  rw [if_pos c7] at H
  have c7b0 : decide (1048576 < (l1.length : Int)) = true := decide_eq_true c7
  have c7b1 : decide (1048576 < l1.length) = true := decide_eq_true (by omega)
  clear c7
  obtain rfl := Option.some.inj H
  go_enter Try.func3, Try.ntmps3
  go_wp2_with (first | ((with_reducible refine gate_dst (N := 6) rfl ?_); refine box_event ?hg (N := 6) ?hd (cs := #[.int .i64 a0_0, .bool a0_1]) (t := 23) ?hr ?_; (case hd => rfl); (case hg => rfl); (case hr => first | (go_simp; done) | (go_simp; rfl)); intro gb363 hg w8 hbox hb; have n0_ := A_ (below_step (hq HB) hb); have n1_ := A_ (hbox); have n2_ := A_ ((by rw [hg]; exact (below_size (hq HB)) : w.heap.size ≤ gb363)); have n3_ := A_ ((by rw [hg]; exact (below_size (hq HB)) : w.heap.size ≤ gb363)); clear HB; have HB := n0_; have BK363 := n1_; have GW363 := n2_; have GE363 := n3_; clear n0_ n1_ n2_ n3_; clear hb hbox hg))
  go_ret
  exact ⟨rt, hq HB⟩
 ·
  rw [if_neg c7] at H
  have c7b0 : decide (1048576 < (l1.length : Int)) = false := decide_eq_false c7
  have c7b1 : decide (1048576 < l1.length) = false := decide_eq_false (by omega)
  clear c7
  by_cases c9 : (l2.length : Int) > 1048576
  ·
   rw [if_pos c9] at H
   have c9b0 : decide (1048576 < (l2.length : Int)) = true := decide_eq_true c9
   have c9b1 : decide (1048576 < l2.length) = true := decide_eq_true (by omega)
   clear c9
   obtain rfl := Option.some.inj H
   go_enter Try.func3, Try.ntmps3
   go_wp2_with (first | ((with_reducible refine gate_dst (N := 6) rfl ?_); refine box_event ?hg (N := 6) ?hd (cs := #[.int .i64 a0_0, .bool a0_1]) (t := 23) ?hr ?_; (case hd => rfl); (case hg => rfl); (case hr => first | (go_simp; done) | (go_simp; rfl)); intro gb363 hg w10 hbox hb; have n0_ := A_ (below_step (hq HB) hb); have n1_ := A_ (hbox); have n2_ := A_ ((by rw [hg]; exact (below_size (hq HB)) : w.heap.size ≤ gb363)); have n3_ := A_ ((by rw [hg]; exact (below_size (hq HB)) : w.heap.size ≤ gb363)); clear HB; have HB := n0_; have BK363 := n1_; have GW363 := n2_; have GE363 := n3_; clear n0_ n1_ n2_ n3_; clear hb hbox hg))
   go_ret
   exact ⟨rt, hq HB⟩
  ·
   rw [if_neg c9] at H
   have c9b0 : decide (1048576 < (l2.length : Int)) = false := decide_eq_false c9
   have c9b1 : decide (1048576 < l2.length) = false := decide_eq_false (by omega)
   clear c9
   by_cases c11 : (l4.length : Int) > 1048576
   ·
    rw [if_pos c11] at H
    have c11b0 : decide (1048576 < (l4.length : Int)) = true := decide_eq_true c11
    have c11b1 : decide (1048576 < l4.length) = true := decide_eq_true (by omega)
    clear c11
    obtain rfl := Option.some.inj H
    go_enter Try.func3, Try.ntmps3
    go_wp2_with (first | ((with_reducible refine gate_dst (N := 6) rfl ?_); refine box_event ?hg (N := 6) ?hd (cs := #[.int .i64 a0_0, .bool a0_1]) (t := 23) ?hr ?_; (case hd => rfl); (case hg => rfl); (case hr => first | (go_simp; done) | (go_simp; rfl)); intro gb363 hg w12 hbox hb; have n0_ := A_ (below_step (hq HB) hb); have n1_ := A_ (hbox); have n2_ := A_ ((by rw [hg]; exact (below_size (hq HB)) : w.heap.size ≤ gb363)); have n3_ := A_ ((by rw [hg]; exact (below_size (hq HB)) : w.heap.size ≤ gb363)); clear HB; have HB := n0_; have BK363 := n1_; have GW363 := n2_; have GE363 := n3_; clear n0_ n1_ n2_ n3_; clear hb hbox hg))
    go_ret
    exact ⟨rt, hq HB⟩
   ·
    rw [if_neg c11] at H
    have c11b0 : decide (1048576 < (l4.length : Int)) = false := decide_eq_false c11
    have c11b1 : decide (1048576 < l4.length) = false := decide_eq_false (by omega)
    clear c11
    replace H := Option.bind_eq_some_iff.mp H
    obtain ⟨⟨t364, t365⟩, A130, H⟩ := H
    replace H : ((laws_toIntS.f k l1).bind fun t366 => ((laws_toIntS.f k l2).bind fun t369 => ((laws_toIntS.f k l4).bind fun t372 => ((spec_TakenRuns.f k t364 t365 t366 t369 a3 t372 a5).bind fun bt375 => ((laws_toIntS.f k l1).bind fun t379 => ((laws_toIntS.f k l2).bind fun t382 => ((laws_toIntS.f k l4).bind fun t385 => ((laws_toRoad.f a0_0 a0_1).bind fun bt388 => ((impl_TakenRuns.f k bt388.1 bt388.2 t379 t382 a3 t385 a5).bind fun bt390 => ((laws_eqIntS.f k bt390.1 bt375.1).bind fun t394 => (if t394 = true then (laws_FnExactTakenRuns.j0 k l1 l2 a3 l4 a5 bt375.1 bt375.2 t379 t382 t385 bt390.1 bt390.2 (bt390.2 != bt375.2) a0_0 a0_1) else (laws_FnExactTakenRuns.j0 k l1 l2 a3 l4 a5 bt375.1 bt375.2 t379 t382 t385 bt390.1 bt390.2 true a0_0 a0_1)))))))))))) = some r := H
    have A13 := A_ A130
    clear A130
    replace H := Option.bind_eq_some_iff.mp H
    obtain ⟨t366, A140, H⟩ := H
    replace H : ((laws_toIntS.f k l2).bind fun t369 => ((laws_toIntS.f k l4).bind fun t372 => ((spec_TakenRuns.f k t364 t365 t366 t369 a3 t372 a5).bind fun bt375 => ((laws_toIntS.f k l1).bind fun t379 => ((laws_toIntS.f k l2).bind fun t382 => ((laws_toIntS.f k l4).bind fun t385 => ((laws_toRoad.f a0_0 a0_1).bind fun bt388 => ((impl_TakenRuns.f k bt388.1 bt388.2 t379 t382 a3 t385 a5).bind fun bt390 => ((laws_eqIntS.f k bt390.1 bt375.1).bind fun t394 => (if t394 = true then (laws_FnExactTakenRuns.j0 k l1 l2 a3 l4 a5 bt375.1 bt375.2 t379 t382 t385 bt390.1 bt390.2 (bt390.2 != bt375.2) a0_0 a0_1) else (laws_FnExactTakenRuns.j0 k l1 l2 a3 l4 a5 bt375.1 bt375.2 t379 t382 t385 bt390.1 bt390.2 true a0_0 a0_1))))))))))) = some r := H
    have A14 := A_ A140
    clear A140
    replace H := Option.bind_eq_some_iff.mp H
    obtain ⟨t369, A150, H⟩ := H
    replace H : ((laws_toIntS.f k l4).bind fun t372 => ((spec_TakenRuns.f k t364 t365 t366 t369 a3 t372 a5).bind fun bt375 => ((laws_toIntS.f k l1).bind fun t379 => ((laws_toIntS.f k l2).bind fun t382 => ((laws_toIntS.f k l4).bind fun t385 => ((laws_toRoad.f a0_0 a0_1).bind fun bt388 => ((impl_TakenRuns.f k bt388.1 bt388.2 t379 t382 a3 t385 a5).bind fun bt390 => ((laws_eqIntS.f k bt390.1 bt375.1).bind fun t394 => (if t394 = true then (laws_FnExactTakenRuns.j0 k l1 l2 a3 l4 a5 bt375.1 bt375.2 t379 t382 t385 bt390.1 bt390.2 (bt390.2 != bt375.2) a0_0 a0_1) else (laws_FnExactTakenRuns.j0 k l1 l2 a3 l4 a5 bt375.1 bt375.2 t379 t382 t385 bt390.1 bt390.2 true a0_0 a0_1)))))))))) = some r := H
    have A15 := A_ A150
    clear A150
    replace H := Option.bind_eq_some_iff.mp H
    obtain ⟨t372, A160, H⟩ := H
    replace H : ((spec_TakenRuns.f k t364 t365 t366 t369 a3 t372 a5).bind fun bt375 => ((laws_toIntS.f k l1).bind fun t379 => ((laws_toIntS.f k l2).bind fun t382 => ((laws_toIntS.f k l4).bind fun t385 => ((laws_toRoad.f a0_0 a0_1).bind fun bt388 => ((impl_TakenRuns.f k bt388.1 bt388.2 t379 t382 a3 t385 a5).bind fun bt390 => ((laws_eqIntS.f k bt390.1 bt375.1).bind fun t394 => (if t394 = true then (laws_FnExactTakenRuns.j0 k l1 l2 a3 l4 a5 bt375.1 bt375.2 t379 t382 t385 bt390.1 bt390.2 (bt390.2 != bt375.2) a0_0 a0_1) else (laws_FnExactTakenRuns.j0 k l1 l2 a3 l4 a5 bt375.1 bt375.2 t379 t382 t385 bt390.1 bt390.2 true a0_0 a0_1))))))))) = some r := H
    have A16 := A_ A160
    clear A160
    replace H := Option.bind_eq_some_iff.mp H
    obtain ⟨⟨t375, t378⟩, A170, H⟩ := H
    replace H : ((laws_toIntS.f k l1).bind fun t379 => ((laws_toIntS.f k l2).bind fun t382 => ((laws_toIntS.f k l4).bind fun t385 => ((laws_toRoad.f a0_0 a0_1).bind fun bt388 => ((impl_TakenRuns.f k bt388.1 bt388.2 t379 t382 a3 t385 a5).bind fun bt390 => ((laws_eqIntS.f k bt390.1 t375).bind fun t394 => (if t394 = true then (laws_FnExactTakenRuns.j0 k l1 l2 a3 l4 a5 t375 t378 t379 t382 t385 bt390.1 bt390.2 (bt390.2 != t378) a0_0 a0_1) else (laws_FnExactTakenRuns.j0 k l1 l2 a3 l4 a5 t375 t378 t379 t382 t385 bt390.1 bt390.2 true a0_0 a0_1)))))))) = some r := H
    have A17 := A_ A170
    clear A170
    replace H := Option.bind_eq_some_iff.mp H
    obtain ⟨t379, A180, H⟩ := H
    replace H : ((laws_toIntS.f k l2).bind fun t382 => ((laws_toIntS.f k l4).bind fun t385 => ((laws_toRoad.f a0_0 a0_1).bind fun bt388 => ((impl_TakenRuns.f k bt388.1 bt388.2 t379 t382 a3 t385 a5).bind fun bt390 => ((laws_eqIntS.f k bt390.1 t375).bind fun t394 => (if t394 = true then (laws_FnExactTakenRuns.j0 k l1 l2 a3 l4 a5 t375 t378 t379 t382 t385 bt390.1 bt390.2 (bt390.2 != t378) a0_0 a0_1) else (laws_FnExactTakenRuns.j0 k l1 l2 a3 l4 a5 t375 t378 t379 t382 t385 bt390.1 bt390.2 true a0_0 a0_1))))))) = some r := H
    have A18 := A_ A180
    clear A180
    replace H := Option.bind_eq_some_iff.mp H
    obtain ⟨t382, A190, H⟩ := H
    replace H : ((laws_toIntS.f k l4).bind fun t385 => ((laws_toRoad.f a0_0 a0_1).bind fun bt388 => ((impl_TakenRuns.f k bt388.1 bt388.2 t379 t382 a3 t385 a5).bind fun bt390 => ((laws_eqIntS.f k bt390.1 t375).bind fun t394 => (if t394 = true then (laws_FnExactTakenRuns.j0 k l1 l2 a3 l4 a5 t375 t378 t379 t382 t385 bt390.1 bt390.2 (bt390.2 != t378) a0_0 a0_1) else (laws_FnExactTakenRuns.j0 k l1 l2 a3 l4 a5 t375 t378 t379 t382 t385 bt390.1 bt390.2 true a0_0 a0_1)))))) = some r := H
    have A19 := A_ A190
    clear A190
    replace H := Option.bind_eq_some_iff.mp H
    obtain ⟨t385, A200, H⟩ := H
    replace H : ((laws_toRoad.f a0_0 a0_1).bind fun bt388 => ((impl_TakenRuns.f k bt388.1 bt388.2 t379 t382 a3 t385 a5).bind fun bt390 => ((laws_eqIntS.f k bt390.1 t375).bind fun t394 => (if t394 = true then (laws_FnExactTakenRuns.j0 k l1 l2 a3 l4 a5 t375 t378 t379 t382 t385 bt390.1 bt390.2 (bt390.2 != t378) a0_0 a0_1) else (laws_FnExactTakenRuns.j0 k l1 l2 a3 l4 a5 t375 t378 t379 t382 t385 bt390.1 bt390.2 true a0_0 a0_1))))) = some r := H
    have A20 := A_ A200
    clear A200
    replace H := Option.bind_eq_some_iff.mp H
    obtain ⟨⟨t388, t389⟩, A210, H⟩ := H
    replace H : ((impl_TakenRuns.f k t388 t389 t379 t382 a3 t385 a5).bind fun bt390 => ((laws_eqIntS.f k bt390.1 t375).bind fun t394 => (if t394 = true then (laws_FnExactTakenRuns.j0 k l1 l2 a3 l4 a5 t375 t378 t379 t382 t385 bt390.1 bt390.2 (bt390.2 != t378) a0_0 a0_1) else (laws_FnExactTakenRuns.j0 k l1 l2 a3 l4 a5 t375 t378 t379 t382 t385 bt390.1 bt390.2 true a0_0 a0_1)))) = some r := H
    have A21 := A_ A210
    clear A210
    replace H := Option.bind_eq_some_iff.mp H
    obtain ⟨⟨t390, t393⟩, A220, H⟩ := H
    replace H : ((laws_eqIntS.f k t390 t375).bind fun t394 => (if t394 = true then (laws_FnExactTakenRuns.j0 k l1 l2 a3 l4 a5 t375 t378 t379 t382 t385 t390 t393 (t393 != t378) a0_0 a0_1) else (laws_FnExactTakenRuns.j0 k l1 l2 a3 l4 a5 t375 t378 t379 t382 t385 t390 t393 true a0_0 a0_1))) = some r := H
    have A22 := A_ A220
    clear A220
    have HC23 := A_ H
    clear H
    go_enter Try.func3, Try.ntmps3
    go_upto_region 12 with (first | ((with_reducible refine gate_dst (N := 6) rfl ?_); refine box_event ?hg (N := 6) ?hd (cs := #[.int .i64 a0_0, .bool a0_1]) (t := 23) ?hr ?_; (case hd => rfl); (case hg => rfl); (case hr => first | (go_simp; done) | (go_simp; rfl)); intro gb363 hg w24 hbox hb; have n0_ := A_ (below_step (hq HB) hb); have n1_ := A_ (hbox); have n2_ := A_ ((by rw [hg]; exact (below_size (hq HB)) : w.heap.size ≤ gb363)); have n3_ := A_ ((by rw [hg]; exact (below_size (hq HB)) : w.heap.size ≤ gb363)); clear HB; have HB := n0_; have BK363 := n1_; have GW363 := n2_; have GE363 := n3_; clear n0_ n1_ n2_ n3_; clear hb hbox hg; have hcz25_0 : w24.cell? ⟨gb363, 0, none⟩ = some (.int .i64 a0_0) := bc BK363 0; have hcz25_1 : w24.cell? ⟨gb363, 1, none⟩ = some (.bool a0_1) := bc BK363 1; have hfz25_0 := blk_frozen BK363.out 0; have hfz25_1 := blk_frozen BK363.out 1) | ((with_reducible refine gate_callee (f := 8) rfl ?_); refine goesL_ (some 36) rfl rfl Try.func8 (by kernel_rfl) rfl #[.agg #[.int .i64 a0_0, .bool a0_1]] rfl gq ?_; (with_reducible refine (laws_toRoad.calls a0_0 a0_1 t364 t365 _ A13.out).mono ?_); rintro e w26 ⟨rfl, hb⟩; refine ⟨_, rfl, ?_⟩; have n0_ := A_ (blk_below (bq BK363) hb); have n1_ := A_ (below_step (hq HB) hb); clear BK363; clear HB; have BK363 := n0_; have HB := n1_; clear n0_ n1_; (try clear hb); (try clear hb2); (try clear hk); (try clear hi)) | ((with_reducible refine gate_callee (f := 9) rfl ?_); refine goesL_ (some 38) rfl rfl Try.func9 (by kernel_rfl) rfl #[.slice A1 l1.length c1] rfl gq ?_; (with_reducible refine (laws_toIntS.calls k _ _ l1 t366 _ ?side1 ?side2 A14.out).mono ?_); (case side1 => exact cq (Kd.C_below HR1.out HB.out)); (case side2 => exact HC1.out); rintro e w27 ⟨v367, rfl, ho0, hb⟩; refine ⟨_, rfl, ?_⟩; have n0_ := A_ (Kd.R_lower ho0 (below_size (hq HB))); have n1_ := A_ (blk_below (bq BK363) hb); have n2_ := A_ (below_step (hq HB) hb); clear BK363; clear HB; have HO368 := n0_; have BK363 := n1_; have HB := n2_; clear n0_ n1_ n2_; (try clear hb); (try clear hb2); (try clear hk); (try clear hi); (try clear ho0)) | ((with_reducible refine gate_callee (f := 9) rfl ?_); refine goesL_ (some 40) rfl rfl Try.func9 (by kernel_rfl) rfl #[.slice A2 l2.length c2] rfl gq ?_; (with_reducible refine (laws_toIntS.calls k _ _ l2 t369 _ ?side1 ?side2 A15.out).mono ?_); (case side1 => exact cq (Kd.C_below HR2.out HB.out)); (case side2 => exact HC2.out); rintro e w28 ⟨v370, rfl, ho0, hb⟩; refine ⟨_, rfl, ?_⟩; have n0_ := A_ (Kd.R_elder' (rq HO368) (Kd.R_base ho0) hb); have n1_ := A_ (Kd.R_lower (Kd.R_new' ho0 (Kd.R_lt (rq HO368))) (below_size (hq HB))); have n2_ := A_ (blk_below (bq BK363) hb); have n3_ := A_ (below_step (hq HB) hb); clear HO368; clear BK363; clear HB; have HO368 := n0_; have HO371 := n1_; have BK363 := n2_; have HB := n3_; clear n0_ n1_ n2_ n3_; (try clear hb); (try clear hb2); (try clear hk); (try clear hi); (try clear ho0)) | ((with_reducible refine gate_callee (f := 9) rfl ?_); refine goesL_ (some 43) rfl rfl Try.func9 (by kernel_rfl) rfl #[.slice A4 l4.length c4] rfl gq ?_; (with_reducible refine (laws_toIntS.calls k _ _ l4 t372 _ ?side1 ?side2 A16.out).mono ?_); (case side1 => exact cq (Kd.C_below HR4.out HB.out)); (case side2 => exact HC4.out); rintro e w29 ⟨v373, rfl, ho0, hb⟩; refine ⟨_, rfl, ?_⟩; have n0_ := A_ (Kd.R_elder' (rq HO368) (Kd.R_base ho0) hb); have n1_ := A_ (Kd.R_elder' (rq HO371) (Kd.R_base ho0) hb); have n2_ := A_ (Kd.R_lower (Kd.R_new' (Kd.R_new' ho0 (Kd.R_lt (rq HO368))) (Kd.R_lt (rq HO371))) (below_size (hq HB))); have n3_ := A_ (blk_below (bq BK363) hb); have n4_ := A_ (below_step (hq HB) hb); clear HO368; clear HO371; clear BK363; clear HB; have HO368 := n0_; have HO371 := n1_; have HO374 := n2_; have BK363 := n3_; have HB := n4_; clear n0_ n1_ n2_ n3_ n4_; (try clear hb); (try clear hb2); (try clear hk); (try clear hi); (try clear ho0); obtain ⟨Ao30, co30, eo30⟩ := Kd.R_slice HO368.out; subst eo30; obtain ⟨Ao31, co31, eo31⟩ := Kd.R_slice HO371.out; subst eo31; obtain ⟨Ao32, co32, eo32⟩ := Kd.R_slice HO374.out; subst eo32) | ((with_reducible refine gate_callee (f := 7) rfl ?_); refine goesL_ (some 45) rfl rfl Try.func7 (by kernel_rfl) rfl #[.agg #[.int .i64 t364, .bool t365], .slice Ao30 t366.length co30, .slice Ao31 t369.length co31, .int .i64 a3, .slice Ao32 t372.length co32, .bool a5] rfl gq ?_; (with_reducible refine (spec_TakenRuns.calls k t364 t365 _ _ t366 _ _ t369 a3 _ _ t372 a5 t375 t378 _ ?side1 ?side2 ?side3 ?side4 ?side5 ?side6 A17.out).mono ?_); (case side1 => exact cq (Kd.R_reads' HO368.out).2.2); (case side2 => exact (Kd.R_reads' HO368.out).2.1); (case side3 => exact cq (Kd.R_reads' HO371.out).2.2); (case side4 => exact (Kd.R_reads' HO371.out).2.1); (case side5 => exact cq (Kd.R_reads' HO374.out).2.2); (case side6 => exact (Kd.R_reads' HO374.out).2.1); rintro e w33 ⟨v376, rfl, ho0, hb⟩; refine ⟨_, rfl, ?_⟩; have n0_ := A_ (Kd.R_elder' (rq HO368) (Kd.R_base ho0) hb); have n1_ := A_ (Kd.R_elder' (rq HO371) (Kd.R_base ho0) hb); have n2_ := A_ (Kd.R_elder' (rq HO374) (Kd.R_base ho0) hb); have n3_ := A_ (Kd.R_lower (Kd.R_new' (Kd.R_new' (Kd.R_new' ho0 (Kd.R_lt (rq HO368))) (Kd.R_lt (rq HO371))) (Kd.R_lt (rq HO374))) (below_size (hq HB))); have n4_ := A_ (blk_below (bq BK363) hb); have n5_ := A_ (below_step (hq HB) hb); clear HO368; clear HO371; clear HO374; clear BK363; clear HB; have HO368 := n0_; have HO371 := n1_; have HO374 := n2_; have HO377 := n3_; have BK363 := n4_; have HB := n5_; clear n0_ n1_ n2_ n3_ n4_ n5_; (try clear hb); (try clear hb2); (try clear hk); (try clear hi); (try clear ho0)) | ((with_reducible refine gate_callee (f := 9) rfl ?_); refine goesL_ (some 49) rfl rfl Try.func9 (by kernel_rfl) rfl #[.slice A1 l1.length c1] rfl gq ?_; (with_reducible refine (laws_toIntS.calls k _ _ l1 t379 _ ?side1 ?side2 A18.out).mono ?_); (case side1 => exact cq (Kd.C_below HR1.out HB.out)); (case side2 => exact HC1.out); rintro e w34 ⟨v380, rfl, ho0, hb⟩; refine ⟨_, rfl, ?_⟩; have n0_ := A_ (Kd.R_elder' (rq HO368) (Kd.R_base ho0) hb); have n1_ := A_ (Kd.R_elder' (rq HO371) (Kd.R_base ho0) hb); have n2_ := A_ (Kd.R_elder' (rq HO374) (Kd.R_base ho0) hb); have n3_ := A_ (Kd.R_elder' (rq HO377) (Kd.R_base ho0) hb); have n4_ := A_ (Kd.R_lower (Kd.R_new' (Kd.R_new' (Kd.R_new' (Kd.R_new' ho0 (Kd.R_lt (rq HO368))) (Kd.R_lt (rq HO371))) (Kd.R_lt (rq HO374))) (Kd.R_lt (rq HO377))) (below_size (hq HB))); have n5_ := A_ (blk_below (bq BK363) hb); have n6_ := A_ (below_step (hq HB) hb); clear HO368; clear HO371; clear HO374; clear HO377; clear BK363; clear HB; have HO368 := n0_; have HO371 := n1_; have HO374 := n2_; have HO377 := n3_; have HO381 := n4_; have BK363 := n5_; have HB := n6_; clear n0_ n1_ n2_ n3_ n4_ n5_ n6_; (try clear hb); (try clear hb2); (try clear hk); (try clear hi); (try clear ho0)) | ((with_reducible refine gate_callee (f := 9) rfl ?_); refine goesL_ (some 51) rfl rfl Try.func9 (by kernel_rfl) rfl #[.slice A2 l2.length c2] rfl gq ?_; (with_reducible refine (laws_toIntS.calls k _ _ l2 t382 _ ?side1 ?side2 A19.out).mono ?_); (case side1 => exact cq (Kd.C_below HR2.out HB.out)); (case side2 => exact HC2.out); rintro e w35 ⟨v383, rfl, ho0, hb⟩; refine ⟨_, rfl, ?_⟩; have n0_ := A_ (Kd.R_elder' (rq HO368) (Kd.R_base ho0) hb); have n1_ := A_ (Kd.R_elder' (rq HO371) (Kd.R_base ho0) hb); have n2_ := A_ (Kd.R_elder' (rq HO374) (Kd.R_base ho0) hb); have n3_ := A_ (Kd.R_elder' (rq HO377) (Kd.R_base ho0) hb); have n4_ := A_ (Kd.R_elder' (rq HO381) (Kd.R_base ho0) hb); have n5_ := A_ (Kd.R_lower (Kd.R_new' (Kd.R_new' (Kd.R_new' (Kd.R_new' (Kd.R_new' ho0 (Kd.R_lt (rq HO368))) (Kd.R_lt (rq HO371))) (Kd.R_lt (rq HO374))) (Kd.R_lt (rq HO377))) (Kd.R_lt (rq HO381))) (below_size (hq HB))); have n6_ := A_ (blk_below (bq BK363) hb); have n7_ := A_ (below_step (hq HB) hb); clear HO368; clear HO371; clear HO374; clear HO377; clear HO381; clear BK363; clear HB; have HO368 := n0_; have HO371 := n1_; have HO374 := n2_; have HO377 := n3_; have HO381 := n4_; have HO384 := n5_; have BK363 := n6_; have HB := n7_; clear n0_ n1_ n2_ n3_ n4_ n5_ n6_ n7_; (try clear hb); (try clear hb2); (try clear hk); (try clear hi); (try clear ho0)) | ((with_reducible refine gate_callee (f := 9) rfl ?_); refine goesL_ (some 53) rfl rfl Try.func9 (by kernel_rfl) rfl #[.slice A4 l4.length c4] rfl gq ?_; (with_reducible refine (laws_toIntS.calls k _ _ l4 t385 _ ?side1 ?side2 A20.out).mono ?_); (case side1 => exact cq (Kd.C_below HR4.out HB.out)); (case side2 => exact HC4.out); rintro e w36 ⟨v386, rfl, ho0, hb⟩; refine ⟨_, rfl, ?_⟩; have n0_ := A_ (Kd.R_elder' (rq HO368) (Kd.R_base ho0) hb); have n1_ := A_ (Kd.R_elder' (rq HO371) (Kd.R_base ho0) hb); have n2_ := A_ (Kd.R_elder' (rq HO374) (Kd.R_base ho0) hb); have n3_ := A_ (Kd.R_elder' (rq HO377) (Kd.R_base ho0) hb); have n4_ := A_ (Kd.R_elder' (rq HO381) (Kd.R_base ho0) hb); have n5_ := A_ (Kd.R_elder' (rq HO384) (Kd.R_base ho0) hb); have n6_ := A_ (Kd.R_lower (Kd.R_new' (Kd.R_new' (Kd.R_new' (Kd.R_new' (Kd.R_new' (Kd.R_new' ho0 (Kd.R_lt (rq HO368))) (Kd.R_lt (rq HO371))) (Kd.R_lt (rq HO374))) (Kd.R_lt (rq HO377))) (Kd.R_lt (rq HO381))) (Kd.R_lt (rq HO384))) (below_size (hq HB))); have n7_ := A_ (blk_below (bq BK363) hb); have n8_ := A_ (below_step (hq HB) hb); clear HO368; clear HO371; clear HO374; clear HO377; clear HO381; clear HO384; clear BK363; clear HB; have HO368 := n0_; have HO371 := n1_; have HO374 := n2_; have HO377 := n3_; have HO381 := n4_; have HO384 := n5_; have HO387 := n6_; have BK363 := n7_; have HB := n8_; clear n0_ n1_ n2_ n3_ n4_ n5_ n6_ n7_ n8_; (try clear hb); (try clear hb2); (try clear hk); (try clear hi); (try clear ho0); have hcz37_0 : w36.cell? ⟨gb363, 0, none⟩ = some (.int .i64 a0_0) := bc BK363 0; have hcz37_1 : w36.cell? ⟨gb363, 1, none⟩ = some (.bool a0_1) := bc BK363 1; have hfz37_0 := blk_frozen BK363.out 0; have hfz37_1 := blk_frozen BK363.out 1) | ((with_reducible refine gate_callee (f := 8) rfl ?_); refine goesL_ (some 56) rfl rfl Try.func8 (by kernel_rfl) rfl #[.agg #[.int .i64 a0_0, .bool a0_1]] rfl gq ?_; (with_reducible refine (laws_toRoad.calls a0_0 a0_1 t388 t389 _ A21.out).mono ?_); rintro e w38 ⟨rfl, hb⟩; refine ⟨_, rfl, ?_⟩; have n0_ := A_ (Kd.R_below (rq HO368) hb); have n1_ := A_ (Kd.R_below (rq HO371) hb); have n2_ := A_ (Kd.R_below (rq HO374) hb); have n3_ := A_ (Kd.R_below (rq HO377) hb); have n4_ := A_ (Kd.R_below (rq HO381) hb); have n5_ := A_ (Kd.R_below (rq HO384) hb); have n6_ := A_ (Kd.R_below (rq HO387) hb); have n7_ := A_ (blk_below (bq BK363) hb); have n8_ := A_ (below_step (hq HB) hb); clear HO368; clear HO371; clear HO374; clear HO377; clear HO381; clear HO384; clear HO387; clear BK363; clear HB; have HO368 := n0_; have HO371 := n1_; have HO374 := n2_; have HO377 := n3_; have HO381 := n4_; have HO384 := n5_; have HO387 := n6_; have BK363 := n7_; have HB := n8_; clear n0_ n1_ n2_ n3_ n4_ n5_ n6_ n7_ n8_; (try clear hb); (try clear hb2); (try clear hk); (try clear hi); obtain ⟨Ao39, co39, eo39⟩ := Kd.R_slice HO381.out; subst eo39; obtain ⟨Ao40, co40, eo40⟩ := Kd.R_slice HO384.out; subst eo40; obtain ⟨Ao41, co41, eo41⟩ := Kd.R_slice HO387.out; subst eo41) | ((with_reducible refine gate_callee (f := 10) rfl ?_); refine goesL_ (some 62) rfl rfl Try.func10 (by kernel_rfl) rfl #[.agg #[.int .i64 t388, .bool t389], .slice Ao39 t379.length co39, .slice Ao40 t382.length co40, .int .i64 a3, .slice Ao41 t385.length co41, .bool a5] rfl gq ?_; (with_reducible refine (impl_TakenRuns.calls k t388 t389 _ _ t379 _ _ t382 a3 _ _ t385 a5 t390 t393 _ ?side1 ?side2 ?side3 ?side4 ?side5 ?side6 A22.out).mono ?_); (case side1 => exact cq (Kd.R_reads' HO381.out).2.2); (case side2 => exact (Kd.R_reads' HO381.out).2.1); (case side3 => exact cq (Kd.R_reads' HO384.out).2.2); (case side4 => exact (Kd.R_reads' HO384.out).2.1); (case side5 => exact cq (Kd.R_reads' HO387.out).2.2); (case side6 => exact (Kd.R_reads' HO387.out).2.1); rintro e w42 ⟨v391, rfl, ho0, hb⟩; refine ⟨_, rfl, ?_⟩; have n0_ := A_ (Kd.R_elder' (rq HO368) (Kd.R_base ho0) hb); have n1_ := A_ (Kd.R_elder' (rq HO371) (Kd.R_base ho0) hb); have n2_ := A_ (Kd.R_elder' (rq HO374) (Kd.R_base ho0) hb); have n3_ := A_ (Kd.R_elder' (rq HO377) (Kd.R_base ho0) hb); have n4_ := A_ (Kd.R_elder' (rq HO381) (Kd.R_base ho0) hb); have n5_ := A_ (Kd.R_elder' (rq HO384) (Kd.R_base ho0) hb); have n6_ := A_ (Kd.R_elder' (rq HO387) (Kd.R_base ho0) hb); have n7_ := A_ (Kd.R_lower (Kd.R_new' (Kd.R_new' (Kd.R_new' (Kd.R_new' (Kd.R_new' (Kd.R_new' (Kd.R_new' ho0 (Kd.R_lt (rq HO368))) (Kd.R_lt (rq HO371))) (Kd.R_lt (rq HO374))) (Kd.R_lt (rq HO377))) (Kd.R_lt (rq HO381))) (Kd.R_lt (rq HO384))) (Kd.R_lt (rq HO387))) (below_size (hq HB))); have n8_ := A_ (blk_below (bq BK363) hb); have n9_ := A_ (below_step (hq HB) hb); clear HO368; clear HO371; clear HO374; clear HO377; clear HO381; clear HO384; clear HO387; clear BK363; clear HB; have HO368 := n0_; have HO371 := n1_; have HO374 := n2_; have HO377 := n3_; have HO381 := n4_; have HO384 := n5_; have HO387 := n6_; have HO392 := n7_; have BK363 := n8_; have HB := n9_; clear n0_ n1_ n2_ n3_ n4_ n5_ n6_ n7_ n8_ n9_; (try clear hb); (try clear hb2); (try clear hk); (try clear hi); (try clear ho0)))
    (try simp only [Act.put, List.setIfInBounds_toArray, List.set_cons_zero, List.set_cons_succ])
    go_cut [73] (fun v73 wc => ∃ (kq : Nat) (x73_22 : Bool), v73 = .bool x73_22 ∧ Aside0 (laws_FnExactTakenRuns.j0 kq l1 l2 a3 l4 a5 t375 t378 t379 t382 t385 t390 t393 x73_22 a0_0 a0_1 = some r) ∧ Aside0 (kq ≤ k) ∧ Aside0 (Kd.R (Kd.int .i64) 3 wc w.heap.size (fun k_ => some k_ ≠ ((.slice Ao39 t379.length co39) : Value).ownBlock ∧ some k_ ≠ ((.slice Ao40 t382.length co40) : Value).ownBlock ∧ some k_ ≠ ((.slice Ao41 t385.length co41) : Value).ownBlock ∧ some k_ ≠ (v391 : Value).ownBlock) v376 t375) ∧ Aside0 (Kd.R (Kd.int .i64) 3 wc w.heap.size (fun k_ => some k_ ≠ (v376 : Value).ownBlock ∧ some k_ ≠ ((.slice Ao40 t382.length co40) : Value).ownBlock ∧ some k_ ≠ ((.slice Ao41 t385.length co41) : Value).ownBlock ∧ some k_ ≠ (v391 : Value).ownBlock) (.slice Ao39 t379.length co39) t379) ∧ Aside0 (Kd.R (Kd.int .i64) 3 wc w.heap.size (fun k_ => some k_ ≠ (v376 : Value).ownBlock ∧ some k_ ≠ ((.slice Ao39 t379.length co39) : Value).ownBlock ∧ some k_ ≠ ((.slice Ao41 t385.length co41) : Value).ownBlock ∧ some k_ ≠ (v391 : Value).ownBlock) (.slice Ao40 t382.length co40) t382) ∧ Aside0 (Kd.R (Kd.int .i64) 3 wc w.heap.size (fun k_ => some k_ ≠ (v376 : Value).ownBlock ∧ some k_ ≠ ((.slice Ao39 t379.length co39) : Value).ownBlock ∧ some k_ ≠ ((.slice Ao40 t382.length co40) : Value).ownBlock ∧ some k_ ≠ (v391 : Value).ownBlock) (.slice Ao41 t385.length co41) t385) ∧ Aside0 (Kd.R (Kd.int .i64) 3 wc w.heap.size (fun k_ => some k_ ≠ (v376 : Value).ownBlock ∧ some k_ ≠ ((.slice Ao39 t379.length co39) : Value).ownBlock ∧ some k_ ≠ ((.slice Ao40 t382.length co40) : Value).ownBlock ∧ some k_ ≠ ((.slice Ao41 t385.length co41) : Value).ownBlock) v391 t390) ∧ Aside0 (wc.heap[gb363]? = some (.cells #[.int .i64 a0_0, .bool a0_1] 23 (0, 0))) ∧ Aside0 (Below w.heap.size w wc))
    case first =>
     have H := HC23.out
     clear HC23
     replace H := Option.bind_eq_some_iff.mp H
     obtain ⟨t394, A430, H⟩ := H
     replace H : (if t394 = true then (laws_FnExactTakenRuns.j0 k l1 l2 a3 l4 a5 t375 t378 t379 t382 t385 t390 t393 (t393 != t378) a0_0 a0_1) else (laws_FnExactTakenRuns.j0 k l1 l2 a3 l4 a5 t375 t378 t379 t382 t385 t390 t393 true a0_0 a0_1)) = some r := H
     have A43 := A_ A430
     clear A430
     by_cases c44 : t394 = true
     ·
      subst c44
      have H1 : (laws_FnExactTakenRuns.j0 k l1 l2 a3 l4 a5 t375 t378 t379 t382 t385 t390 t393 (t393 != t378) a0_0 a0_1) = some r := by rw [if_pos rfl] at H; exact H
      clear H
      have H := H1
      clear H1
      have H' := A_ H
      clear H
      obtain ⟨Ao45, co45, eo45⟩ := Kd.R_slice HO392.out
      subst eo45
      obtain ⟨Ao46, co46, eo46⟩ := Kd.R_slice HO377.out
      subst eo46
      go_wp2_with (first | ((with_reducible refine gate_callee (f := 11) rfl ?_); refine goesL_ (some 67) rfl rfl Try.func11 (by kernel_rfl) rfl #[.slice Ao45 t390.length co45, .slice Ao46 t375.length co46] rfl gq ?_; (with_reducible refine (laws_eqIntS.calls k _ _ t390 _ _ t375 true _ ?side1 ?side2 ?side3 ?side4 A43.out).mono ?_); (case side1 => exact cq (Kd.R_reads' HO392.out).2.2); (case side2 => exact (Kd.R_reads' HO392.out).2.1); (case side3 => exact cq (Kd.R_reads' HO377.out).2.2); (case side4 => exact (Kd.R_reads' HO377.out).2.1); rintro e w' ⟨rfl, ⟨nd, rfl⟩⟩; refine ⟨_, rfl, ?_⟩))
      go_meet
      case rel => exact ⟨_, ((t393 != t378)), (by first | rfl | (simp; done) | (simp [*]; done)), H', ⟨by first | omega | exact Nat.le_refl _⟩, ⟨by (with_reducible repeat (first | apply Kd.R_alloc | apply Kd.R_drewN | apply Kd.R_drew)); exact Kd.R_mono HO377.out (fun _ hk => ⟨hk.1.1.1.2, ⟨hk.1.1.2, ⟨hk.1.2, hk.2⟩⟩⟩)⟩, ⟨by (with_reducible repeat (first | apply Kd.R_alloc | apply Kd.R_drewN | apply Kd.R_drew)); exact Kd.R_mono HO381.out (fun _ hk => ⟨hk.1.1.1.2, ⟨hk.1.1.2, ⟨hk.1.2, hk.2⟩⟩⟩)⟩, ⟨by (with_reducible repeat (first | apply Kd.R_alloc | apply Kd.R_drewN | apply Kd.R_drew)); exact Kd.R_mono HO384.out (fun _ hk => ⟨hk.1.1.1.2, ⟨hk.1.1.2, ⟨hk.1.2, hk.2⟩⟩⟩)⟩, ⟨by (with_reducible repeat (first | apply Kd.R_alloc | apply Kd.R_drewN | apply Kd.R_drew)); exact Kd.R_mono HO387.out (fun _ hk => ⟨hk.1.1.1.2, ⟨hk.1.1.2, ⟨hk.1.2, hk.2⟩⟩⟩)⟩, ⟨by (with_reducible repeat (first | apply Kd.R_alloc | apply Kd.R_drewN | apply Kd.R_drew)); exact Kd.R_mono HO392.out (fun _ hk => ⟨hk.1.1.1.2, ⟨hk.1.1.2, ⟨hk.1.2, hk.2⟩⟩⟩)⟩, ⟨bq BK363⟩, ⟨hq HB⟩⟩
     ·
      replace c44 := Bool.eq_false_iff.mpr c44
      subst c44
      have H1 : (laws_FnExactTakenRuns.j0 k l1 l2 a3 l4 a5 t375 t378 t379 t382 t385 t390 t393 true a0_0 a0_1) = some r := by rw [if_neg (show ¬ (false = true) by decide)] at H; exact H
      clear H
      have H := H1
      clear H1
      have H' := A_ H
      clear H
      obtain ⟨Ao47, co47, eo47⟩ := Kd.R_slice HO392.out
      subst eo47
      obtain ⟨Ao48, co48, eo48⟩ := Kd.R_slice HO377.out
      subst eo48
      go_wp2_with (first | ((with_reducible refine gate_callee (f := 11) rfl ?_); refine goesL_ (some 67) rfl rfl Try.func11 (by kernel_rfl) rfl #[.slice Ao47 t390.length co47, .slice Ao48 t375.length co48] rfl gq ?_; (with_reducible refine (laws_eqIntS.calls k _ _ t390 _ _ t375 false _ ?side1 ?side2 ?side3 ?side4 A43.out).mono ?_); (case side1 => exact cq (Kd.R_reads' HO392.out).2.2); (case side2 => exact (Kd.R_reads' HO392.out).2.1); (case side3 => exact cq (Kd.R_reads' HO377.out).2.2); (case side4 => exact (Kd.R_reads' HO377.out).2.1); rintro e w' ⟨rfl, ⟨nd, rfl⟩⟩; refine ⟨_, rfl, ?_⟩))
      go_meet
      case rel => exact ⟨_, (true), (by first | rfl | (simp; done) | (simp [*]; done)), H', ⟨by first | omega | exact Nat.le_refl _⟩, ⟨by (with_reducible repeat (first | apply Kd.R_alloc | apply Kd.R_drewN | apply Kd.R_drew)); exact Kd.R_mono HO377.out (fun _ hk => ⟨hk.1.1.1.2, ⟨hk.1.1.2, ⟨hk.1.2, hk.2⟩⟩⟩)⟩, ⟨by (with_reducible repeat (first | apply Kd.R_alloc | apply Kd.R_drewN | apply Kd.R_drew)); exact Kd.R_mono HO381.out (fun _ hk => ⟨hk.1.1.1.2, ⟨hk.1.1.2, ⟨hk.1.2, hk.2⟩⟩⟩)⟩, ⟨by (with_reducible repeat (first | apply Kd.R_alloc | apply Kd.R_drewN | apply Kd.R_drew)); exact Kd.R_mono HO384.out (fun _ hk => ⟨hk.1.1.1.2, ⟨hk.1.1.2, ⟨hk.1.2, hk.2⟩⟩⟩)⟩, ⟨by (with_reducible repeat (first | apply Kd.R_alloc | apply Kd.R_drewN | apply Kd.R_drew)); exact Kd.R_mono HO387.out (fun _ hk => ⟨hk.1.1.1.2, ⟨hk.1.1.2, ⟨hk.1.2, hk.2⟩⟩⟩)⟩, ⟨by (with_reducible repeat (first | apply Kd.R_alloc | apply Kd.R_drewN | apply Kd.R_drew)); exact Kd.R_mono HO392.out (fun _ hk => ⟨hk.1.1.1.2, ⟨hk.1.1.2, ⟨hk.1.2, hk.2⟩⟩⟩)⟩, ⟨bq BK363⟩, ⟨hq HB⟩⟩
    case rest =>
     clear HC23
     try clear c1
     try clear c2
     try clear p2
     try clear c3
     try clear c4
     try clear c7
     try clear c7b0
     try clear c7b1
     try clear c8
     try clear c9
     try clear c9b0
     try clear c9b1
     try clear c10
     try clear c11
     try clear c11b0
     try clear c11b1
     try clear c44
     try clear hcz25_0
     try clear hcz25_1
     try clear hcz37_0
     try clear hcz37_1
     try clear hfz25_0
     try clear hfz25_1
     try clear hfz37_0
     try clear hfz37_1
     obtain ⟨kq, x73_22, rfl, HA, HJ22, HO_13, HO_15, HO_16, HO_17, HO_18, BK363, HB⟩ := hcut
     cases kq with
     | zero => exact absurd HA.out (by simp [laws_FnExactTakenRuns.j0])
     | succ kj22 =>
      have H := HA.out
      clear HA
      simp only [laws_FnExactTakenRuns.j0] at H
      by_cases c49 : x73_22 = true
      ·
       subst c49
       have H1 : (some false) = some r := by rw [if_pos rfl] at H; exact H
       clear H
       have H := H1
       clear H1
       obtain rfl := Option.some.inj H
       exact absurd hr_ (by decide)
      ·
       replace c49 := Bool.eq_false_iff.mpr c49
       subst c49
       have H1 : ((laws_toIntS.f kj22 l1).bind fun t395 => ((laws_eqIntS.f kj22 t379 t395).bind fun t398 => (if t398 = true then ((laws_toIntS.f kj22 l2).bind fun t399 => ((laws_eqIntS.f kj22 t382 t399).bind fun t402 => (if t402 = true then ((laws_toIntS.f kj22 l4).bind fun t403 => ((laws_eqIntS.f kj22 t385 t403).bind fun t406 => (if t406 = true then ((laws_markIntS.f kj22 t379 1).bind fun bt407 => ((laws_markIntS.f kj22 t382 bt407.1).bind fun bt409 => ((laws_markIntS.f kj22 t385 bt409.1).bind fun bt411 => (if bt411.1 < 0 then (laws_FnExactTakenRuns.j1 kj22 l1 l2 a3 l4 a5 t375 t378 t390 true a0_0 a0_1) else ((laws_eqIntS.f kj22 t390 t375).bind fun t413 => (if t413 = true then (laws_FnExactTakenRuns.j1 kj22 l1 l2 a3 l4 a5 t375 t378 t390 (t393 != t378) a0_0 a0_1) else (laws_FnExactTakenRuns.j1 kj22 l1 l2 a3 l4 a5 t375 t378 t390 true a0_0 a0_1))))))) else (some false)))) else (some false)))) else (some false)))) = some r := by rw [if_neg (show ¬ (false = true) by decide)] at H; exact H
       clear H
       have H := H1
       clear H1
       replace H := Option.bind_eq_some_iff.mp H
       obtain ⟨t395, A500, H⟩ := H
       replace H : ((laws_eqIntS.f kj22 t379 t395).bind fun t398 => (if t398 = true then ((laws_toIntS.f kj22 l2).bind fun t399 => ((laws_eqIntS.f kj22 t382 t399).bind fun t402 => (if t402 = true then ((laws_toIntS.f kj22 l4).bind fun t403 => ((laws_eqIntS.f kj22 t385 t403).bind fun t406 => (if t406 = true then ((laws_markIntS.f kj22 t379 1).bind fun bt407 => ((laws_markIntS.f kj22 t382 bt407.1).bind fun bt409 => ((laws_markIntS.f kj22 t385 bt409.1).bind fun bt411 => (if bt411.1 < 0 then (laws_FnExactTakenRuns.j1 kj22 l1 l2 a3 l4 a5 t375 t378 t390 true a0_0 a0_1) else ((laws_eqIntS.f kj22 t390 t375).bind fun t413 => (if t413 = true then (laws_FnExactTakenRuns.j1 kj22 l1 l2 a3 l4 a5 t375 t378 t390 (t393 != t378) a0_0 a0_1) else (laws_FnExactTakenRuns.j1 kj22 l1 l2 a3 l4 a5 t375 t378 t390 true a0_0 a0_1))))))) else (some false)))) else (some false)))) else (some false))) = some r := H
       have A50 := A_ A500
       clear A500
       replace H := Option.bind_eq_some_iff.mp H
       obtain ⟨t398, A510, H⟩ := H
       replace H : (if t398 = true then ((laws_toIntS.f kj22 l2).bind fun t399 => ((laws_eqIntS.f kj22 t382 t399).bind fun t402 => (if t402 = true then ((laws_toIntS.f kj22 l4).bind fun t403 => ((laws_eqIntS.f kj22 t385 t403).bind fun t406 => (if t406 = true then ((laws_markIntS.f kj22 t379 1).bind fun bt407 => ((laws_markIntS.f kj22 t382 bt407.1).bind fun bt409 => ((laws_markIntS.f kj22 t385 bt409.1).bind fun bt411 => (if bt411.1 < 0 then (laws_FnExactTakenRuns.j1 kj22 l1 l2 a3 l4 a5 t375 t378 t390 true a0_0 a0_1) else ((laws_eqIntS.f kj22 t390 t375).bind fun t413 => (if t413 = true then (laws_FnExactTakenRuns.j1 kj22 l1 l2 a3 l4 a5 t375 t378 t390 (t393 != t378) a0_0 a0_1) else (laws_FnExactTakenRuns.j1 kj22 l1 l2 a3 l4 a5 t375 t378 t390 true a0_0 a0_1))))))) else (some false)))) else (some false)))) else (some false)) = some r := H
       have A51 := A_ A510
       clear A510
       by_cases c52 : t398 = true
       ·
        subst c52
        have H1 : ((laws_toIntS.f kj22 l2).bind fun t399 => ((laws_eqIntS.f kj22 t382 t399).bind fun t402 => (if t402 = true then ((laws_toIntS.f kj22 l4).bind fun t403 => ((laws_eqIntS.f kj22 t385 t403).bind fun t406 => (if t406 = true then ((laws_markIntS.f kj22 t379 1).bind fun bt407 => ((laws_markIntS.f kj22 t382 bt407.1).bind fun bt409 => ((laws_markIntS.f kj22 t385 bt409.1).bind fun bt411 => (if bt411.1 < 0 then (laws_FnExactTakenRuns.j1 kj22 l1 l2 a3 l4 a5 t375 t378 t390 true a0_0 a0_1) else ((laws_eqIntS.f kj22 t390 t375).bind fun t413 => (if t413 = true then (laws_FnExactTakenRuns.j1 kj22 l1 l2 a3 l4 a5 t375 t378 t390 (t393 != t378) a0_0 a0_1) else (laws_FnExactTakenRuns.j1 kj22 l1 l2 a3 l4 a5 t375 t378 t390 true a0_0 a0_1))))))) else (some false)))) else (some false)))) = some r := by rw [if_pos rfl] at H; exact H
        clear H
        have H := H1
        clear H1
        replace H := Option.bind_eq_some_iff.mp H
        obtain ⟨t399, A530, H⟩ := H
        replace H : ((laws_eqIntS.f kj22 t382 t399).bind fun t402 => (if t402 = true then ((laws_toIntS.f kj22 l4).bind fun t403 => ((laws_eqIntS.f kj22 t385 t403).bind fun t406 => (if t406 = true then ((laws_markIntS.f kj22 t379 1).bind fun bt407 => ((laws_markIntS.f kj22 t382 bt407.1).bind fun bt409 => ((laws_markIntS.f kj22 t385 bt409.1).bind fun bt411 => (if bt411.1 < 0 then (laws_FnExactTakenRuns.j1 kj22 l1 l2 a3 l4 a5 t375 t378 t390 true a0_0 a0_1) else ((laws_eqIntS.f kj22 t390 t375).bind fun t413 => (if t413 = true then (laws_FnExactTakenRuns.j1 kj22 l1 l2 a3 l4 a5 t375 t378 t390 (t393 != t378) a0_0 a0_1) else (laws_FnExactTakenRuns.j1 kj22 l1 l2 a3 l4 a5 t375 t378 t390 true a0_0 a0_1))))))) else (some false)))) else (some false))) = some r := H
        have A53 := A_ A530
        clear A530
        replace H := Option.bind_eq_some_iff.mp H
        obtain ⟨t402, A540, H⟩ := H
        replace H : (if t402 = true then ((laws_toIntS.f kj22 l4).bind fun t403 => ((laws_eqIntS.f kj22 t385 t403).bind fun t406 => (if t406 = true then ((laws_markIntS.f kj22 t379 1).bind fun bt407 => ((laws_markIntS.f kj22 t382 bt407.1).bind fun bt409 => ((laws_markIntS.f kj22 t385 bt409.1).bind fun bt411 => (if bt411.1 < 0 then (laws_FnExactTakenRuns.j1 kj22 l1 l2 a3 l4 a5 t375 t378 t390 true a0_0 a0_1) else ((laws_eqIntS.f kj22 t390 t375).bind fun t413 => (if t413 = true then (laws_FnExactTakenRuns.j1 kj22 l1 l2 a3 l4 a5 t375 t378 t390 (t393 != t378) a0_0 a0_1) else (laws_FnExactTakenRuns.j1 kj22 l1 l2 a3 l4 a5 t375 t378 t390 true a0_0 a0_1))))))) else (some false)))) else (some false)) = some r := H
        have A54 := A_ A540
        clear A540
        by_cases c55 : t402 = true
        ·
         subst c55
         have H1 : ((laws_toIntS.f kj22 l4).bind fun t403 => ((laws_eqIntS.f kj22 t385 t403).bind fun t406 => (if t406 = true then ((laws_markIntS.f kj22 t379 1).bind fun bt407 => ((laws_markIntS.f kj22 t382 bt407.1).bind fun bt409 => ((laws_markIntS.f kj22 t385 bt409.1).bind fun bt411 => (if bt411.1 < 0 then (laws_FnExactTakenRuns.j1 kj22 l1 l2 a3 l4 a5 t375 t378 t390 true a0_0 a0_1) else ((laws_eqIntS.f kj22 t390 t375).bind fun t413 => (if t413 = true then (laws_FnExactTakenRuns.j1 kj22 l1 l2 a3 l4 a5 t375 t378 t390 (t393 != t378) a0_0 a0_1) else (laws_FnExactTakenRuns.j1 kj22 l1 l2 a3 l4 a5 t375 t378 t390 true a0_0 a0_1))))))) else (some false)))) = some r := by rw [if_pos rfl] at H; exact H
         clear H
         have H := H1
         clear H1
         replace H := Option.bind_eq_some_iff.mp H
         obtain ⟨t403, A560, H⟩ := H
         replace H : ((laws_eqIntS.f kj22 t385 t403).bind fun t406 => (if t406 = true then ((laws_markIntS.f kj22 t379 1).bind fun bt407 => ((laws_markIntS.f kj22 t382 bt407.1).bind fun bt409 => ((laws_markIntS.f kj22 t385 bt409.1).bind fun bt411 => (if bt411.1 < 0 then (laws_FnExactTakenRuns.j1 kj22 l1 l2 a3 l4 a5 t375 t378 t390 true a0_0 a0_1) else ((laws_eqIntS.f kj22 t390 t375).bind fun t413 => (if t413 = true then (laws_FnExactTakenRuns.j1 kj22 l1 l2 a3 l4 a5 t375 t378 t390 (t393 != t378) a0_0 a0_1) else (laws_FnExactTakenRuns.j1 kj22 l1 l2 a3 l4 a5 t375 t378 t390 true a0_0 a0_1))))))) else (some false))) = some r := H
         have A56 := A_ A560
         clear A560
         replace H := Option.bind_eq_some_iff.mp H
         obtain ⟨t406, A570, H⟩ := H
         replace H : (if t406 = true then ((laws_markIntS.f kj22 t379 1).bind fun bt407 => ((laws_markIntS.f kj22 t382 bt407.1).bind fun bt409 => ((laws_markIntS.f kj22 t385 bt409.1).bind fun bt411 => (if bt411.1 < 0 then (laws_FnExactTakenRuns.j1 kj22 l1 l2 a3 l4 a5 t375 t378 t390 true a0_0 a0_1) else ((laws_eqIntS.f kj22 t390 t375).bind fun t413 => (if t413 = true then (laws_FnExactTakenRuns.j1 kj22 l1 l2 a3 l4 a5 t375 t378 t390 (t393 != t378) a0_0 a0_1) else (laws_FnExactTakenRuns.j1 kj22 l1 l2 a3 l4 a5 t375 t378 t390 true a0_0 a0_1))))))) else (some false)) = some r := H
         have A57 := A_ A570
         clear A570
         by_cases c58 : t406 = true
         ·
          subst c58
          have H1 : ((laws_markIntS.f kj22 t379 1).bind fun bt407 => ((laws_markIntS.f kj22 t382 bt407.1).bind fun bt409 => ((laws_markIntS.f kj22 t385 bt409.1).bind fun bt411 => (if bt411.1 < 0 then (laws_FnExactTakenRuns.j1 kj22 l1 l2 a3 l4 a5 t375 t378 t390 true a0_0 a0_1) else ((laws_eqIntS.f kj22 t390 t375).bind fun t413 => (if t413 = true then (laws_FnExactTakenRuns.j1 kj22 l1 l2 a3 l4 a5 t375 t378 t390 (t393 != t378) a0_0 a0_1) else (laws_FnExactTakenRuns.j1 kj22 l1 l2 a3 l4 a5 t375 t378 t390 true a0_0 a0_1))))))) = some r := by rw [if_pos rfl] at H; exact H
          clear H
          have H := H1
          clear H1
          replace H := Option.bind_eq_some_iff.mp H
          obtain ⟨⟨t407, t408⟩, A590, H⟩ := H
          replace H : ((laws_markIntS.f kj22 t382 t407).bind fun bt409 => ((laws_markIntS.f kj22 t385 bt409.1).bind fun bt411 => (if bt411.1 < 0 then (laws_FnExactTakenRuns.j1 kj22 l1 l2 a3 l4 a5 t375 t378 t390 true a0_0 a0_1) else ((laws_eqIntS.f kj22 t390 t375).bind fun t413 => (if t413 = true then (laws_FnExactTakenRuns.j1 kj22 l1 l2 a3 l4 a5 t375 t378 t390 (t393 != t378) a0_0 a0_1) else (laws_FnExactTakenRuns.j1 kj22 l1 l2 a3 l4 a5 t375 t378 t390 true a0_0 a0_1)))))) = some r := H
          have A59 := A_ A590
          clear A590
          replace H := Option.bind_eq_some_iff.mp H
          obtain ⟨⟨t409, t410⟩, A600, H⟩ := H
          replace H : ((laws_markIntS.f kj22 t385 t409).bind fun bt411 => (if bt411.1 < 0 then (laws_FnExactTakenRuns.j1 kj22 l1 l2 a3 l4 a5 t375 t378 t390 true a0_0 a0_1) else ((laws_eqIntS.f kj22 t390 t375).bind fun t413 => (if t413 = true then (laws_FnExactTakenRuns.j1 kj22 l1 l2 a3 l4 a5 t375 t378 t390 (t393 != t378) a0_0 a0_1) else (laws_FnExactTakenRuns.j1 kj22 l1 l2 a3 l4 a5 t375 t378 t390 true a0_0 a0_1))))) = some r := H
          have A60 := A_ A600
          clear A600
          replace H := Option.bind_eq_some_iff.mp H
          obtain ⟨⟨t411, t412⟩, A610, H⟩ := H
          replace H : (if t411 < 0 then (laws_FnExactTakenRuns.j1 kj22 l1 l2 a3 l4 a5 t375 t378 t390 true a0_0 a0_1) else ((laws_eqIntS.f kj22 t390 t375).bind fun t413 => (if t413 = true then (laws_FnExactTakenRuns.j1 kj22 l1 l2 a3 l4 a5 t375 t378 t390 (t393 != t378) a0_0 a0_1) else (laws_FnExactTakenRuns.j1 kj22 l1 l2 a3 l4 a5 t375 t378 t390 true a0_0 a0_1)))) = some r := H
          have A61 := A_ A610
          clear A610
          have HC62 := A_ H
          clear H
          go_upto_region 24 with (first | ((with_reducible refine gate_callee (f := 9) rfl ?_); refine goesL_ (some 76) rfl rfl Try.func9 (by kernel_rfl) rfl #[.slice A1 l1.length c1] rfl gq ?_; (with_reducible refine (laws_toIntS.calls kj22 _ _ l1 t395 _ ?side1 ?side2 A50.out).mono ?_); (case side1 => exact cq (Kd.C_below HR1.out HB.out)); (case side2 => exact HC1.out); rintro e w63 ⟨v396, rfl, ho0, hb⟩; refine ⟨_, rfl, ?_⟩; have n0_ := A_ (Kd.R_elder' (rq HO_13) (Kd.R_base ho0) hb); have n1_ := A_ (Kd.R_elder' (rq HO_15) (Kd.R_base ho0) hb); have n2_ := A_ (Kd.R_elder' (rq HO_16) (Kd.R_base ho0) hb); have n3_ := A_ (Kd.R_elder' (rq HO_17) (Kd.R_base ho0) hb); have n4_ := A_ (Kd.R_elder' (rq HO_18) (Kd.R_base ho0) hb); have n5_ := A_ (Kd.R_lower (Kd.R_new' (Kd.R_new' (Kd.R_new' (Kd.R_new' (Kd.R_new' ho0 (Kd.R_lt (rq HO_13))) (Kd.R_lt (rq HO_15))) (Kd.R_lt (rq HO_16))) (Kd.R_lt (rq HO_17))) (Kd.R_lt (rq HO_18))) (below_size (hq HB))); have n6_ := A_ (blk_below (bq BK363) hb); have n7_ := A_ (below_step (hq HB) hb); clear HO_13; clear HO_15; clear HO_16; clear HO_17; clear HO_18; clear BK363; clear HB; have HO_13 := n0_; have HO_15 := n1_; have HO_16 := n2_; have HO_17 := n3_; have HO_18 := n4_; have HO397 := n5_; have BK363 := n6_; have HB := n7_; clear n0_ n1_ n2_ n3_ n4_ n5_ n6_ n7_; (try clear hb); (try clear hb2); (try clear hk); (try clear hi); (try clear ho0); obtain ⟨Ao64, co64, eo64⟩ := Kd.R_slice HO397.out; subst eo64) | ((with_reducible refine gate_callee (f := 11) rfl ?_); refine goesL_ (some 77) rfl rfl Try.func11 (by kernel_rfl) rfl #[.slice Ao39 t379.length co39, .slice Ao64 t395.length co64] rfl gq ?_; (with_reducible refine (laws_eqIntS.calls kj22 _ _ t379 _ _ t395 true _ ?side1 ?side2 ?side3 ?side4 A51.out).mono ?_); (case side1 => exact cq (Kd.R_reads' HO_15.out).2.2); (case side2 => exact (Kd.R_reads' HO_15.out).2.1); (case side3 => exact cq (Kd.R_reads' HO397.out).2.2); (case side4 => exact (Kd.R_reads' HO397.out).2.1); rintro e w' ⟨rfl, ⟨nd, rfl⟩⟩; refine ⟨_, rfl, ?_⟩) | ((with_reducible refine gate_callee (f := 9) rfl ?_); refine goesL_ (some 81) rfl rfl Try.func9 (by kernel_rfl) rfl #[.slice A2 l2.length c2] rfl gq ?_; (with_reducible refine (laws_toIntS.calls kj22 _ _ l2 t399 _ ?side1 ?side2 A53.out).mono ?_); (case side1 => exact cq (Kd.C_below HR2.out (hq HB))); (case side2 => exact HC2.out); rintro e w65 ⟨v400, rfl, ho0, hb⟩; refine ⟨_, rfl, ?_⟩; have n0_ := A_ (Kd.R_elder' (rq HO_13) (Kd.R_base ho0) hb); have n1_ := A_ (Kd.R_elder' (rq HO_15) (Kd.R_base ho0) hb); have n2_ := A_ (Kd.R_elder' (rq HO_16) (Kd.R_base ho0) hb); have n3_ := A_ (Kd.R_elder' (rq HO_17) (Kd.R_base ho0) hb); have n4_ := A_ (Kd.R_elder' (rq HO_18) (Kd.R_base ho0) hb); have n5_ := A_ (Kd.R_elder' (rq HO397) (Kd.R_base ho0) hb); have n6_ := A_ (Kd.R_lower (Kd.R_new' (Kd.R_new' (Kd.R_new' (Kd.R_new' (Kd.R_new' (Kd.R_new' ho0 (Kd.R_lt (rq HO_13))) (Kd.R_lt (rq HO_15))) (Kd.R_lt (rq HO_16))) (Kd.R_lt (rq HO_17))) (Kd.R_lt (rq HO_18))) (Kd.R_lt (rq HO397))) (below_size (hq HB))); have n7_ := A_ (blk_below (bq BK363) hb); have n8_ := A_ (below_step (hq HB) hb); clear HO_13; clear HO_15; clear HO_16; clear HO_17; clear HO_18; clear HO397; clear BK363; clear HB; have HO_13 := n0_; have HO_15 := n1_; have HO_16 := n2_; have HO_17 := n3_; have HO_18 := n4_; have HO397 := n5_; have HO401 := n6_; have BK363 := n7_; have HB := n8_; clear n0_ n1_ n2_ n3_ n4_ n5_ n6_ n7_ n8_; (try clear hb); (try clear hb2); (try clear hk); (try clear hi); (try clear ho0); obtain ⟨Ao66, co66, eo66⟩ := Kd.R_slice HO401.out; subst eo66) | ((with_reducible refine gate_callee (f := 11) rfl ?_); refine goesL_ (some 82) rfl rfl Try.func11 (by kernel_rfl) rfl #[.slice Ao40 t382.length co40, .slice Ao66 t399.length co66] rfl gq ?_; (with_reducible refine (laws_eqIntS.calls kj22 _ _ t382 _ _ t399 true _ ?side1 ?side2 ?side3 ?side4 A54.out).mono ?_); (case side1 => exact cq (Kd.R_reads' HO_16.out).2.2); (case side2 => exact (Kd.R_reads' HO_16.out).2.1); (case side3 => exact cq (Kd.R_reads' HO401.out).2.2); (case side4 => exact (Kd.R_reads' HO401.out).2.1); rintro e w' ⟨rfl, ⟨nd, rfl⟩⟩; refine ⟨_, rfl, ?_⟩) | ((with_reducible refine gate_callee (f := 9) rfl ?_); refine goesL_ (some 86) rfl rfl Try.func9 (by kernel_rfl) rfl #[.slice A4 l4.length c4] rfl gq ?_; (with_reducible refine (laws_toIntS.calls kj22 _ _ l4 t403 _ ?side1 ?side2 A56.out).mono ?_); (case side1 => exact cq (Kd.C_below HR4.out (hq HB))); (case side2 => exact HC4.out); rintro e w67 ⟨v404, rfl, ho0, hb⟩; refine ⟨_, rfl, ?_⟩; have n0_ := A_ (Kd.R_elder' (rq HO_13) (Kd.R_base ho0) hb); have n1_ := A_ (Kd.R_elder' (rq HO_15) (Kd.R_base ho0) hb); have n2_ := A_ (Kd.R_elder' (rq HO_16) (Kd.R_base ho0) hb); have n3_ := A_ (Kd.R_elder' (rq HO_17) (Kd.R_base ho0) hb); have n4_ := A_ (Kd.R_elder' (rq HO_18) (Kd.R_base ho0) hb); have n5_ := A_ (Kd.R_elder' (rq HO397) (Kd.R_base ho0) hb); have n6_ := A_ (Kd.R_elder' (rq HO401) (Kd.R_base ho0) hb); have n7_ := A_ (Kd.R_lower (Kd.R_new' (Kd.R_new' (Kd.R_new' (Kd.R_new' (Kd.R_new' (Kd.R_new' (Kd.R_new' ho0 (Kd.R_lt (rq HO_13))) (Kd.R_lt (rq HO_15))) (Kd.R_lt (rq HO_16))) (Kd.R_lt (rq HO_17))) (Kd.R_lt (rq HO_18))) (Kd.R_lt (rq HO397))) (Kd.R_lt (rq HO401))) (below_size (hq HB))); have n8_ := A_ (blk_below (bq BK363) hb); have n9_ := A_ (below_step (hq HB) hb); clear HO_13; clear HO_15; clear HO_16; clear HO_17; clear HO_18; clear HO397; clear HO401; clear BK363; clear HB; have HO_13 := n0_; have HO_15 := n1_; have HO_16 := n2_; have HO_17 := n3_; have HO_18 := n4_; have HO397 := n5_; have HO401 := n6_; have HO405 := n7_; have BK363 := n8_; have HB := n9_; clear n0_ n1_ n2_ n3_ n4_ n5_ n6_ n7_ n8_ n9_; (try clear hb); (try clear hb2); (try clear hk); (try clear hi); (try clear ho0); obtain ⟨Ao68, co68, eo68⟩ := Kd.R_slice HO405.out; subst eo68) | ((with_reducible refine gate_callee (f := 11) rfl ?_); refine goesL_ (some 87) rfl rfl Try.func11 (by kernel_rfl) rfl #[.slice Ao41 t385.length co41, .slice Ao68 t403.length co68] rfl gq ?_; (with_reducible refine (laws_eqIntS.calls kj22 _ _ t385 _ _ t403 true _ ?side1 ?side2 ?side3 ?side4 A57.out).mono ?_); (case side1 => exact cq (Kd.R_reads' HO_17.out).2.2); (case side2 => exact (Kd.R_reads' HO_17.out).2.1); (case side3 => exact cq (Kd.R_reads' HO405.out).2.2); (case side4 => exact (Kd.R_reads' HO405.out).2.1); rintro e w' ⟨rfl, ⟨nd, rfl⟩⟩; refine ⟨_, rfl, ?_⟩) | ((with_reducible refine gate_callee (f := 12) rfl ?_); refine goesL_ (some 91) rfl rfl Try.func12 (by kernel_rfl) rfl #[.slice Ao39 t379.length co39, .int .i64 1] rfl gq ?_; (with_reducible refine (laws_markIntS.calls kj22 (fun k_ => some k_ = (.slice Ao39 t379.length co39 : Value).ownBlock) (.slice Ao39 t379.length co39) t379 1 t407 t408 w _ ?side1 ?side2 A59.out).mono ?_); (case side1 => repeat (first | (with_reducible first | exact HB.out | apply below_alloc | apply pw_below_drewN | apply below_drew1 | refine below_set ?_ GE363.out) | exact HB.out)); (case side2 => exact Kd.R_tight rfl HO_15.out); rintro e w69 ⟨rfl, hy0, hb, hkp⟩; refine ⟨_, rfl, ?_⟩; have n0_ := A_ (Kd.R_mono (ok' := fun k_ => some k_ ≠ (.slice Ao39 t379.length co39 : Value).ownBlock ∧ some k_ ≠ (.slice Ao40 t382.length co40 : Value).ownBlock ∧ some k_ ≠ (.slice Ao41 t385.length co41 : Value).ownBlock ∧ some k_ ≠ (v391 : Value).ownBlock ∧ some k_ ≠ (.slice Ao64 t395.length co64 : Value).ownBlock ∧ some k_ ≠ (.slice Ao66 t399.length co66 : Value).ownBlock ∧ some k_ ≠ (.slice Ao68 t403.length co68 : Value).ownBlock) (Kd.R_keptB (HO_13.out) hkp (fun k_ hk_ hs_ => (hk_.1.1.1.1) hs_)) (fun k_ hk_ => ⟨hk_.1.1.1.1.1, hk_.1.1.1.1.2.1, hk_.1.1.1.1.2.2.1, hk_.1.1.1.1.2.2.2, hk_.1.1.1.2, hk_.1.1.2, hk_.1.2⟩)); have n1_ := A_ (Kd.R_reok rfl hy0 (fun k_ e_ => HO_15.out.1 k_ e_)); have n2_ := A_ (Kd.R_mono (ok' := fun k_ => some k_ ≠ (v376 : Value).ownBlock ∧ some k_ ≠ (.slice Ao39 t379.length co39 : Value).ownBlock ∧ some k_ ≠ (.slice Ao41 t385.length co41 : Value).ownBlock ∧ some k_ ≠ (v391 : Value).ownBlock ∧ some k_ ≠ (.slice Ao64 t395.length co64 : Value).ownBlock ∧ some k_ ≠ (.slice Ao66 t399.length co66 : Value).ownBlock ∧ some k_ ≠ (.slice Ao68 t403.length co68 : Value).ownBlock) (Kd.R_keptB (HO_16.out) hkp (fun k_ hk_ hs_ => (hk_.1.1.1.2.1) hs_)) (fun k_ hk_ => ⟨hk_.1.1.1.1.1, hk_.1.1.1.1.2.1, hk_.1.1.1.1.2.2.1, hk_.1.1.1.1.2.2.2, hk_.1.1.1.2, hk_.1.1.2, hk_.1.2⟩)); have n3_ := A_ (Kd.R_mono (ok' := fun k_ => some k_ ≠ (v376 : Value).ownBlock ∧ some k_ ≠ (.slice Ao39 t379.length co39 : Value).ownBlock ∧ some k_ ≠ (.slice Ao40 t382.length co40 : Value).ownBlock ∧ some k_ ≠ (v391 : Value).ownBlock ∧ some k_ ≠ (.slice Ao64 t395.length co64 : Value).ownBlock ∧ some k_ ≠ (.slice Ao66 t399.length co66 : Value).ownBlock ∧ some k_ ≠ (.slice Ao68 t403.length co68 : Value).ownBlock) (Kd.R_keptB (HO_17.out) hkp (fun k_ hk_ hs_ => (hk_.1.1.1.2.1) hs_)) (fun k_ hk_ => ⟨hk_.1.1.1.1.1, hk_.1.1.1.1.2.1, hk_.1.1.1.1.2.2.1, hk_.1.1.1.1.2.2.2, hk_.1.1.1.2, hk_.1.1.2, hk_.1.2⟩)); have n4_ := A_ (Kd.R_mono (ok' := fun k_ => some k_ ≠ (v376 : Value).ownBlock ∧ some k_ ≠ (.slice Ao39 t379.length co39 : Value).ownBlock ∧ some k_ ≠ (.slice Ao40 t382.length co40 : Value).ownBlock ∧ some k_ ≠ (.slice Ao41 t385.length co41 : Value).ownBlock ∧ some k_ ≠ (.slice Ao64 t395.length co64 : Value).ownBlock ∧ some k_ ≠ (.slice Ao66 t399.length co66 : Value).ownBlock ∧ some k_ ≠ (.slice Ao68 t403.length co68 : Value).ownBlock) (Kd.R_keptB (HO_18.out) hkp (fun k_ hk_ hs_ => (hk_.1.1.1.2.1) hs_)) (fun k_ hk_ => ⟨hk_.1.1.1.1.1, hk_.1.1.1.1.2.1, hk_.1.1.1.1.2.2.1, hk_.1.1.1.1.2.2.2, hk_.1.1.1.2, hk_.1.1.2, hk_.1.2⟩)); have n5_ := A_ (blk_kept (bq BK363) hkp (fun hs_ => (fun e_ => (Kd.R_ne HO_15.out BK363.out (by decide)) e_) hs_)); have n6_ := A_ (Kd.R_mono (ok' := fun k_ => some k_ ≠ (v376 : Value).ownBlock ∧ some k_ ≠ (.slice Ao39 t379.length co39 : Value).ownBlock ∧ some k_ ≠ (.slice Ao40 t382.length co40 : Value).ownBlock ∧ some k_ ≠ (.slice Ao41 t385.length co41 : Value).ownBlock ∧ some k_ ≠ (v391 : Value).ownBlock ∧ some k_ ≠ (.slice Ao66 t399.length co66 : Value).ownBlock ∧ some k_ ≠ (.slice Ao68 t403.length co68 : Value).ownBlock) (Kd.R_keptB (HO397.out) hkp (fun k_ hk_ hs_ => (hk_.1.1.1.1.1.2) hs_)) (fun k_ hk_ => ⟨hk_.1.1.1.1.1.1.1.2, hk_.1.1.1.1.1.1.2, hk_.1.1.1.1.1.2, hk_.1.1.1.1.2, hk_.1.1.1.2, hk_.1.1.2, hk_.1.2⟩)); have n7_ := A_ (Kd.R_mono (ok' := fun k_ => some k_ ≠ (v376 : Value).ownBlock ∧ some k_ ≠ (.slice Ao39 t379.length co39 : Value).ownBlock ∧ some k_ ≠ (.slice Ao40 t382.length co40 : Value).ownBlock ∧ some k_ ≠ (.slice Ao41 t385.length co41 : Value).ownBlock ∧ some k_ ≠ (v391 : Value).ownBlock ∧ some k_ ≠ (.slice Ao64 t395.length co64 : Value).ownBlock ∧ some k_ ≠ (.slice Ao68 t403.length co68 : Value).ownBlock) (Kd.R_keptB (HO401.out) hkp (fun k_ hk_ hs_ => (hk_.1.1.1.1.1.2) hs_)) (fun k_ hk_ => ⟨hk_.1.1.1.1.1.1.1.2, hk_.1.1.1.1.1.1.2, hk_.1.1.1.1.1.2, hk_.1.1.1.1.2, hk_.1.1.1.2, hk_.1.1.2, hk_.1.2⟩)); have n8_ := A_ (Kd.R_mono (ok' := fun k_ => some k_ ≠ (v376 : Value).ownBlock ∧ some k_ ≠ (.slice Ao39 t379.length co39 : Value).ownBlock ∧ some k_ ≠ (.slice Ao40 t382.length co40 : Value).ownBlock ∧ some k_ ≠ (.slice Ao41 t385.length co41 : Value).ownBlock ∧ some k_ ≠ (v391 : Value).ownBlock ∧ some k_ ≠ (.slice Ao64 t395.length co64 : Value).ownBlock ∧ some k_ ≠ (.slice Ao66 t399.length co66 : Value).ownBlock) (Kd.R_keptB (HO405.out) hkp (fun k_ hk_ hs_ => (hk_.1.1.1.1.1.2) hs_)) (fun k_ hk_ => ⟨hk_.1.1.1.1.1.1.1.2, hk_.1.1.1.1.1.1.2, hk_.1.1.1.1.1.2, hk_.1.1.1.1.2, hk_.1.1.1.2, hk_.1.1.2, hk_.1.2⟩)); have n9_ := A_ (hb); clear HO_13; clear HO_15; clear HO_16; clear HO_17; clear HO_18; clear BK363; clear HO397; clear HO401; clear HO405; clear HB; have HO_13 := n0_; have HO_15 := n1_; have HO_16 := n2_; have HO_17 := n3_; have HO_18 := n4_; have BK363 := n5_; have HO397 := n6_; have HO401 := n7_; have HO405 := n8_; have HB := n9_; clear n0_ n1_ n2_ n3_ n4_ n5_ n6_ n7_ n8_ n9_; (try clear hb); (try clear hkp); (try clear hy0)) | ((with_reducible refine gate_callee (f := 12) rfl ?_); refine goesL_ (some 94) rfl rfl Try.func12 (by kernel_rfl) rfl #[.slice Ao40 t382.length co40, .int .i64 t407] rfl gq ?_; (with_reducible refine (laws_markIntS.calls kj22 (fun k_ => some k_ = (.slice Ao40 t382.length co40 : Value).ownBlock) (.slice Ao40 t382.length co40) t382 t407 t409 t410 w _ ?side1 ?side2 A60.out).mono ?_); (case side1 => repeat (first | (with_reducible first | exact HB.out | apply below_alloc | apply pw_below_drewN | apply below_drew1 | refine below_set ?_ GE363.out) | exact HB.out)); (case side2 => exact Kd.R_tight rfl HO_16.out); rintro e w70 ⟨rfl, hy0, hb, hkp⟩; refine ⟨_, rfl, ?_⟩; have n0_ := A_ (Kd.R_mono (ok' := fun k_ => some k_ ≠ (.slice Ao39 t379.length co39 : Value).ownBlock ∧ some k_ ≠ (.slice Ao40 t382.length co40 : Value).ownBlock ∧ some k_ ≠ (.slice Ao41 t385.length co41 : Value).ownBlock ∧ some k_ ≠ (v391 : Value).ownBlock ∧ some k_ ≠ (.slice Ao64 t395.length co64 : Value).ownBlock ∧ some k_ ≠ (.slice Ao66 t399.length co66 : Value).ownBlock ∧ some k_ ≠ (.slice Ao68 t403.length co68 : Value).ownBlock) (Kd.R_keptB (HO_13.out) hkp (fun k_ hk_ hs_ => (hk_.2.1) hs_)) (fun k_ hk_ => ⟨hk_.1.1, hk_.1.2.1, hk_.1.2.2.1, hk_.1.2.2.2.1, hk_.1.2.2.2.2.1, hk_.1.2.2.2.2.2.1, hk_.1.2.2.2.2.2.2⟩)); have n1_ := A_ (Kd.R_mono (ok' := fun k_ => some k_ ≠ (v376 : Value).ownBlock ∧ some k_ ≠ (.slice Ao40 t382.length co40 : Value).ownBlock ∧ some k_ ≠ (.slice Ao41 t385.length co41 : Value).ownBlock ∧ some k_ ≠ (v391 : Value).ownBlock ∧ some k_ ≠ (.slice Ao64 t395.length co64 : Value).ownBlock ∧ some k_ ≠ (.slice Ao66 t399.length co66 : Value).ownBlock ∧ some k_ ≠ (.slice Ao68 t403.length co68 : Value).ownBlock) (Kd.R_keptB (HO_15.out) hkp (fun k_ hk_ hs_ => (hk_.1.1.1.2.1) hs_)) (fun k_ hk_ => ⟨hk_.1.1.1.1.1, hk_.1.1.1.1.2.1, hk_.1.1.1.1.2.2.1, hk_.1.1.1.1.2.2.2, hk_.1.1.1.2, hk_.1.1.2, hk_.1.2⟩)); have n2_ := A_ (Kd.R_reok rfl hy0 (fun k_ e_ => HO_16.out.1 k_ e_)); have n3_ := A_ (Kd.R_mono (ok' := fun k_ => some k_ ≠ (v376 : Value).ownBlock ∧ some k_ ≠ (.slice Ao39 t379.length co39 : Value).ownBlock ∧ some k_ ≠ (.slice Ao40 t382.length co40 : Value).ownBlock ∧ some k_ ≠ (v391 : Value).ownBlock ∧ some k_ ≠ (.slice Ao64 t395.length co64 : Value).ownBlock ∧ some k_ ≠ (.slice Ao66 t399.length co66 : Value).ownBlock ∧ some k_ ≠ (.slice Ao68 t403.length co68 : Value).ownBlock) (Kd.R_keptB (HO_17.out) hkp (fun k_ hk_ hs_ => (hk_.2.2.1) hs_)) (fun k_ hk_ => ⟨hk_.1.1, hk_.1.2.1, hk_.1.2.2.1, hk_.1.2.2.2.1, hk_.1.2.2.2.2.1, hk_.1.2.2.2.2.2.1, hk_.1.2.2.2.2.2.2⟩)); have n4_ := A_ (Kd.R_mono (ok' := fun k_ => some k_ ≠ (v376 : Value).ownBlock ∧ some k_ ≠ (.slice Ao39 t379.length co39 : Value).ownBlock ∧ some k_ ≠ (.slice Ao40 t382.length co40 : Value).ownBlock ∧ some k_ ≠ (.slice Ao41 t385.length co41 : Value).ownBlock ∧ some k_ ≠ (.slice Ao64 t395.length co64 : Value).ownBlock ∧ some k_ ≠ (.slice Ao66 t399.length co66 : Value).ownBlock ∧ some k_ ≠ (.slice Ao68 t403.length co68 : Value).ownBlock) (Kd.R_keptB (HO_18.out) hkp (fun k_ hk_ hs_ => (hk_.2.2.1) hs_)) (fun k_ hk_ => ⟨hk_.1.1, hk_.1.2.1, hk_.1.2.2.1, hk_.1.2.2.2.1, hk_.1.2.2.2.2.1, hk_.1.2.2.2.2.2.1, hk_.1.2.2.2.2.2.2⟩)); have n5_ := A_ (blk_kept (bq BK363) hkp (fun hs_ => (fun e_ => (Kd.R_ne HO_16.out BK363.out (by decide)) e_) hs_)); have n6_ := A_ (Kd.R_mono (ok' := fun k_ => some k_ ≠ (v376 : Value).ownBlock ∧ some k_ ≠ (.slice Ao39 t379.length co39 : Value).ownBlock ∧ some k_ ≠ (.slice Ao40 t382.length co40 : Value).ownBlock ∧ some k_ ≠ (.slice Ao41 t385.length co41 : Value).ownBlock ∧ some k_ ≠ (v391 : Value).ownBlock ∧ some k_ ≠ (.slice Ao66 t399.length co66 : Value).ownBlock ∧ some k_ ≠ (.slice Ao68 t403.length co68 : Value).ownBlock) (Kd.R_keptB (HO397.out) hkp (fun k_ hk_ hs_ => (hk_.2.2.1) hs_)) (fun k_ hk_ => ⟨hk_.1.1, hk_.1.2.1, hk_.1.2.2.1, hk_.1.2.2.2.1, hk_.1.2.2.2.2.1, hk_.1.2.2.2.2.2.1, hk_.1.2.2.2.2.2.2⟩)); have n7_ := A_ (Kd.R_mono (ok' := fun k_ => some k_ ≠ (v376 : Value).ownBlock ∧ some k_ ≠ (.slice Ao39 t379.length co39 : Value).ownBlock ∧ some k_ ≠ (.slice Ao40 t382.length co40 : Value).ownBlock ∧ some k_ ≠ (.slice Ao41 t385.length co41 : Value).ownBlock ∧ some k_ ≠ (v391 : Value).ownBlock ∧ some k_ ≠ (.slice Ao64 t395.length co64 : Value).ownBlock ∧ some k_ ≠ (.slice Ao68 t403.length co68 : Value).ownBlock) (Kd.R_keptB (HO401.out) hkp (fun k_ hk_ hs_ => (hk_.2.2.1) hs_)) (fun k_ hk_ => ⟨hk_.1.1, hk_.1.2.1, hk_.1.2.2.1, hk_.1.2.2.2.1, hk_.1.2.2.2.2.1, hk_.1.2.2.2.2.2.1, hk_.1.2.2.2.2.2.2⟩)); have n8_ := A_ (Kd.R_mono (ok' := fun k_ => some k_ ≠ (v376 : Value).ownBlock ∧ some k_ ≠ (.slice Ao39 t379.length co39 : Value).ownBlock ∧ some k_ ≠ (.slice Ao40 t382.length co40 : Value).ownBlock ∧ some k_ ≠ (.slice Ao41 t385.length co41 : Value).ownBlock ∧ some k_ ≠ (v391 : Value).ownBlock ∧ some k_ ≠ (.slice Ao64 t395.length co64 : Value).ownBlock ∧ some k_ ≠ (.slice Ao66 t399.length co66 : Value).ownBlock) (Kd.R_keptB (HO405.out) hkp (fun k_ hk_ hs_ => (hk_.2.2.1) hs_)) (fun k_ hk_ => ⟨hk_.1.1, hk_.1.2.1, hk_.1.2.2.1, hk_.1.2.2.2.1, hk_.1.2.2.2.2.1, hk_.1.2.2.2.2.2.1, hk_.1.2.2.2.2.2.2⟩)); have n9_ := A_ (hb); clear HO_13; clear HO_15; clear HO_16; clear HO_17; clear HO_18; clear BK363; clear HO397; clear HO401; clear HO405; clear HB; have HO_13 := n0_; have HO_15 := n1_; have HO_16 := n2_; have HO_17 := n3_; have HO_18 := n4_; have BK363 := n5_; have HO397 := n6_; have HO401 := n7_; have HO405 := n8_; have HB := n9_; clear n0_ n1_ n2_ n3_ n4_ n5_ n6_ n7_ n8_ n9_; (try clear hb); (try clear hkp); (try clear hy0)) | ((with_reducible refine gate_callee (f := 12) rfl ?_); refine goesL_ (some 97) rfl rfl Try.func12 (by kernel_rfl) rfl #[.slice Ao41 t385.length co41, .int .i64 t409] rfl gq ?_; (with_reducible refine (laws_markIntS.calls kj22 (fun k_ => some k_ = (.slice Ao41 t385.length co41 : Value).ownBlock) (.slice Ao41 t385.length co41) t385 t409 t411 t412 w _ ?side1 ?side2 A61.out).mono ?_); (case side1 => repeat (first | (with_reducible first | exact HB.out | apply below_alloc | apply pw_below_drewN | apply below_drew1 | refine below_set ?_ GE363.out) | exact HB.out)); (case side2 => exact Kd.R_tight rfl HO_17.out); rintro e w71 ⟨rfl, hy0, hb, hkp⟩; refine ⟨_, rfl, ?_⟩; have n0_ := A_ (Kd.R_mono (ok' := fun k_ => some k_ ≠ (.slice Ao39 t379.length co39 : Value).ownBlock ∧ some k_ ≠ (.slice Ao40 t382.length co40 : Value).ownBlock ∧ some k_ ≠ (.slice Ao41 t385.length co41 : Value).ownBlock ∧ some k_ ≠ (v391 : Value).ownBlock ∧ some k_ ≠ (.slice Ao64 t395.length co64 : Value).ownBlock ∧ some k_ ≠ (.slice Ao66 t399.length co66 : Value).ownBlock ∧ some k_ ≠ (.slice Ao68 t403.length co68 : Value).ownBlock) (Kd.R_keptB (HO_13.out) hkp (fun k_ hk_ hs_ => (hk_.2.2.1) hs_)) (fun k_ hk_ => ⟨hk_.1.1, hk_.1.2.1, hk_.1.2.2.1, hk_.1.2.2.2.1, hk_.1.2.2.2.2.1, hk_.1.2.2.2.2.2.1, hk_.1.2.2.2.2.2.2⟩)); have n1_ := A_ (Kd.R_mono (ok' := fun k_ => some k_ ≠ (v376 : Value).ownBlock ∧ some k_ ≠ (.slice Ao40 t382.length co40 : Value).ownBlock ∧ some k_ ≠ (.slice Ao41 t385.length co41 : Value).ownBlock ∧ some k_ ≠ (v391 : Value).ownBlock ∧ some k_ ≠ (.slice Ao64 t395.length co64 : Value).ownBlock ∧ some k_ ≠ (.slice Ao66 t399.length co66 : Value).ownBlock ∧ some k_ ≠ (.slice Ao68 t403.length co68 : Value).ownBlock) (Kd.R_keptB (HO_15.out) hkp (fun k_ hk_ hs_ => (hk_.2.2.1) hs_)) (fun k_ hk_ => ⟨hk_.1.1, hk_.1.2.1, hk_.1.2.2.1, hk_.1.2.2.2.1, hk_.1.2.2.2.2.1, hk_.1.2.2.2.2.2.1, hk_.1.2.2.2.2.2.2⟩)); have n2_ := A_ (Kd.R_mono (ok' := fun k_ => some k_ ≠ (v376 : Value).ownBlock ∧ some k_ ≠ (.slice Ao39 t379.length co39 : Value).ownBlock ∧ some k_ ≠ (.slice Ao41 t385.length co41 : Value).ownBlock ∧ some k_ ≠ (v391 : Value).ownBlock ∧ some k_ ≠ (.slice Ao64 t395.length co64 : Value).ownBlock ∧ some k_ ≠ (.slice Ao66 t399.length co66 : Value).ownBlock ∧ some k_ ≠ (.slice Ao68 t403.length co68 : Value).ownBlock) (Kd.R_keptB (HO_16.out) hkp (fun k_ hk_ hs_ => (hk_.2.2.1) hs_)) (fun k_ hk_ => ⟨hk_.1.1, hk_.1.2.1, hk_.1.2.2.1, hk_.1.2.2.2.1, hk_.1.2.2.2.2.1, hk_.1.2.2.2.2.2.1, hk_.1.2.2.2.2.2.2⟩)); have n3_ := A_ (Kd.R_reok rfl hy0 (fun k_ e_ => HO_17.out.1 k_ e_)); have n4_ := A_ (Kd.R_mono (ok' := fun k_ => some k_ ≠ (v376 : Value).ownBlock ∧ some k_ ≠ (.slice Ao39 t379.length co39 : Value).ownBlock ∧ some k_ ≠ (.slice Ao40 t382.length co40 : Value).ownBlock ∧ some k_ ≠ (.slice Ao41 t385.length co41 : Value).ownBlock ∧ some k_ ≠ (.slice Ao64 t395.length co64 : Value).ownBlock ∧ some k_ ≠ (.slice Ao66 t399.length co66 : Value).ownBlock ∧ some k_ ≠ (.slice Ao68 t403.length co68 : Value).ownBlock) (Kd.R_keptB (HO_18.out) hkp (fun k_ hk_ hs_ => (hk_.2.2.2.1) hs_)) (fun k_ hk_ => ⟨hk_.1.1, hk_.1.2.1, hk_.1.2.2.1, hk_.1.2.2.2.1, hk_.1.2.2.2.2.1, hk_.1.2.2.2.2.2.1, hk_.1.2.2.2.2.2.2⟩)); have n5_ := A_ (blk_kept (bq BK363) hkp (fun hs_ => (fun e_ => (Kd.R_ne HO_17.out BK363.out (by decide)) e_) hs_)); have n6_ := A_ (Kd.R_mono (ok' := fun k_ => some k_ ≠ (v376 : Value).ownBlock ∧ some k_ ≠ (.slice Ao39 t379.length co39 : Value).ownBlock ∧ some k_ ≠ (.slice Ao40 t382.length co40 : Value).ownBlock ∧ some k_ ≠ (.slice Ao41 t385.length co41 : Value).ownBlock ∧ some k_ ≠ (v391 : Value).ownBlock ∧ some k_ ≠ (.slice Ao66 t399.length co66 : Value).ownBlock ∧ some k_ ≠ (.slice Ao68 t403.length co68 : Value).ownBlock) (Kd.R_keptB (HO397.out) hkp (fun k_ hk_ hs_ => (hk_.2.2.2.1) hs_)) (fun k_ hk_ => ⟨hk_.1.1, hk_.1.2.1, hk_.1.2.2.1, hk_.1.2.2.2.1, hk_.1.2.2.2.2.1, hk_.1.2.2.2.2.2.1, hk_.1.2.2.2.2.2.2⟩)); have n7_ := A_ (Kd.R_mono (ok' := fun k_ => some k_ ≠ (v376 : Value).ownBlock ∧ some k_ ≠ (.slice Ao39 t379.length co39 : Value).ownBlock ∧ some k_ ≠ (.slice Ao40 t382.length co40 : Value).ownBlock ∧ some k_ ≠ (.slice Ao41 t385.length co41 : Value).ownBlock ∧ some k_ ≠ (v391 : Value).ownBlock ∧ some k_ ≠ (.slice Ao64 t395.length co64 : Value).ownBlock ∧ some k_ ≠ (.slice Ao68 t403.length co68 : Value).ownBlock) (Kd.R_keptB (HO401.out) hkp (fun k_ hk_ hs_ => (hk_.2.2.2.1) hs_)) (fun k_ hk_ => ⟨hk_.1.1, hk_.1.2.1, hk_.1.2.2.1, hk_.1.2.2.2.1, hk_.1.2.2.2.2.1, hk_.1.2.2.2.2.2.1, hk_.1.2.2.2.2.2.2⟩)); have n8_ := A_ (Kd.R_mono (ok' := fun k_ => some k_ ≠ (v376 : Value).ownBlock ∧ some k_ ≠ (.slice Ao39 t379.length co39 : Value).ownBlock ∧ some k_ ≠ (.slice Ao40 t382.length co40 : Value).ownBlock ∧ some k_ ≠ (.slice Ao41 t385.length co41 : Value).ownBlock ∧ some k_ ≠ (v391 : Value).ownBlock ∧ some k_ ≠ (.slice Ao64 t395.length co64 : Value).ownBlock ∧ some k_ ≠ (.slice Ao66 t399.length co66 : Value).ownBlock) (Kd.R_keptB (HO405.out) hkp (fun k_ hk_ hs_ => (hk_.2.2.2.1) hs_)) (fun k_ hk_ => ⟨hk_.1.1, hk_.1.2.1, hk_.1.2.2.1, hk_.1.2.2.2.1, hk_.1.2.2.2.2.1, hk_.1.2.2.2.2.2.1, hk_.1.2.2.2.2.2.2⟩)); have n9_ := A_ (hb); clear HO_13; clear HO_15; clear HO_16; clear HO_17; clear HO_18; clear BK363; clear HO397; clear HO401; clear HO405; clear HB; have HO_13 := n0_; have HO_15 := n1_; have HO_16 := n2_; have HO_17 := n3_; have HO_18 := n4_; have BK363 := n5_; have HO397 := n6_; have HO401 := n7_; have HO405 := n8_; have HB := n9_; clear n0_ n1_ n2_ n3_ n4_ n5_ n6_ n7_ n8_ n9_; (try clear hb); (try clear hkp); (try clear hy0)))
          (try simp only [Act.put, List.setIfInBounds_toArray, List.set_cons_zero, List.set_cons_succ])
          go_cut [110] (fun v110 wc => ∃ (kq : Nat) (x110_61 : Bool), v110 = .bool x110_61 ∧ Aside0 (laws_FnExactTakenRuns.j1 kq l1 l2 a3 l4 a5 t375 t378 t390 x110_61 a0_0 a0_1 = some r) ∧ Aside0 (kq ≤ kj22) ∧ Aside0 (Kd.R (Kd.int .i64) 3 wc w.heap.size (fun k_ => some k_ ≠ (v391 : Value).ownBlock) v376 t375) ∧ Aside0 (Kd.R (Kd.int .i64) 3 wc w.heap.size (fun k_ => some k_ ≠ (v376 : Value).ownBlock) v391 t390) ∧ Aside0 (wc.heap[gb363]? = some (.cells #[.int .i64 a0_0, .bool a0_1] 23 (0, 0))) ∧ Aside0 (Below w.heap.size w wc))
          case first =>
           have H := HC62.out
           clear HC62
           by_cases c72 : t411 < 0
           ·
            rw [if_pos c72] at H
            have c72b0 : decide (t411 < 0) = true := decide_eq_true c72
            clear c72
            (first | rw [c72b0] | (simp only [i64_w, i32_w]; rw [c72b0]) | skip)
            have H' := A_ H
            clear H
            go_wp2
            go_meet
            case rel => exact ⟨_, (true), (by first | rfl | (simp; done) | (simp [*]; done)), H', ⟨by have := HJ22.out; first | omega | exact Nat.le_refl _⟩, ⟨by (with_reducible repeat (first | apply Kd.R_alloc | apply Kd.R_drewN | apply Kd.R_drew)); exact Kd.R_mono HO_13.out (fun _ => cj)⟩, ⟨by (with_reducible repeat (first | apply Kd.R_alloc | apply Kd.R_drewN | apply Kd.R_drew)); exact Kd.R_mono HO_18.out (fun _ => cj)⟩, ⟨bq BK363⟩, ⟨hq HB⟩⟩
           ·
            rw [if_neg c72] at H
            have c72b0 : decide (t411 < 0) = false := decide_eq_false c72
            clear c72
            (first | rw [c72b0] | (simp only [i64_w, i32_w]; rw [c72b0]) | skip)
            replace H := Option.bind_eq_some_iff.mp H
            obtain ⟨t413, A730, H⟩ := H
            replace H : (if t413 = true then (laws_FnExactTakenRuns.j1 kj22 l1 l2 a3 l4 a5 t375 t378 t390 (t393 != t378) a0_0 a0_1) else (laws_FnExactTakenRuns.j1 kj22 l1 l2 a3 l4 a5 t375 t378 t390 true a0_0 a0_1)) = some r := H
            have A73 := A_ A730
            clear A730
            by_cases c74 : t413 = true
            ·
             subst c74
             have H1 : (laws_FnExactTakenRuns.j1 kj22 l1 l2 a3 l4 a5 t375 t378 t390 (t393 != t378) a0_0 a0_1) = some r := by rw [if_pos rfl] at H; exact H
             clear H
             have H := H1
             clear H1
             have H' := A_ H
             clear H
             obtain ⟨Ao75, co75, eo75⟩ := Kd.R_slice HO_18.out
             subst eo75
             obtain ⟨Ao76, co76, eo76⟩ := Kd.R_slice HO_13.out
             subst eo76
             go_wp2_with (first | (go_at_call 11; (with_reducible refine (laws_eqIntS.calls kj22 _ _ t390 _ _ t375 true _ ?side1 ?side2 ?side3 ?side4 A73.out).mono ?_); (case side1 => exact cq (Kd.R_reads' HO_18.out).2.2); (case side2 => exact (Kd.R_reads' HO_18.out).2.1); (case side3 => exact cq (Kd.R_reads' HO_13.out).2.2); (case side4 => exact (Kd.R_reads' HO_13.out).2.1); rintro e w' ⟨rfl, ⟨nd, rfl⟩⟩))
             go_meet
             case rel => exact ⟨_, ((t393 != t378)), (by first | rfl | (simp; done) | (simp [*]; done)), H', ⟨by have := HJ22.out; first | omega | exact Nat.le_refl _⟩, ⟨by (with_reducible repeat (first | apply Kd.R_alloc | apply Kd.R_drewN | apply Kd.R_drew)); exact Kd.R_mono HO_13.out (fun _ => cj)⟩, ⟨by (with_reducible repeat (first | apply Kd.R_alloc | apply Kd.R_drewN | apply Kd.R_drew)); exact Kd.R_mono HO_18.out (fun _ => cj)⟩, ⟨bq BK363⟩, ⟨hq HB⟩⟩
            ·
             replace c74 := Bool.eq_false_iff.mpr c74
             subst c74
             have H1 : (laws_FnExactTakenRuns.j1 kj22 l1 l2 a3 l4 a5 t375 t378 t390 true a0_0 a0_1) = some r := by rw [if_neg (show ¬ (false = true) by decide)] at H; exact H
             clear H
             have H := H1
             clear H1
             have H' := A_ H
             clear H
             obtain ⟨Ao77, co77, eo77⟩ := Kd.R_slice HO_18.out
             subst eo77
             obtain ⟨Ao78, co78, eo78⟩ := Kd.R_slice HO_13.out
             subst eo78
             go_wp2_with (first | (go_at_call 11; (with_reducible refine (laws_eqIntS.calls kj22 _ _ t390 _ _ t375 false _ ?side1 ?side2 ?side3 ?side4 A73.out).mono ?_); (case side1 => exact cq (Kd.R_reads' HO_18.out).2.2); (case side2 => exact (Kd.R_reads' HO_18.out).2.1); (case side3 => exact cq (Kd.R_reads' HO_13.out).2.2); (case side4 => exact (Kd.R_reads' HO_13.out).2.1); rintro e w' ⟨rfl, ⟨nd, rfl⟩⟩))
             go_meet
             case rel => exact ⟨_, (true), (by first | rfl | (simp; done) | (simp [*]; done)), H', ⟨by have := HJ22.out; first | omega | exact Nat.le_refl _⟩, ⟨by (with_reducible repeat (first | apply Kd.R_alloc | apply Kd.R_drewN | apply Kd.R_drew)); exact Kd.R_mono HO_13.out (fun _ => cj)⟩, ⟨by (with_reducible repeat (first | apply Kd.R_alloc | apply Kd.R_drewN | apply Kd.R_drew)); exact Kd.R_mono HO_18.out (fun _ => cj)⟩, ⟨bq BK363⟩, ⟨hq HB⟩⟩
          case rest =>
           clear HC62
           try clear c1
           try clear c2
           try clear p2
           try clear c3
           try clear c4
           try clear c5
           try clear c7
           try clear c7b0
           try clear c7b1
           try clear c8
           try clear c9
           try clear c9b0
           try clear c9b1
           try clear c10
           try clear c11
           try clear c11b0
           try clear c11b1
           try clear c12
           try clear c44
           try clear c49
           try clear c52
           try clear c55
           try clear c58
           try clear c72
           try clear c72b0
           try clear c74
           try clear hcz25_0
           try clear hcz25_1
           try clear hcz37_0
           try clear hcz37_1
           try clear hfz25_0
           try clear hfz25_1
           try clear hfz37_0
           try clear hfz37_1
           try clear p2
           obtain ⟨kq, x110_61, rfl, HA, HJ61, HO_13, HO_18, BK363, HB⟩ := hcut
           cases kq with
           | zero => exact absurd HA.out (by simp [laws_FnExactTakenRuns.j1])
           | succ kj61 =>
            have H := HA.out
            clear HA
            simp only [laws_FnExactTakenRuns.j1] at H
            by_cases c79 : x110_61 = true
            ·
             subst c79
             have H1 : (some false) = some r := by rw [if_pos rfl] at H; exact H
             clear H
             have H := H1
             clear H1
             obtain rfl := Option.some.inj H
             exact absurd hr_ (by decide)
            ·
             replace c79 := Bool.eq_false_iff.mpr c79
             subst c79
             have H1 : ((laws_markIntS.f kj61 t390 1).bind fun bt414 => ((laws_heldIntS.f kj61 bt414.2 1).bind fun t416 => (if t416 < 0 then (some false) else (if t416 = bt414.1 then ((laws_toRoad.f a0_0 a0_1).bind fun bt417 => ((laws_toIntS.f kj61 l1).bind fun t419 => ((laws_toIntS.f kj61 l2).bind fun t422 => ((laws_toIntS.f kj61 l4).bind fun t425 => ((impl_TakenRuns.f kj61 bt417.1 bt417.2 t419 t422 a3 t425 a5).bind fun bt428 => ((laws_eqIntS.f kj61 bt428.1 t375).bind fun t432 => (if t432 = true then (laws_FnExactTakenRuns.j2 kj61 bt414.2 bt414.1 (bt428.2 != t378)) else (laws_FnExactTakenRuns.j2 kj61 bt414.2 bt414.1 true)))))))) else (some false))))) = some r := by rw [if_neg (show ¬ (false = true) by decide)] at H; exact H
             clear H
             have H := H1
             clear H1
             replace H := Option.bind_eq_some_iff.mp H
             obtain ⟨⟨t414, t415⟩, A800, H⟩ := H
             replace H : ((laws_heldIntS.f kj61 t415 1).bind fun t416 => (if t416 < 0 then (some false) else (if t416 = t414 then ((laws_toRoad.f a0_0 a0_1).bind fun bt417 => ((laws_toIntS.f kj61 l1).bind fun t419 => ((laws_toIntS.f kj61 l2).bind fun t422 => ((laws_toIntS.f kj61 l4).bind fun t425 => ((impl_TakenRuns.f kj61 bt417.1 bt417.2 t419 t422 a3 t425 a5).bind fun bt428 => ((laws_eqIntS.f kj61 bt428.1 t375).bind fun t432 => (if t432 = true then (laws_FnExactTakenRuns.j2 kj61 t415 t414 (bt428.2 != t378)) else (laws_FnExactTakenRuns.j2 kj61 t415 t414 true)))))))) else (some false)))) = some r := H
             have A80 := A_ A800
             clear A800
             replace H := Option.bind_eq_some_iff.mp H
             obtain ⟨t416, A810, H⟩ := H
             replace H : (if t416 < 0 then (some false) else (if t416 = t414 then ((laws_toRoad.f a0_0 a0_1).bind fun bt417 => ((laws_toIntS.f kj61 l1).bind fun t419 => ((laws_toIntS.f kj61 l2).bind fun t422 => ((laws_toIntS.f kj61 l4).bind fun t425 => ((impl_TakenRuns.f kj61 bt417.1 bt417.2 t419 t422 a3 t425 a5).bind fun bt428 => ((laws_eqIntS.f kj61 bt428.1 t375).bind fun t432 => (if t432 = true then (laws_FnExactTakenRuns.j2 kj61 t415 t414 (bt428.2 != t378)) else (laws_FnExactTakenRuns.j2 kj61 t415 t414 true)))))))) else (some false))) = some r := H
             have A81 := A_ A810
             clear A810
             by_cases c82 : t416 < 0
             ·
              rw [if_pos c82] at H
              have c82b0 : decide (t416 < 0) = true := decide_eq_true c82
              clear c82
              obtain rfl := Option.some.inj H
              exact absurd hr_ (by decide)
             ·
              rw [if_neg c82] at H
              have c82b0 : decide (t416 < 0) = false := decide_eq_false c82
              clear c82
              by_cases c85 : t416 = t414
              ·
               rw [if_pos c85] at H
               have c85b0 : (t416 == t414) = true := beq_iff_eq.mpr c85
               have c85b1 : (t416 != t414) = false := bne_eq_false_iff_eq.mpr c85
               clear c85
               replace H := Option.bind_eq_some_iff.mp H
               obtain ⟨⟨t417, t418⟩, A860, H⟩ := H
               replace H : ((laws_toIntS.f kj61 l1).bind fun t419 => ((laws_toIntS.f kj61 l2).bind fun t422 => ((laws_toIntS.f kj61 l4).bind fun t425 => ((impl_TakenRuns.f kj61 t417 t418 t419 t422 a3 t425 a5).bind fun bt428 => ((laws_eqIntS.f kj61 bt428.1 t375).bind fun t432 => (if t432 = true then (laws_FnExactTakenRuns.j2 kj61 t415 t414 (bt428.2 != t378)) else (laws_FnExactTakenRuns.j2 kj61 t415 t414 true))))))) = some r := H
               have A86 := A_ A860
               clear A860
               replace H := Option.bind_eq_some_iff.mp H
               obtain ⟨t419, A870, H⟩ := H
               replace H : ((laws_toIntS.f kj61 l2).bind fun t422 => ((laws_toIntS.f kj61 l4).bind fun t425 => ((impl_TakenRuns.f kj61 t417 t418 t419 t422 a3 t425 a5).bind fun bt428 => ((laws_eqIntS.f kj61 bt428.1 t375).bind fun t432 => (if t432 = true then (laws_FnExactTakenRuns.j2 kj61 t415 t414 (bt428.2 != t378)) else (laws_FnExactTakenRuns.j2 kj61 t415 t414 true)))))) = some r := H
               have A87 := A_ A870
               clear A870
               replace H := Option.bind_eq_some_iff.mp H
               obtain ⟨t422, A880, H⟩ := H
               replace H : ((laws_toIntS.f kj61 l4).bind fun t425 => ((impl_TakenRuns.f kj61 t417 t418 t419 t422 a3 t425 a5).bind fun bt428 => ((laws_eqIntS.f kj61 bt428.1 t375).bind fun t432 => (if t432 = true then (laws_FnExactTakenRuns.j2 kj61 t415 t414 (bt428.2 != t378)) else (laws_FnExactTakenRuns.j2 kj61 t415 t414 true))))) = some r := H
               have A88 := A_ A880
               clear A880
               replace H := Option.bind_eq_some_iff.mp H
               obtain ⟨t425, A890, H⟩ := H
               replace H : ((impl_TakenRuns.f kj61 t417 t418 t419 t422 a3 t425 a5).bind fun bt428 => ((laws_eqIntS.f kj61 bt428.1 t375).bind fun t432 => (if t432 = true then (laws_FnExactTakenRuns.j2 kj61 t415 t414 (bt428.2 != t378)) else (laws_FnExactTakenRuns.j2 kj61 t415 t414 true)))) = some r := H
               have A89 := A_ A890
               clear A890
               replace H := Option.bind_eq_some_iff.mp H
               obtain ⟨⟨t428, t431⟩, A900, H⟩ := H
               replace H : ((laws_eqIntS.f kj61 t428 t375).bind fun t432 => (if t432 = true then (laws_FnExactTakenRuns.j2 kj61 t415 t414 (t431 != t378)) else (laws_FnExactTakenRuns.j2 kj61 t415 t414 true))) = some r := H
               have A90 := A_ A900
               clear A900
               have HC91 := A_ H
               clear H
               obtain ⟨Ao92, co92, eo92⟩ := Kd.R_slice HO_18.out
               subst eo92
               go_upto_region 35 with (first | ((with_reducible refine gate_callee (f := 12) rfl ?_); refine goesL_ (some 113) rfl rfl Try.func12 (by kernel_rfl) rfl #[.slice Ao92 t390.length co92, .int .i64 1] rfl gq ?_; (with_reducible refine (laws_markIntS.calls kj61 (fun k_ => some k_ = (.slice Ao92 t390.length co92 : Value).ownBlock) (.slice Ao92 t390.length co92) t390 1 t414 t415 w _ ?side1 ?side2 A80.out).mono ?_); (case side1 => repeat (first | (with_reducible first | exact HB.out | apply below_alloc | apply pw_below_drewN | apply below_drew1 | refine below_set ?_ GE363.out) | exact HB.out)); (case side2 => exact Kd.R_tight rfl HO_18.out); rintro e w93 ⟨rfl, hy0, hb, hkp⟩; refine ⟨_, rfl, ?_⟩; have n0_ := A_ (Kd.R_mono (ok' := fun k_ => some k_ ≠ (.slice Ao92 t390.length co92 : Value).ownBlock) (Kd.R_keptB (HO_13.out) hkp (fun k_ hk_ hs_ => (hk_) hs_)) (fun k_ hk_ => hk_.1)); have n1_ := A_ (Kd.R_reok rfl hy0 (fun k_ e_ => HO_18.out.1 k_ e_)); have n2_ := A_ (blk_kept (bq BK363) hkp (fun hs_ => (fun e_ => (Kd.R_ne HO_18.out BK363.out (by decide)) e_) hs_)); have n3_ := A_ (hb); clear HO_13; clear HO_18; clear BK363; clear HB; have HO_13 := n0_; have HO_18 := n1_; have BK363 := n2_; have HB := n3_; clear n0_ n1_ n2_ n3_; (try clear hb); (try clear hkp); (try clear hy0)) | ((with_reducible refine gate_callee (f := 13) rfl ?_); refine goesL_ (some 116) rfl rfl Try.func13 (by kernel_rfl) rfl #[.slice Ao92 t415.length co92, .int .i64 1] rfl (by (try simp only [List.map_toArray, List.map_cons, List.map_nil]); first | done | (rw [show t415.length = t390.length from (Kd.R_reads' HO_18.out).1.symm] <;> rfl) | rfl | (simp only [List.length_drop, List.length_take]; rfl)) ?_; (with_reducible refine (laws_heldIntS.calls kj61 _ _ t415 1 t416 _ ?side1 ?side2 A81.out).mono ?_); (case side1 => exact cq (Kd.R_reads' HO_18.out).2.2); (case side2 => rw [show t415.length = t390.length from (Kd.R_reads' HO_18.out).1.symm]; exact (Kd.R_reads' HO_18.out).2.1); rintro e w' ⟨rfl, ⟨nd, rfl⟩⟩; refine ⟨_, rfl, ?_⟩; have hcz94_0 : w93.cell? ⟨gb363, 0, none⟩ = some (.int .i64 a0_0) := bc BK363 0; have hcz94_1 : w93.cell? ⟨gb363, 1, none⟩ = some (.bool a0_1) := bc BK363 1; have hfz94_0 := blk_frozen BK363.out 0; have hfz94_1 := blk_frozen BK363.out 1) | ((with_reducible refine gate_callee (f := 8) rfl ?_); refine goesL_ (some 124) rfl rfl Try.func8 (by kernel_rfl) rfl #[.agg #[.int .i64 a0_0, .bool a0_1]] rfl gq ?_; (with_reducible refine (laws_toRoad.calls a0_0 a0_1 t417 t418 _ A86.out).mono ?_); rintro e w95 ⟨rfl, hb⟩; refine ⟨_, rfl, ?_⟩; have n0_ := A_ (Kd.R_below (rq HO_13) hb); have n1_ := A_ (Kd.R_below (rq HO_18) hb); have n2_ := A_ (blk_below (bq BK363) hb); have n3_ := A_ (below_step (hq HB) hb); clear HO_13; clear HO_18; clear BK363; clear HB; have HO_13 := n0_; have HO_18 := n1_; have BK363 := n2_; have HB := n3_; clear n0_ n1_ n2_ n3_; (try clear hb); (try clear hb2); (try clear hk); (try clear hi)) | ((with_reducible refine gate_callee (f := 9) rfl ?_); refine goesL_ (some 126) rfl rfl Try.func9 (by kernel_rfl) rfl #[.slice A1 l1.length c1] rfl gq ?_; (with_reducible refine (laws_toIntS.calls kj61 _ _ l1 t419 _ ?side1 ?side2 A87.out).mono ?_); (case side1 => exact cq (Kd.C_below HR1.out HB.out)); (case side2 => exact HC1.out); rintro e w96 ⟨v420, rfl, ho0, hb⟩; refine ⟨_, rfl, ?_⟩; have n0_ := A_ (Kd.R_elder' (rq HO_13) (Kd.R_base ho0) hb); have n1_ := A_ (Kd.R_elder' (rq HO_18) (Kd.R_base ho0) hb); have n2_ := A_ (Kd.R_lower (Kd.R_new' (Kd.R_new' ho0 (Kd.R_lt (rq HO_13))) (Kd.R_lt (rq HO_18))) (below_size (hq HB))); have n3_ := A_ (blk_below (bq BK363) hb); have n4_ := A_ (below_step (hq HB) hb); clear HO_13; clear HO_18; clear BK363; clear HB; have HO_13 := n0_; have HO_18 := n1_; have HO421 := n2_; have BK363 := n3_; have HB := n4_; clear n0_ n1_ n2_ n3_ n4_; (try clear hb); (try clear hb2); (try clear hk); (try clear hi); (try clear ho0)) | ((with_reducible refine gate_callee (f := 9) rfl ?_); refine goesL_ (some 128) rfl rfl Try.func9 (by kernel_rfl) rfl #[.slice A2 l2.length c2] rfl gq ?_; (with_reducible refine (laws_toIntS.calls kj61 _ _ l2 t422 _ ?side1 ?side2 A88.out).mono ?_); (case side1 => exact cq (Kd.C_below HR2.out HB.out)); (case side2 => exact HC2.out); rintro e w97 ⟨v423, rfl, ho0, hb⟩; refine ⟨_, rfl, ?_⟩; have n0_ := A_ (Kd.R_elder' (rq HO_13) (Kd.R_base ho0) hb); have n1_ := A_ (Kd.R_elder' (rq HO_18) (Kd.R_base ho0) hb); have n2_ := A_ (Kd.R_elder' (rq HO421) (Kd.R_base ho0) hb); have n3_ := A_ (Kd.R_lower (Kd.R_new' (Kd.R_new' (Kd.R_new' ho0 (Kd.R_lt (rq HO_13))) (Kd.R_lt (rq HO_18))) (Kd.R_lt (rq HO421))) (below_size (hq HB))); have n4_ := A_ (blk_below (bq BK363) hb); have n5_ := A_ (below_step (hq HB) hb); clear HO_13; clear HO_18; clear HO421; clear BK363; clear HB; have HO_13 := n0_; have HO_18 := n1_; have HO421 := n2_; have HO424 := n3_; have BK363 := n4_; have HB := n5_; clear n0_ n1_ n2_ n3_ n4_ n5_; (try clear hb); (try clear hb2); (try clear hk); (try clear hi); (try clear ho0)) | ((with_reducible refine gate_callee (f := 9) rfl ?_); refine goesL_ (some 131) rfl rfl Try.func9 (by kernel_rfl) rfl #[.slice A4 l4.length c4] rfl gq ?_; (with_reducible refine (laws_toIntS.calls kj61 _ _ l4 t425 _ ?side1 ?side2 A89.out).mono ?_); (case side1 => exact cq (Kd.C_below HR4.out HB.out)); (case side2 => exact HC4.out); rintro e w98 ⟨v426, rfl, ho0, hb⟩; refine ⟨_, rfl, ?_⟩; have n0_ := A_ (Kd.R_elder' (rq HO_13) (Kd.R_base ho0) hb); have n1_ := A_ (Kd.R_elder' (rq HO_18) (Kd.R_base ho0) hb); have n2_ := A_ (Kd.R_elder' (rq HO421) (Kd.R_base ho0) hb); have n3_ := A_ (Kd.R_elder' (rq HO424) (Kd.R_base ho0) hb); have n4_ := A_ (Kd.R_lower (Kd.R_new' (Kd.R_new' (Kd.R_new' (Kd.R_new' ho0 (Kd.R_lt (rq HO_13))) (Kd.R_lt (rq HO_18))) (Kd.R_lt (rq HO421))) (Kd.R_lt (rq HO424))) (below_size (hq HB))); have n5_ := A_ (blk_below (bq BK363) hb); have n6_ := A_ (below_step (hq HB) hb); clear HO_13; clear HO_18; clear HO421; clear HO424; clear BK363; clear HB; have HO_13 := n0_; have HO_18 := n1_; have HO421 := n2_; have HO424 := n3_; have HO427 := n4_; have BK363 := n5_; have HB := n6_; clear n0_ n1_ n2_ n3_ n4_ n5_ n6_; (try clear hb); (try clear hb2); (try clear hk); (try clear hi); (try clear ho0); obtain ⟨Ao99, co99, eo99⟩ := Kd.R_slice HO421.out; subst eo99; obtain ⟨Ao100, co100, eo100⟩ := Kd.R_slice HO424.out; subst eo100; obtain ⟨Ao101, co101, eo101⟩ := Kd.R_slice HO427.out; subst eo101) | ((with_reducible refine gate_callee (f := 10) rfl ?_); refine goesL_ (some 133) rfl rfl Try.func10 (by kernel_rfl) rfl #[.agg #[.int .i64 t417, .bool t418], .slice Ao99 t419.length co99, .slice Ao100 t422.length co100, .int .i64 a3, .slice Ao101 t425.length co101, .bool a5] rfl gq ?_; (with_reducible refine (impl_TakenRuns.calls kj61 t417 t418 _ _ t419 _ _ t422 a3 _ _ t425 a5 t428 t431 _ ?side1 ?side2 ?side3 ?side4 ?side5 ?side6 A90.out).mono ?_); (case side1 => exact cq (Kd.R_reads' HO421.out).2.2); (case side2 => exact (Kd.R_reads' HO421.out).2.1); (case side3 => exact cq (Kd.R_reads' HO424.out).2.2); (case side4 => exact (Kd.R_reads' HO424.out).2.1); (case side5 => exact cq (Kd.R_reads' HO427.out).2.2); (case side6 => exact (Kd.R_reads' HO427.out).2.1); rintro e w102 ⟨v429, rfl, ho0, hb⟩; refine ⟨_, rfl, ?_⟩; have n0_ := A_ (Kd.R_elder' (rq HO_13) (Kd.R_base ho0) hb); have n1_ := A_ (Kd.R_elder' (rq HO_18) (Kd.R_base ho0) hb); have n2_ := A_ (Kd.R_elder' (rq HO421) (Kd.R_base ho0) hb); have n3_ := A_ (Kd.R_elder' (rq HO424) (Kd.R_base ho0) hb); have n4_ := A_ (Kd.R_elder' (rq HO427) (Kd.R_base ho0) hb); have n5_ := A_ (Kd.R_lower (Kd.R_new' (Kd.R_new' (Kd.R_new' (Kd.R_new' (Kd.R_new' ho0 (Kd.R_lt (rq HO_13))) (Kd.R_lt (rq HO_18))) (Kd.R_lt (rq HO421))) (Kd.R_lt (rq HO424))) (Kd.R_lt (rq HO427))) (below_size (hq HB))); have n6_ := A_ (blk_below (bq BK363) hb); have n7_ := A_ (below_step (hq HB) hb); clear HO_13; clear HO_18; clear HO421; clear HO424; clear HO427; clear BK363; clear HB; have HO_13 := n0_; have HO_18 := n1_; have HO421 := n2_; have HO424 := n3_; have HO427 := n4_; have HO430 := n5_; have BK363 := n6_; have HB := n7_; clear n0_ n1_ n2_ n3_ n4_ n5_ n6_ n7_; (try clear hb); (try clear hb2); (try clear hk); (try clear hi); (try clear ho0)))
               (try simp only [Act.put, List.setIfInBounds_toArray, List.set_cons_zero, List.set_cons_succ])
               go_cut [144] (fun v144 wc => ∃ (kq : Nat) (x144_90 : Bool), v144 = .bool x144_90 ∧ Aside0 (laws_FnExactTakenRuns.j2 kq t415 t414 x144_90 = some r) ∧ Aside0 (kq ≤ kj61) ∧ Aside0 (Kd.R (Kd.int .i64) 3 wc w.heap.size (fun _ => True) (.slice Ao92 t390.length co92) t415) ∧ Aside0 (wc.heap[gb363]? = some (.cells #[.int .i64 a0_0, .bool a0_1] 23 (0, 0))) ∧ Aside0 (Below w.heap.size w wc))
               case first =>
                have H := HC91.out
                clear HC91
                replace H := Option.bind_eq_some_iff.mp H
                obtain ⟨t432, A1030, H⟩ := H
                replace H : (if t432 = true then (laws_FnExactTakenRuns.j2 kj61 t415 t414 (t431 != t378)) else (laws_FnExactTakenRuns.j2 kj61 t415 t414 true)) = some r := H
                have A103 := A_ A1030
                clear A1030
                by_cases c104 : t432 = true
                ·
                 subst c104
                 have H1 : (laws_FnExactTakenRuns.j2 kj61 t415 t414 (t431 != t378)) = some r := by rw [if_pos rfl] at H; exact H
                 clear H
                 have H := H1
                 clear H1
                 have H' := A_ H
                 clear H
                 obtain ⟨Ao105, co105, eo105⟩ := Kd.R_slice HO430.out
                 subst eo105
                 obtain ⟨Ao106, co106, eo106⟩ := Kd.R_slice HO_13.out
                 subst eo106
                 go_wp2_with (first | ((with_reducible refine gate_callee (f := 11) rfl ?_); refine goesL_ (some 138) rfl rfl Try.func11 (by kernel_rfl) rfl #[.slice Ao105 t428.length co105, .slice Ao106 t375.length co106] rfl gq ?_; (with_reducible refine (laws_eqIntS.calls kj61 _ _ t428 _ _ t375 true _ ?side1 ?side2 ?side3 ?side4 A103.out).mono ?_); (case side1 => exact cq (Kd.R_reads' HO430.out).2.2); (case side2 => exact (Kd.R_reads' HO430.out).2.1); (case side3 => exact cq (Kd.R_reads' HO_13.out).2.2); (case side4 => exact (Kd.R_reads' HO_13.out).2.1); rintro e w' ⟨rfl, ⟨nd, rfl⟩⟩; refine ⟨_, rfl, ?_⟩))
                 go_meet
                 case rel => exact ⟨_, ((t431 != t378)), (by first | rfl | (simp; done) | (simp [*]; done)), H', ⟨by have := HJ22.out; have := HJ61.out; first | omega | exact Nat.le_refl _⟩, ⟨by (with_reducible repeat (first | apply Kd.R_alloc | apply Kd.R_drewN | apply Kd.R_drew)); exact Kd.R_mono HO_18.out (fun _ hk => trivial)⟩, ⟨bq BK363⟩, ⟨hq HB⟩⟩
                ·
                 replace c104 := Bool.eq_false_iff.mpr c104
                 subst c104
                 have H1 : (laws_FnExactTakenRuns.j2 kj61 t415 t414 true) = some r := by rw [if_neg (show ¬ (false = true) by decide)] at H; exact H
                 clear H
                 have H := H1
                 clear H1
                 have H' := A_ H
                 clear H
                 obtain ⟨Ao107, co107, eo107⟩ := Kd.R_slice HO430.out
                 subst eo107
                 obtain ⟨Ao108, co108, eo108⟩ := Kd.R_slice HO_13.out
                 subst eo108
                 go_wp2_with (first | ((with_reducible refine gate_callee (f := 11) rfl ?_); refine goesL_ (some 138) rfl rfl Try.func11 (by kernel_rfl) rfl #[.slice Ao107 t428.length co107, .slice Ao108 t375.length co108] rfl gq ?_; (with_reducible refine (laws_eqIntS.calls kj61 _ _ t428 _ _ t375 false _ ?side1 ?side2 ?side3 ?side4 A103.out).mono ?_); (case side1 => exact cq (Kd.R_reads' HO430.out).2.2); (case side2 => exact (Kd.R_reads' HO430.out).2.1); (case side3 => exact cq (Kd.R_reads' HO_13.out).2.2); (case side4 => exact (Kd.R_reads' HO_13.out).2.1); rintro e w' ⟨rfl, ⟨nd, rfl⟩⟩; refine ⟨_, rfl, ?_⟩))
                 go_meet
                 case rel => exact ⟨_, (true), (by first | rfl | (simp; done) | (simp [*]; done)), H', ⟨by have := HJ22.out; have := HJ61.out; first | omega | exact Nat.le_refl _⟩, ⟨by (with_reducible repeat (first | apply Kd.R_alloc | apply Kd.R_drewN | apply Kd.R_drew)); exact Kd.R_mono HO_18.out (fun _ hk => trivial)⟩, ⟨bq BK363⟩, ⟨hq HB⟩⟩
               case rest =>
                clear HC91
                try clear c1
                try clear c2
                try clear p2
                try clear c3
                try clear c4
                try clear c5
                try clear c7
                try clear c7b0
                try clear c7b1
                try clear c8
                try clear c9
                try clear c9b0
                try clear c9b1
                try clear c10
                try clear c11
                try clear c11b0
                try clear c11b1
                try clear c12
                try clear c13
                try clear c44
                try clear c49
                try clear c52
                try clear c55
                try clear c58
                try clear c72
                try clear c72b0
                try clear c74
                try clear c79
                try clear c82
                try clear c82b0
                try clear c85
                try clear c85b0
                try clear c85b1
                try clear c104
                try clear hcz25_0
                try clear hcz25_1
                try clear hcz37_0
                try clear hcz37_1
                try clear hcz94_0
                try clear hcz94_1
                try clear hfz25_0
                try clear hfz25_1
                try clear hfz37_0
                try clear hfz37_1
                try clear hfz94_0
                try clear hfz94_1
                try clear p2
                obtain ⟨kq, x144_90, rfl, HA, HJ90, HO_18, BK363, HB⟩ := hcut
                have hl18_90 := (Kd.R_reads' HO_18.out).1
                rw [hl18_90] at HO_18
                (try simp only [hl18_90])
                (try simp only [hl18_90] at BK363)
                cases kq with
                | zero => exact absurd HA.out (by simp [laws_FnExactTakenRuns.j2])
                | succ kj90 =>
                 have H := HA.out
                 clear HA
                 simp only [laws_FnExactTakenRuns.j2] at H
                 by_cases c109 : x144_90 = true
                 ·
                  subst c109
                  have H1 : (some false) = some r := by rw [if_pos rfl] at H; exact H
                  clear H
                  have H := H1
                  clear H1
                  obtain rfl := Option.some.inj H
                  exact absurd hr_ (by decide)
                 ·
                  replace c109 := Bool.eq_false_iff.mpr c109
                  subst c109
                  have H1 : ((laws_heldIntS.f kj90 t415 1).bind fun t433 => (if t433 < 0 then (some false) else (if t433 = t414 then (some true) else (some false)))) = some r := by rw [if_neg (show ¬ (false = true) by decide)] at H; exact H
                  clear H
                  have H := H1
                  clear H1
                  replace H := Option.bind_eq_some_iff.mp H
                  obtain ⟨t433, A1100, H⟩ := H
                  replace H : (if t433 < 0 then (some false) else (if t433 = t414 then (some true) else (some false))) = some r := H
                  have A110 := A_ A1100
                  clear A1100
                  by_cases c111 : t433 < 0
                  ·
                   rw [if_pos c111] at H
                   have c111b0 : decide (t433 < 0) = true := decide_eq_true c111
                   clear c111
                   obtain rfl := Option.some.inj H
                   exact absurd hr_ (by decide)
                  ·
                   rw [if_neg c111] at H
                   have c111b0 : decide (t433 < 0) = false := decide_eq_false c111
                   clear c111
                   by_cases c112 : t433 = t414
                   ·
                    rw [if_pos c112] at H
                    have c112b0 : (t433 == t414) = true := beq_iff_eq.mpr c112
                    have c112b1 : (t433 != t414) = false := bne_eq_false_iff_eq.mpr c112
                    clear c112
                    obtain rfl := Option.some.inj H
                    go_wp2_with (first | ((with_reducible refine gate_callee (f := 13) rfl ?_); refine goesL_ (some 147) rfl rfl Try.func13 (by kernel_rfl) rfl #[.slice Ao92 t415.length co92, .int .i64 1] rfl gq ?_; (with_reducible refine (laws_heldIntS.calls kj90 _ _ t415 1 t433 _ ?side1 ?side2 A110.out).mono ?_); (case side1 => exact cq (Kd.R_reads' HO_18.out).2.2); (case side2 => exact (Kd.R_reads' HO_18.out).2.1); rintro e w' ⟨rfl, ⟨nd, rfl⟩⟩; refine ⟨_, rfl, ?_⟩))
                    go_ret
                    exact ⟨rt, hq HB⟩
                   ·
                    rw [if_neg c112] at H
                    have c112b0 : (t433 == t414) = false := beq_eq_false_iff_ne.mpr c112
                    have c112b1 : (t433 != t414) = true := bne_iff_ne.mpr c112
                    obtain rfl := Option.some.inj H
                    exact absurd hr_ (by decide)
              ·
               rw [if_neg c85] at H
               have c85b0 : (t416 == t414) = false := beq_eq_false_iff_ne.mpr c85
               have c85b1 : (t416 != t414) = true := bne_iff_ne.mpr c85
               obtain rfl := Option.some.inj H
               exact absurd hr_ (by decide)
         ·
          replace c58 := Bool.eq_false_iff.mpr c58
          subst c58
          have H1 : (some false) = some r := by rw [if_neg (show ¬ (false = true) by decide)] at H; exact H
          clear H
          have H := H1
          clear H1
          obtain rfl := Option.some.inj H
          exact absurd hr_ (by decide)
        ·
         replace c55 := Bool.eq_false_iff.mpr c55
         subst c55
         have H1 : (some false) = some r := by rw [if_neg (show ¬ (false = true) by decide)] at H; exact H
         clear H
         have H := H1
         clear H1
         obtain rfl := Option.some.inj H
         exact absurd hr_ (by decide)
       ·
        replace c52 := Bool.eq_false_iff.mpr c52
        subst c52
        have H1 : (some false) = some r := by rw [if_neg (show ¬ (false = true) by decide)] at H; exact H
        clear H
        have H := H1
        clear H1
        obtain rfl := Option.some.inj H
        exact absurd hr_ (by decide)
end Go.Proofs.Ythnaghigpgfchaa.PFnExactTakenRuns
