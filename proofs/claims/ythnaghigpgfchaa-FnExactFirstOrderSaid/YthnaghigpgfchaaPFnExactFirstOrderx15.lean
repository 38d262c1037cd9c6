-- Printed, and told shorter by this session's program shrink.py.
-- Printed by this session's program myprint.py.
import Derived.Test.YthnaghigpgfchaaPFnExactFirstOrderx0
import Derived.Test.YthnaghigpgfchaaPFnExactFirstOrderx1
import Derived.Test.YthnaghigpgfchaaPFnExactFirstOrderx9
import Derived.Test.YthnaghigpgfchaaPFnExactFirstOrderx14
namespace Go.Proofs.Ythnaghigpgfchaa.PFnExactFirstOrder
open Go.RowKit Go.Proofs.Ythnaghigpgfchaa.Own Go.Proofs.YthnaghigpgfchaaW.PrintWords Go.Proofs.YthnaghigpgfchaaW.PrintLast Go.Proofs.YthnaghigpgfchaaW.PrintMore
attribute [local go_sem] max2_int min2_int max_two min_two max_three min_three max_four min_four   -- for this text's walks alone
set_option linter.unusedVariables false
set_option linter.unusedSimpArgs false

/-! ### laws_FnExactFirstOrder: function 4 -/
mutual
def laws_FnExactFirstOrder.j0 : Nat → List Int → List Int → Bool → Int → List Int → Bool → List Int → List Int → Int → List Int → Bool → Bool → Int → Bool → Option (Bool)
  | 0, _, _, _, _, _, _, _, _, _, _, _, _, _, _ => none
  | k + 1, x1, x2, x3, x9, x10, x11, x12, x13, x14, x15, x16, x68, x384000, x384001 => if x68 = true then (some false) else ((laws_toIntS.f k x1).bind fun t411 => ((laws_eqIntS.f k x12 t411).bind fun t414 => (if t414 = true then ((laws_toIntS.f k x2).bind fun t415 => ((laws_eqIntS.f k x13 t415).bind fun t418 => (if t418 = true then ((laws_markIntS.f k x12 1).bind fun bt419 => ((laws_markIntS.f k x13 bt419.1).bind fun bt421 => (if bt421.1 < 0 then (laws_FnExactFirstOrder.j1 k x1 x2 x3 x9 x10 x11 x15 true x384000 x384001) else (if x14 = x9 then ((laws_eqIntS.f k x15 x10).bind fun t423 => (if t423 = true then (laws_FnExactFirstOrder.j1 k x1 x2 x3 x9 x10 x11 x15 (x16 != x11) x384000 x384001) else (laws_FnExactFirstOrder.j1 k x1 x2 x3 x9 x10 x11 x15 true x384000 x384001))) else (laws_FnExactFirstOrder.j1 k x1 x2 x3 x9 x10 x11 x15 true x384000 x384001))))) else (some false)))) else (some false))))
def laws_FnExactFirstOrder.j1 : Nat → List Int → List Int → Bool → Int → List Int → Bool → List Int → Bool → Int → Bool → Option (Bool)
  | 0, _, _, _, _, _, _, _, _, _, _ => none
  | k + 1, x1, x2, x3, x9, x10, x11, x15, x102, x384000, x384001 => if x102 = true then (some false) else ((laws_markIntS.f k x15 1).bind fun bt424 => ((laws_heldIntS.f k bt424.2 1).bind fun t426 => (if t426 < 0 then (some false) else (if t426 = bt424.1 then ((laws_toRoad.f x384000 x384001).bind fun bt427 => ((laws_toIntS.f k x1).bind fun t429 => ((laws_toIntS.f k x2).bind fun t432 => ((impl_FirstOrder.f k bt427.1 bt427.2 t429 t432 x3).bind fun bt435 => (if bt435.1 = x9 then ((laws_eqIntS.f k bt435.2.1 x10).bind fun t440 => (if t440 = true then (laws_FnExactFirstOrder.j2 k bt424.2 bt424.1 (bt435.2.2 != x11)) else (laws_FnExactFirstOrder.j2 k bt424.2 bt424.1 true))) else (laws_FnExactFirstOrder.j2 k bt424.2 bt424.1 true)))))) else (some false)))))
def laws_FnExactFirstOrder.j2 : Nat → List Int → Int → Bool → Option (Bool)
  | 0, _, _, _ => none
  | k + 1, x15, x18, x139 => if x139 = true then (some false) else ((laws_heldIntS.f k x15 1).bind fun t441 => (if t441 < 0 then (some false) else (if t441 = x18 then (some true) else (some false))))
end
def laws_FnExactFirstOrder.f (k : Nat) (a0_0 : Int) (a0_1 : Bool) (l1 : List Int) (l2 : List Int) (a3 : Bool) : Option (Bool) := if (l1.length : Int) > 1048576 then (some true) else (if (l2.length : Int) > 1048576 then (some true) else ((laws_toRoad.f a0_0 a0_1).bind fun bt384 => ((laws_toIntS.f k l1).bind fun t386 => ((laws_toIntS.f k l2).bind fun t389 => ((spec_FirstOrder.f k bt384.1 bt384.2 t386 t389 a3).bind fun bt392 => ((laws_toIntS.f k l1).bind fun t397 => ((laws_toIntS.f k l2).bind fun t400 => ((laws_toRoad.f a0_0 a0_1).bind fun bt403 => ((impl_FirstOrder.f k bt403.1 bt403.2 t397 t400 a3).bind fun bt405 => (if bt405.1 = bt392.1 then ((laws_eqIntS.f k bt405.2.1 bt392.2.1).bind fun t410 => (if t410 = true then (laws_FnExactFirstOrder.j0 k l1 l2 a3 bt392.1 bt392.2.1 bt392.2.2 t397 t400 bt405.1 bt405.2.1 bt405.2.2 (bt405.2.2 != bt392.2.2) a0_0 a0_1) else (laws_FnExactFirstOrder.j0 k l1 l2 a3 bt392.1 bt392.2.1 bt392.2.2 t397 t400 bt405.1 bt405.2.1 bt405.2.2 true a0_0 a0_1))) else (laws_FnExactFirstOrder.j0 k l1 l2 a3 bt392.1 bt392.2.1 bt392.2.2 t397 t400 bt405.1 bt405.2.1 bt405.2.2 true a0_0 a0_1)))))))))))
theorem laws_FnExactFirstOrder.mono_l : ∀ k, (∀ y0 y1 y2 y3 y4 y5 y6 y7 y8 y9 y10 y11 y12 y13, LeO (laws_FnExactFirstOrder.j0 k y0 y1 y2 y3 y4 y5 y6 y7 y8 y9 y10 y11 y12 y13) (laws_FnExactFirstOrder.j0 (k + 1) y0 y1 y2 y3 y4 y5 y6 y7 y8 y9 y10 y11 y12 y13)) ∧ (∀ y0 y1 y2 y3 y4 y5 y6 y7 y8 y9, LeO (laws_FnExactFirstOrder.j1 k y0 y1 y2 y3 y4 y5 y6 y7 y8 y9) (laws_FnExactFirstOrder.j1 (k + 1) y0 y1 y2 y3 y4 y5 y6 y7 y8 y9)) ∧ (∀ y0 y1 y2, LeO (laws_FnExactFirstOrder.j2 k y0 y1 y2) (laws_FnExactFirstOrder.j2 (k + 1) y0 y1 y2))
  | 0 => ⟨fun _ _ _ _ _ _ _ _ _ _ _ _ _ _ r h => by simp [laws_FnExactFirstOrder.j0] at h, fun _ _ _ _ _ _ _ _ _ _ r h => by simp [laws_FnExactFirstOrder.j1] at h, fun _ _ _ r h => by simp [laws_FnExactFirstOrder.j2] at h⟩
  | k + 1 => by
    obtain ⟨ih0, ih1, ih2⟩ := laws_FnExactFirstOrder.mono_l k
    refine ⟨?_, ?_, ?_⟩
    · intro y0 y1 y2 y3 y4 y5 y6 y7 y8 y9 y10 y11 y12 y13
      unfold laws_FnExactFirstOrder.j0
      repeat' first
      | (with_reducible exact ih0 _ _ _ _ _ _ _ _ _ _ _ _ _ _)
      | (with_reducible exact ih1 _ _ _ _ _ _ _ _ _ _)
      | (with_reducible exact ih2 _ _ _)
      | (with_reducible exact impl_FirstOrder.mono _ _ _ _ _ _)
      | (with_reducible exact laws_eqIntS.mono _ _ _)
      | (with_reducible exact laws_heldIntS.mono _ _ _)
      | (with_reducible exact laws_markIntS.mono _ _ _)
      | (with_reducible exact laws_toIntS.mono _ _)
      | (with_reducible exact spec_FirstOrder.mono _ _ _ _ _ _)
      | (with_reducible exact LeO.refl _)
      | (with_reducible exact LeO.none _)
      | (with_reducible refine LeO.ite ?_ ?_)
      | (with_reducible refine LeO.bind ?_ (fun _ => ?_))
      | exact ih0 _ _ _ _ _ _ _ _ _ _ _ _ _ _
      | exact ih1 _ _ _ _ _ _ _ _ _ _
      | exact ih2 _ _ _
      | exact impl_FirstOrder.mono _ _ _ _ _ _
      | exact laws_eqIntS.mono _ _ _
      | exact laws_heldIntS.mono _ _ _
      | exact laws_markIntS.mono _ _ _
      | exact laws_toIntS.mono _ _
      | exact spec_FirstOrder.mono _ _ _ _ _ _
      | exact LeO.none _
      | refine LeO.ite ?_ ?_
      | refine LeO.bind ?_ (fun _ => ?_)
    · intro y0 y1 y2 y3 y4 y5 y6 y7 y8 y9
      unfold laws_FnExactFirstOrder.j1
      repeat' first
      | (with_reducible exact ih0 _ _ _ _ _ _ _ _ _ _ _ _ _ _)
      | (with_reducible exact ih1 _ _ _ _ _ _ _ _ _ _)
      | (with_reducible exact ih2 _ _ _)
      | (with_reducible exact impl_FirstOrder.mono _ _ _ _ _ _)
      | (with_reducible exact laws_eqIntS.mono _ _ _)
      | (with_reducible exact laws_heldIntS.mono _ _ _)
      | (with_reducible exact laws_markIntS.mono _ _ _)
      | (with_reducible exact laws_toIntS.mono _ _)
      | (with_reducible exact spec_FirstOrder.mono _ _ _ _ _ _)
      | (with_reducible exact LeO.refl _)
      | (with_reducible exact LeO.none _)
      | (with_reducible refine LeO.ite ?_ ?_)
      | (with_reducible refine LeO.bind ?_ (fun _ => ?_))
      | exact ih0 _ _ _ _ _ _ _ _ _ _ _ _ _ _
      | exact ih1 _ _ _ _ _ _ _ _ _ _
      | exact ih2 _ _ _
      | exact impl_FirstOrder.mono _ _ _ _ _ _
      | exact laws_eqIntS.mono _ _ _
      | exact laws_heldIntS.mono _ _ _
      | exact laws_markIntS.mono _ _ _
      | exact laws_toIntS.mono _ _
      | exact spec_FirstOrder.mono _ _ _ _ _ _
      | exact LeO.none _
      | refine LeO.ite ?_ ?_
      | refine LeO.bind ?_ (fun _ => ?_)
    · intro y0 y1 y2
      unfold laws_FnExactFirstOrder.j2
      repeat' first
      | (with_reducible exact ih0 _ _ _ _ _ _ _ _ _ _ _ _ _ _)
      | (with_reducible exact ih1 _ _ _ _ _ _ _ _ _ _)
      | (with_reducible exact ih2 _ _ _)
      | (with_reducible exact impl_FirstOrder.mono _ _ _ _ _ _)
      | (with_reducible exact laws_eqIntS.mono _ _ _)
      | (with_reducible exact laws_heldIntS.mono _ _ _)
      | (with_reducible exact laws_markIntS.mono _ _ _)
      | (with_reducible exact laws_toIntS.mono _ _)
      | (with_reducible exact spec_FirstOrder.mono _ _ _ _ _ _)
      | (with_reducible exact LeO.refl _)
      | (with_reducible exact LeO.none _)
      | (with_reducible refine LeO.ite ?_ ?_)
      | (with_reducible refine LeO.bind ?_ (fun _ => ?_))
      | exact ih0 _ _ _ _ _ _ _ _ _ _ _ _ _ _
      | exact ih1 _ _ _ _ _ _ _ _ _ _
      | exact ih2 _ _ _
      | exact impl_FirstOrder.mono _ _ _ _ _ _
      | exact laws_eqIntS.mono _ _ _
      | exact laws_heldIntS.mono _ _ _
      | exact laws_markIntS.mono _ _ _
      | exact laws_toIntS.mono _ _
      | exact spec_FirstOrder.mono _ _ _ _ _ _
      | exact LeO.none _
      | refine LeO.ite ?_ ?_
      | refine LeO.bind ?_ (fun _ => ?_)
theorem laws_FnExactFirstOrder.mono : ∀ a0 a1 a2 a3 a4 k, LeO (laws_FnExactFirstOrder.f k a0 a1 a2 a3 a4) (laws_FnExactFirstOrder.f (k + 1) a0 a1 a2 a3 a4) := by
  intro a0 a1 a2 a3 a4 k
  obtain ⟨ih0, ih1, ih2⟩ := laws_FnExactFirstOrder.mono_l k
  unfold laws_FnExactFirstOrder.f
  repeat' first
      | (with_reducible exact ih0 _ _ _ _ _ _ _ _ _ _ _ _ _ _)
      | (with_reducible exact ih1 _ _ _ _ _ _ _ _ _ _)
      | (with_reducible exact ih2 _ _ _)
      | (with_reducible exact impl_FirstOrder.mono _ _ _ _ _ _)
      | (with_reducible exact laws_eqIntS.mono _ _ _)
      | (with_reducible exact laws_heldIntS.mono _ _ _)
      | (with_reducible exact laws_markIntS.mono _ _ _)
      | (with_reducible exact laws_toIntS.mono _ _)
      | (with_reducible exact spec_FirstOrder.mono _ _ _ _ _ _)
      | (with_reducible exact LeO.refl _)
      | (with_reducible exact LeO.none _)
      | (with_reducible refine LeO.ite ?_ ?_)
      | (with_reducible refine LeO.bind ?_ (fun _ => ?_))
      | exact ih0 _ _ _ _ _ _ _ _ _ _ _ _ _ _
      | exact ih1 _ _ _ _ _ _ _ _ _ _
      | exact ih2 _ _ _
      | exact impl_FirstOrder.mono _ _ _ _ _ _
      | exact laws_eqIntS.mono _ _ _
      | exact laws_heldIntS.mono _ _ _
      | exact laws_markIntS.mono _ _ _
      | exact laws_toIntS.mono _ _
      | exact spec_FirstOrder.mono _ _ _ _ _ _
      | exact LeO.none _
      | refine LeO.ite ?_ ?_
      | refine LeO.bind ?_ (fun _ => ?_)
theorem cjx {A B : Prop} (f : A → B := by intro hk; repeat' (first | exact hk.1 | exact hk.2 | exact hk.1.1 | exact hk.1.2 | exact hk.2.1 | exact hk.2.2 | exact hk.1.1.1 | exact hk.1.1.2 | exact hk.1.2.1 | exact hk.1.2.2 | exact hk.2.1.1 | exact hk.2.1.2 | exact hk.2.2.1 | exact hk.2.2.2 | exact hk.1.1.1.1 | exact hk.1.1.1.2 | exact hk.1.1.2.1 | exact hk.1.1.2.2 | exact hk.1.2.1.1 | exact hk.1.2.1.2 | exact hk.1.2.2.1 | exact hk.1.2.2.2 | exact hk.2.1.1.1 | exact hk.2.1.1.2 | exact hk.2.1.2.1 | exact hk.2.1.2.2 | exact hk.2.2.1.1 | exact hk.2.2.1.2 | exact hk.2.2.2.1 | exact hk.2.2.2.2 | exact hk.1.1.1.1.1 | exact hk.1.1.1.1.2 | exact hk.1.1.1.2.1 | exact hk.1.1.1.2.2 | exact hk.1.1.2.1.1 | exact hk.1.1.2.1.2 | exact hk.1.1.2.2.1 | exact hk.1.1.2.2.2 | exact hk.1.2.1.1.1 | exact hk.1.2.1.1.2 | exact hk.1.2.1.2.1 | exact hk.1.2.1.2.2 | exact hk.1.2.2.1.1 | exact hk.1.2.2.1.2 | exact hk.1.2.2.2.1 | exact hk.1.2.2.2.2 | exact hk.2.1.1.1.1 | exact hk.2.1.1.1.2 | exact hk.2.1.1.2.1 | exact hk.2.1.1.2.2 | exact hk.2.1.2.1.1 | exact hk.2.1.2.1.2 | exact hk.2.1.2.2.1 | exact hk.2.1.2.2.2 | exact hk.2.2.1.1.1 | exact hk.2.2.1.1.2 | exact hk.2.2.1.2.1 | exact hk.2.2.1.2.2 | exact hk.2.2.2.1.1 | exact hk.2.2.2.1.2 | exact hk.2.2.2.2.1 | exact hk.2.2.2.2.2 | refine ⟨?_, ?_⟩)) : A → B := f
set_option maxHeartbeats 8000000 in
set_option maxRecDepth 100000 in
theorem laws_FnExactFirstOrder.calls (k : Nat) (a0_0 : Int) (a0_1 : Bool) (A1 : Option Addr) (c1 : Nat) (l1 : List Int) (A2 : Option Addr) (c2 : Nat) (l2 : List Int) (a3 : Bool) (r : Bool) (hr_ : r = true) (w : World) (hr1 : Kd.C (Kd.int .i64) w A1 l1.length l1) (hc1 : l1.length ≤ c1) (hr2 : Kd.C (Kd.int .i64) w A2 l2.length l2) (hc2 : l2.length ≤ c2) (h : laws_FnExactFirstOrder.f k a0_0 a0_1 l1 l2 a3 = some r) :
    Calls Try.prog 4 #[.agg #[.int .i64 a0_0, .bool a0_1], .slice A1 l1.length c1, .slice A2 l2.length c2, .bool a3] w fun e w' => e = .returned (.bool r) ∧ Below w.heap.size w w' := by
 have hu23 := Try.underlying23
 have HR1 := A_ hr1
 have HC1 := A_ hc1
 clear hr1 hc1
 have HR2 := A_ hr2
 have HC2 := A_ hc2
 clear hr2 hc2
 have HB := A_ (Below.refl w.heap.size w)
 have H : (if (l1.length : Int) > 1048576 then (some true) else (if (l2.length : Int) > 1048576 then (some true) else ((laws_toRoad.f a0_0 a0_1).bind fun bt384 => ((laws_toIntS.f k l1).bind fun t386 => ((laws_toIntS.f k l2).bind fun t389 => ((spec_FirstOrder.f k bt384.1 bt384.2 t386 t389 a3).bind fun bt392 => ((laws_toIntS.f k l1).bind fun t397 => ((laws_toIntS.f k l2).bind fun t400 => ((laws_toRoad.f a0_0 a0_1).bind fun bt403 => ((impl_FirstOrder.f k bt403.1 bt403.2 t397 t400 a3).bind fun bt405 => (if bt405.1 = bt392.1 then ((laws_eqIntS.f k bt405.2.1 bt392.2.1).bind fun t410 => (if t410 = true then (laws_FnExactFirstOrder.j0 k l1 l2 a3 bt392.1 bt392.2.1 bt392.2.2 t397 t400 bt405.1 bt405.2.1 bt405.2.2 (bt405.2.2 != bt392.2.2) a0_0 a0_1) else (laws_FnExactFirstOrder.j0 k l1 l2 a3 bt392.1 bt392.2.1 bt392.2.2 t397 t400 bt405.1 bt405.2.1 bt405.2.2 true a0_0 a0_1))) else (laws_FnExactFirstOrder.j0 k l1 l2 a3 bt392.1 bt392.2.1 bt392.2.2 t397 t400 bt405.1 bt405.2.1 bt405.2.2 true a0_0 a0_1)))))))))))) = some r := h
 clear h
 by_cases c5 : (l1.length : Int) > 1048576
 ·
  rw [if_pos c5] at H
  have c5b0 : decide (1048576 < (l1.length : Int)) = true := decide_eq_true c5
  have c5b1 : decide (1048576 < l1.length) = true := decide_eq_true (by omega)
  clear c5
  obtain rfl := Option.some.inj H
  go_enter Try.func4, Try.ntmps4
  go_wp2_with (first | ((with_reducible refine gate_dst (N := 4) rfl ?_); refine box_event ?hg (N := 4) ?hd (cs := #[.int .i64 a0_0, .bool a0_1]) (t := 23) ?hr ?_; (case hd => rfl); (case hg => rfl); (case hr => first | (go_simp; done) | (go_simp; rfl)); intro gb383 hg w6 hbox hb; have n0_ := A_ (below_step (hq HB) hb); have n1_ := A_ (hbox); have n2_ := A_ ((by rw [hg]; exact (below_size (hq HB)) : w.heap.size ≤ gb383)); have n3_ := A_ ((by rw [hg]; exact (below_size (hq HB)) : w.heap.size ≤ gb383)); clear HB; have HB := n0_; have BK383 := n1_; have GW383 := n2_; have GE383 := n3_; clear n0_ n1_ n2_ n3_; clear hb hbox hg))
  go_ret
  exact ⟨rt, hq HB⟩
 ·
  rw [if_neg c5] at H
  have c5b0 : decide (1048576 < (l1.length : Int)) = false := decide_eq_false c5
  have c5b1 : decide (1048576 < l1.length) = false := decide_eq_false (by omega)
  clear c5
  by_cases c7 : (l2.length : Int) > 1048576
  ·
   rw [if_pos c7] at H
   have c7b0 : decide (1048576 < (l2.length : Int)) = true := decide_eq_true c7
   have c7b1 : decide (1048576 < l2.length) = true := decide_eq_true (by omega)
   clear c7
   obtain rfl := Option.some.inj H
   go_enter Try.func4, Try.ntmps4
   go_wp2_with (first | ((with_reducible refine gate_dst (N := 4) rfl ?_); refine box_event ?hg (N := 4) ?hd (cs := #[.int .i64 a0_0, .bool a0_1]) (t := 23) ?hr ?_; (case hd => rfl); (case hg => rfl); (case hr => first | (go_simp; done) | (go_simp; rfl)); intro gb383 hg w8 hbox hb; have n0_ := A_ (below_step (hq HB) hb); have n1_ := A_ (hbox); have n2_ := A_ ((by rw [hg]; exact (below_size (hq HB)) : w.heap.size ≤ gb383)); have n3_ := A_ ((by rw [hg]; exact (below_size (hq HB)) : w.heap.size ≤ gb383)); clear HB; have HB := n0_; have BK383 := n1_; have GW383 := n2_; have GE383 := n3_; clear n0_ n1_ n2_ n3_; clear hb hbox hg))
   go_ret
   exact ⟨rt, hq HB⟩
  ·
   rw [if_neg c7] at H
   have c7b0 : decide (1048576 < (l2.length : Int)) = false := decide_eq_false c7
   have c7b1 : decide (1048576 < l2.length) = false := decide_eq_false (by omega)
   clear c7
   replace H := Option.bind_eq_some_iff.mp H
   obtain ⟨⟨t384, t385⟩, A90, H⟩ := H
   replace H : ((laws_toIntS.f k l1).bind fun t386 => ((laws_toIntS.f k l2).bind fun t389 => ((spec_FirstOrder.f k t384 t385 t386 t389 a3).bind fun bt392 => ((laws_toIntS.f k l1).bind fun t397 => ((laws_toIntS.f k l2).bind fun t400 => ((laws_toRoad.f a0_0 a0_1).bind fun bt403 => ((impl_FirstOrder.f k bt403.1 bt403.2 t397 t400 a3).bind fun bt405 => (if bt405.1 = bt392.1 then ((laws_eqIntS.f k bt405.2.1 bt392.2.1).bind fun t410 => (if t410 = true then (laws_FnExactFirstOrder.j0 k l1 l2 a3 bt392.1 bt392.2.1 bt392.2.2 t397 t400 bt405.1 bt405.2.1 bt405.2.2 (bt405.2.2 != bt392.2.2) a0_0 a0_1) else (laws_FnExactFirstOrder.j0 k l1 l2 a3 bt392.1 bt392.2.1 bt392.2.2 t397 t400 bt405.1 bt405.2.1 bt405.2.2 true a0_0 a0_1))) else (laws_FnExactFirstOrder.j0 k l1 l2 a3 bt392.1 bt392.2.1 bt392.2.2 t397 t400 bt405.1 bt405.2.1 bt405.2.2 true a0_0 a0_1))))))))) = some r := H
   have A9 := A_ A90
   clear A90
   replace H := Option.bind_eq_some_iff.mp H
   obtain ⟨t386, A100, H⟩ := H
   replace H : ((laws_toIntS.f k l2).bind fun t389 => ((spec_FirstOrder.f k t384 t385 t386 t389 a3).bind fun bt392 => ((laws_toIntS.f k l1).bind fun t397 => ((laws_toIntS.f k l2).bind fun t400 => ((laws_toRoad.f a0_0 a0_1).bind fun bt403 => ((impl_FirstOrder.f k bt403.1 bt403.2 t397 t400 a3).bind fun bt405 => (if bt405.1 = bt392.1 then ((laws_eqIntS.f k bt405.2.1 bt392.2.1).bind fun t410 => (if t410 = true then (laws_FnExactFirstOrder.j0 k l1 l2 a3 bt392.1 bt392.2.1 bt392.2.2 t397 t400 bt405.1 bt405.2.1 bt405.2.2 (bt405.2.2 != bt392.2.2) a0_0 a0_1) else (laws_FnExactFirstOrder.j0 k l1 l2 a3 bt392.1 bt392.2.1 bt392.2.2 t397 t400 bt405.1 bt405.2.1 bt405.2.2 true a0_0 a0_1))) else (laws_FnExactFirstOrder.j0 k l1 l2 a3 bt392.1 bt392.2.1 bt392.2.2 t397 t400 bt405.1 bt405.2.1 bt405.2.2 true a0_0 a0_1)))))))) = some r := H
   have A10 := A_ A100
   clear A100
   replace H := Option.bind_eq_some_iff.mp H
   obtain ⟨t389, A110, H⟩ := H
   replace H : ((spec_FirstOrder.f k t384 t385 t386 t389 a3).bind fun bt392 => ((laws_toIntS.f k l1).bind fun t397 => ((laws_toIntS.f k l2).bind fun t400 => ((laws_toRoad.f a0_0 a0_1).bind fun bt403 => ((impl_FirstOrder.f k bt403.1 bt403.2 t397 t400 a3).bind fun bt405 => (if bt405.1 = bt392.1 then ((laws_eqIntS.f k bt405.2.1 bt392.2.1).bind fun t410 => (if t410 = true then (laws_FnExactFirstOrder.j0 k l1 l2 a3 bt392.1 bt392.2.1 bt392.2.2 t397 t400 bt405.1 bt405.2.1 bt405.2.2 (bt405.2.2 != bt392.2.2) a0_0 a0_1) else (laws_FnExactFirstOrder.j0 k l1 l2 a3 bt392.1 bt392.2.1 bt392.2.2 t397 t400 bt405.1 bt405.2.1 bt405.2.2 true a0_0 a0_1))) else (laws_FnExactFirstOrder.j0 k l1 l2 a3 bt392.1 bt392.2.1 bt392.2.2 t397 t400 bt405.1 bt405.2.1 bt405.2.2 true a0_0 a0_1))))))) = some r := H
   have A11 := A_ A110
   clear A110
   replace H := Option.bind_eq_some_iff.mp H
   obtain ⟨⟨t392, t393, t396⟩, A120, H⟩ := H
   replace H : ((laws_toIntS.f k l1).bind fun t397 => ((laws_toIntS.f k l2).bind fun t400 => ((laws_toRoad.f a0_0 a0_1).bind fun bt403 => ((impl_FirstOrder.f k bt403.1 bt403.2 t397 t400 a3).bind fun bt405 => (if bt405.1 = t392 then ((laws_eqIntS.f k bt405.2.1 t393).bind fun t410 => (if t410 = true then (laws_FnExactFirstOrder.j0 k l1 l2 a3 t392 t393 t396 t397 t400 bt405.1 bt405.2.1 bt405.2.2 (bt405.2.2 != t396) a0_0 a0_1) else (laws_FnExactFirstOrder.j0 k l1 l2 a3 t392 t393 t396 t397 t400 bt405.1 bt405.2.1 bt405.2.2 true a0_0 a0_1))) else (laws_FnExactFirstOrder.j0 k l1 l2 a3 t392 t393 t396 t397 t400 bt405.1 bt405.2.1 bt405.2.2 true a0_0 a0_1)))))) = some r := H
   have A12 := A_ A120
   clear A120
   replace H := Option.bind_eq_some_iff.mp H
   obtain ⟨t397, A130, H⟩ := H
   replace H : ((laws_toIntS.f k l2).bind fun t400 => ((laws_toRoad.f a0_0 a0_1).bind fun bt403 => ((impl_FirstOrder.f k bt403.1 bt403.2 t397 t400 a3).bind fun bt405 => (if bt405.1 = t392 then ((laws_eqIntS.f k bt405.2.1 t393).bind fun t410 => (if t410 = true then (laws_FnExactFirstOrder.j0 k l1 l2 a3 t392 t393 t396 t397 t400 bt405.1 bt405.2.1 bt405.2.2 (bt405.2.2 != t396) a0_0 a0_1) else (laws_FnExactFirstOrder.j0 k l1 l2 a3 t392 t393 t396 t397 t400 bt405.1 bt405.2.1 bt405.2.2 true a0_0 a0_1))) else (laws_FnExactFirstOrder.j0 k l1 l2 a3 t392 t393 t396 t397 t400 bt405.1 bt405.2.1 bt405.2.2 true a0_0 a0_1))))) = some r := H
   have A13 := A_ A130
   clear A130
   replace H := Option.bind_eq_some_iff.mp H
   obtain ⟨t400, A140, H⟩ := H
   replace H : ((laws_toRoad.f a0_0 a0_1).bind fun bt403 => ((impl_FirstOrder.f k bt403.1 bt403.2 t397 t400 a3).bind fun bt405 => (if bt405.1 = t392 then ((laws_eqIntS.f k bt405.2.1 t393).bind fun t410 => (if t410 = true then (laws_FnExactFirstOrder.j0 k l1 l2 a3 t392 t393 t396 t397 t400 bt405.1 bt405.2.1 bt405.2.2 (bt405.2.2 != t396) a0_0 a0_1) else (laws_FnExactFirstOrder.j0 k l1 l2 a3 t392 t393 t396 t397 t400 bt405.1 bt405.2.1 bt405.2.2 true a0_0 a0_1))) else (laws_FnExactFirstOrder.j0 k l1 l2 a3 t392 t393 t396 t397 t400 bt405.1 bt405.2.1 bt405.2.2 true a0_0 a0_1)))) = some r := H
   have A14 := A_ A140
   clear A140
   replace H := Option.bind_eq_some_iff.mp H
   obtain ⟨⟨t403, t404⟩, A150, H⟩ := H
   replace H : ((impl_FirstOrder.f k t403 t404 t397 t400 a3).bind fun bt405 => (if bt405.1 = t392 then ((laws_eqIntS.f k bt405.2.1 t393).bind fun t410 => (if t410 = true then (laws_FnExactFirstOrder.j0 k l1 l2 a3 t392 t393 t396 t397 t400 bt405.1 bt405.2.1 bt405.2.2 (bt405.2.2 != t396) a0_0 a0_1) else (laws_FnExactFirstOrder.j0 k l1 l2 a3 t392 t393 t396 t397 t400 bt405.1 bt405.2.1 bt405.2.2 true a0_0 a0_1))) else (laws_FnExactFirstOrder.j0 k l1 l2 a3 t392 t393 t396 t397 t400 bt405.1 bt405.2.1 bt405.2.2 true a0_0 a0_1))) = some r := H
   have A15 := A_ A150
   clear A150
   replace H := Option.bind_eq_some_iff.mp H
   obtain ⟨⟨t405, t406, t409⟩, A160, H⟩ := H
   replace H : (if t405 = t392 then ((laws_eqIntS.f k t406 t393).bind fun t410 => (if t410 = true then (laws_FnExactFirstOrder.j0 k l1 l2 a3 t392 t393 t396 t397 t400 t405 t406 t409 (t409 != t396) a0_0 a0_1) else (laws_FnExactFirstOrder.j0 k l1 l2 a3 t392 t393 t396 t397 t400 t405 t406 t409 true a0_0 a0_1))) else (laws_FnExactFirstOrder.j0 k l1 l2 a3 t392 t393 t396 t397 t400 t405 t406 t409 true a0_0 a0_1)) = some r := H
   have A16 := A_ A160
   clear A160
   have HC17 := A_ H
   clear H
   go_enter Try.func4, Try.ntmps4
   go_upto_region 9 with (first | ((with_reducible refine gate_dst (N := 4) rfl ?_); refine box_event ?hg (N := 4) ?hd (cs := #[.int .i64 a0_0, .bool a0_1]) (t := 23) ?hr ?_; (case hd => rfl); (case hg => rfl); (case hr => first | (go_simp; done) | (go_simp; rfl)); intro gb383 hg w18 hbox hb; have n0_ := A_ (below_step (hq HB) hb); have n1_ := A_ (hbox); have n2_ := A_ ((by rw [hg]; exact (below_size (hq HB)) : w.heap.size ≤ gb383)); have n3_ := A_ ((by rw [hg]; exact (below_size (hq HB)) : w.heap.size ≤ gb383)); clear HB; have HB := n0_; have BK383 := n1_; have GW383 := n2_; have GE383 := n3_; clear n0_ n1_ n2_ n3_; clear hb hbox hg; have hcz19_0 : w18.cell? ⟨gb383, 0, none⟩ = some (.int .i64 a0_0) := bc BK383 0; have hcz19_1 : w18.cell? ⟨gb383, 1, none⟩ = some (.bool a0_1) := bc BK383 1; have hfz19_0 := blk_frozen BK383.out 0; have hfz19_1 := blk_frozen BK383.out 1) | ((with_reducible refine gate_callee (f := 8) rfl ?_); refine goesL_ (some 31) rfl rfl Try.func8 (by kernel_rfl) rfl #[.agg #[.int .i64 a0_0, .bool a0_1]] rfl gq ?_; (with_reducible refine (laws_toRoad.calls a0_0 a0_1 t384 t385 _ A9.out).mono ?_); rintro e w20 ⟨rfl, hb⟩; refine ⟨_, rfl, ?_⟩; have n0_ := A_ (blk_below (bq BK383) hb); have n1_ := A_ (below_step (hq HB) hb); clear BK383; clear HB; have BK383 := n0_; have HB := n1_; clear n0_ n1_; (try clear hb); (try clear hb2); (try clear hk); (try clear hi)) | ((with_reducible refine gate_callee (f := 9) rfl ?_); refine goesL_ (some 33) rfl rfl Try.func9 (by kernel_rfl) rfl #[.slice A1 l1.length c1] rfl gq ?_; (with_reducible refine (laws_toIntS.calls k _ _ l1 t386 _ ?side1 ?side2 A10.out).mono ?_); (case side1 => exact cq (Kd.C_below HR1.out HB.out)); (case side2 => exact HC1.out); rintro e w21 ⟨v387, rfl, ho0, hb⟩; refine ⟨_, rfl, ?_⟩; have n0_ := A_ (Kd.R_lower ho0 (below_size (hq HB))); have n1_ := A_ (blk_below (bq BK383) hb); have n2_ := A_ (below_step (hq HB) hb); clear BK383; clear HB; have HO388 := n0_; have BK383 := n1_; have HB := n2_; clear n0_ n1_ n2_; (try clear hb); (try clear hb2); (try clear hk); (try clear hi); (try clear ho0)) | ((with_reducible refine gate_callee (f := 9) rfl ?_); refine goesL_ (some 35) rfl rfl Try.func9 (by kernel_rfl) rfl #[.slice A2 l2.length c2] rfl gq ?_; (with_reducible refine (laws_toIntS.calls k _ _ l2 t389 _ ?side1 ?side2 A11.out).mono ?_); (case side1 => exact cq (Kd.C_below HR2.out HB.out)); (case side2 => exact HC2.out); rintro e w22 ⟨v390, rfl, ho0, hb⟩; refine ⟨_, rfl, ?_⟩; have n0_ := A_ (Kd.R_elder' (rq HO388) (Kd.R_base ho0) hb); have n1_ := A_ (Kd.R_lower (Kd.R_new' ho0 (Kd.R_lt (rq HO388))) (below_size (hq HB))); have n2_ := A_ (blk_below (bq BK383) hb); have n3_ := A_ (below_step (hq HB) hb); clear HO388; clear BK383; clear HB; have HO388 := n0_; have HO391 := n1_; have BK383 := n2_; have HB := n3_; clear n0_ n1_ n2_ n3_; (try clear hb); (try clear hb2); (try clear hk); (try clear hi); (try clear ho0); obtain ⟨Ao23, co23, eo23⟩ := Kd.R_slice HO388.out; subst eo23; obtain ⟨Ao24, co24, eo24⟩ := Kd.R_slice HO391.out; subst eo24) | ((with_reducible refine gate_callee (f := 14) rfl ?_); refine goesL_ (some 37) rfl rfl Try.func14 (by kernel_rfl) rfl #[.agg #[.int .i64 t384, .bool t385], .slice Ao23 t386.length co23, .slice Ao24 t389.length co24, .bool a3] rfl gq ?_; (with_reducible refine (spec_FirstOrder.calls k t384 t385 _ _ t386 _ _ t389 a3 t392 t393 t396 _ ?side1 ?side2 ?side3 ?side4 A12.out).mono ?_); (case side1 => exact cq (Kd.R_reads' HO388.out).2.2); (case side2 => exact (Kd.R_reads' HO388.out).2.1); (case side3 => exact cq (Kd.R_reads' HO391.out).2.2); (case side4 => exact (Kd.R_reads' HO391.out).2.1); rintro e w25 ⟨v394, rfl, ho0, hb⟩; refine ⟨_, rfl, ?_⟩; have n0_ := A_ (Kd.R_below (rq HO388) hb); have n1_ := A_ (Kd.R_below (rq HO391) hb); have n2_ := A_ (Kd.V_lower (Kd.V_mono (ok' := fun k_ => some k_ ≠ (.slice Ao23 t386.length co23 : Value).ownBlock ∧ some k_ ≠ (.slice Ao24 t389.length co24 : Value).ownBlock ∧ k_ ≠ gb383) ho0 (fun k_ hk_ => ⟨(Kd.fresh' (Kd.R_lt (rq HO388)) k_ hk_), (Kd.fresh' (Kd.R_lt (rq HO391)) k_ hk_), (Kd.freshB (g := gb383) (o := .cells #[.int .i64 a0_0, .bool a0_1] 23 (0, 0)) (bq BK383) k_ hk_)⟩)) (below_size (hq HB))); have n3_ := A_ (blk_below (bq BK383) hb); have n4_ := A_ (below_step (hq HB) hb); clear HO388; clear HO391; clear BK383; clear HB; have HO388 := n0_; have HO391 := n1_; have HO395 := n2_; have BK383 := n3_; have HB := n4_; clear n0_ n1_ n2_ n3_ n4_; (try clear hb); (try clear hb2); (try clear hk); (try clear hi); (try clear ho0)) | ((with_reducible refine gate_callee (f := 9) rfl ?_); refine goesL_ (some 42) rfl rfl Try.func9 (by kernel_rfl) rfl #[.slice A1 l1.length c1] rfl gq ?_; (with_reducible refine (laws_toIntS.calls k _ _ l1 t397 _ ?side1 ?side2 A13.out).mono ?_); (case side1 => exact cq (Kd.C_below HR1.out HB.out)); (case side2 => exact HC1.out); rintro e w26 ⟨v398, rfl, ho0, hb⟩; refine ⟨_, rfl, ?_⟩; have n0_ := A_ (Kd.R_elder' (rq HO388) (Kd.R_base ho0) hb); have n1_ := A_ (Kd.R_elder' (rq HO391) (Kd.R_base ho0) hb); have n2_ := A_ (Kd.V_elder' (vq HO395) (Kd.R_base ho0) hb); have n3_ := A_ (Kd.R_lower (Kd.R_new' (Kd.R_new' ho0 (Kd.R_lt (rq HO388))) (Kd.R_lt (rq HO391))) (below_size (hq HB))); have n4_ := A_ (blk_below (bq BK383) hb); have n5_ := A_ (below_step (hq HB) hb); clear HO388; clear HO391; clear HO395; clear BK383; clear HB; have HO388 := n0_; have HO391 := n1_; have HO395 := n2_; have HO399 := n3_; have BK383 := n4_; have HB := n5_; clear n0_ n1_ n2_ n3_ n4_ n5_; (try clear hb); (try clear hb2); (try clear hk); (try clear hi); (try clear ho0)) | ((with_reducible refine gate_callee (f := 9) rfl ?_); refine goesL_ (some 44) rfl rfl Try.func9 (by kernel_rfl) rfl #[.slice A2 l2.length c2] rfl gq ?_; (with_reducible refine (laws_toIntS.calls k _ _ l2 t400 _ ?side1 ?side2 A14.out).mono ?_); (case side1 => exact cq (Kd.C_below HR2.out HB.out)); (case side2 => exact HC2.out); rintro e w27 ⟨v401, rfl, ho0, hb⟩; refine ⟨_, rfl, ?_⟩; have n0_ := A_ (Kd.R_elder' (rq HO388) (Kd.R_base ho0) hb); have n1_ := A_ (Kd.R_elder' (rq HO391) (Kd.R_base ho0) hb); have n2_ := A_ (Kd.V_elder' (vq HO395) (Kd.R_base ho0) hb); have n3_ := A_ (Kd.R_elder' (rq HO399) (Kd.R_base ho0) hb); have n4_ := A_ (Kd.R_lower (Kd.R_new' (Kd.R_new' (Kd.R_new' ho0 (Kd.R_lt (rq HO388))) (Kd.R_lt (rq HO391))) (Kd.R_lt (rq HO399))) (below_size (hq HB))); have n5_ := A_ (blk_below (bq BK383) hb); have n6_ := A_ (below_step (hq HB) hb); clear HO388; clear HO391; clear HO395; clear HO399; clear BK383; clear HB; have HO388 := n0_; have HO391 := n1_; have HO395 := n2_; have HO399 := n3_; have HO402 := n4_; have BK383 := n5_; have HB := n6_; clear n0_ n1_ n2_ n3_ n4_ n5_ n6_; (try clear hb); (try clear hb2); (try clear hk); (try clear hi); (try clear ho0); have hcz28_0 : w27.cell? ⟨gb383, 0, none⟩ = some (.int .i64 a0_0) := bc BK383 0; have hcz28_1 : w27.cell? ⟨gb383, 1, none⟩ = some (.bool a0_1) := bc BK383 1; have hfz28_0 := blk_frozen BK383.out 0; have hfz28_1 := blk_frozen BK383.out 1) | ((with_reducible refine gate_callee (f := 8) rfl ?_); refine goesL_ (some 47) rfl rfl Try.func8 (by kernel_rfl) rfl #[.agg #[.int .i64 a0_0, .bool a0_1]] rfl gq ?_; (with_reducible refine (laws_toRoad.calls a0_0 a0_1 t403 t404 _ A15.out).mono ?_); rintro e w29 ⟨rfl, hb⟩; refine ⟨_, rfl, ?_⟩; have n0_ := A_ (Kd.R_below (rq HO388) hb); have n1_ := A_ (Kd.R_below (rq HO391) hb); have n2_ := A_ (Kd.V_below (vq HO395) hb); have n3_ := A_ (Kd.R_below (rq HO399) hb); have n4_ := A_ (Kd.R_below (rq HO402) hb); have n5_ := A_ (blk_below (bq BK383) hb); have n6_ := A_ (below_step (hq HB) hb); clear HO388; clear HO391; clear HO395; clear HO399; clear HO402; clear BK383; clear HB; have HO388 := n0_; have HO391 := n1_; have HO395 := n2_; have HO399 := n3_; have HO402 := n4_; have BK383 := n5_; have HB := n6_; clear n0_ n1_ n2_ n3_ n4_ n5_ n6_; (try clear hb); (try clear hb2); (try clear hk); (try clear hi); obtain ⟨Ao30, co30, eo30⟩ := Kd.R_slice HO399.out; subst eo30; obtain ⟨Ao31, co31, eo31⟩ := Kd.R_slice HO402.out; subst eo31) | ((with_reducible refine gate_callee (f := 15) rfl ?_); refine goesL_ (some 51) rfl rfl Try.func15 (by kernel_rfl) rfl #[.agg #[.int .i64 t403, .bool t404], .slice Ao30 t397.length co30, .slice Ao31 t400.length co31, .bool a3] rfl gq ?_; (with_reducible refine (impl_FirstOrder.calls k t403 t404 _ _ t397 _ _ t400 a3 t405 t406 t409 _ ?side1 ?side2 ?side3 ?side4 A16.out).mono ?_); (case side1 => exact cq (Kd.R_reads' HO399.out).2.2); (case side2 => exact (Kd.R_reads' HO399.out).2.1); (case side3 => exact cq (Kd.R_reads' HO402.out).2.2); (case side4 => exact (Kd.R_reads' HO402.out).2.1); rintro e w32 ⟨v407, rfl, ho0, hb⟩; refine ⟨_, rfl, ?_⟩; have n0_ := A_ (Kd.R_elder' (rq HO388) (Kd.R_base ho0) hb); have n1_ := A_ (Kd.R_elder' (rq HO391) (Kd.R_base ho0) hb); have n2_ := A_ (Kd.V_elder' (vq HO395) (Kd.R_base ho0) hb); have n3_ := A_ (Kd.R_elder' (rq HO399) (Kd.R_base ho0) hb); have n4_ := A_ (Kd.R_elder' (rq HO402) (Kd.R_base ho0) hb); have n5_ := A_ (Kd.R_lower (Kd.R_new' (Kd.R_new' (Kd.R_new' (Kd.R_new' ho0 (Kd.R_lt (rq HO388))) (Kd.R_lt (rq HO391))) (Kd.R_lt (rq HO399))) (Kd.R_lt (rq HO402))) (below_size (hq HB))); have n6_ := A_ (blk_below (bq BK383) hb); have n7_ := A_ (below_step (hq HB) hb); clear HO388; clear HO391; clear HO395; clear HO399; clear HO402; clear BK383; clear HB; have HO388 := n0_; have HO391 := n1_; have HO395 := n2_; have HO399 := n3_; have HO402 := n4_; have HO408 := n5_; have BK383 := n6_; have HB := n7_; clear n0_ n1_ n2_ n3_ n4_ n5_ n6_ n7_; (try clear hb); (try clear hb2); (try clear hk); (try clear hi); (try clear ho0)))
   (try simp only [Act.put, List.setIfInBounds_toArray, List.set_cons_zero, List.set_cons_succ])
   go_cut [68] (fun v68 wc => ∃ (kq : Nat) (x68_16 : Bool), v68 = .bool x68_16 ∧ Aside0 (laws_FnExactFirstOrder.j0 kq l1 l2 a3 t392 t393 t396 t397 t400 t405 t406 t409 x68_16 a0_0 a0_1 = some r) ∧ Aside0 (kq ≤ k) ∧ Aside0 (Kd.V (Kd.int .i64) 3 wc w.heap.size (fun k_ => some k_ ≠ ((.slice Ao30 t397.length co30) : Value).ownBlock ∧ some k_ ≠ ((.slice Ao31 t400.length co31) : Value).ownBlock ∧ some k_ ≠ (v407 : Value).ownBlock ∧ k_ ≠ gb383) v394 t393) ∧ Aside0 (Kd.R (Kd.int .i64) 3 wc w.heap.size (fun k_ => some k_ ≠ ((.slice Ao31 t400.length co31) : Value).ownBlock ∧ some k_ ≠ (v407 : Value).ownBlock) (.slice Ao30 t397.length co30) t397) ∧ Aside0 (Kd.R (Kd.int .i64) 3 wc w.heap.size (fun k_ => some k_ ≠ ((.slice Ao30 t397.length co30) : Value).ownBlock ∧ some k_ ≠ (v407 : Value).ownBlock) (.slice Ao31 t400.length co31) t400) ∧ Aside0 (Kd.R (Kd.int .i64) 3 wc w.heap.size (fun k_ => some k_ ≠ ((.slice Ao30 t397.length co30) : Value).ownBlock ∧ some k_ ≠ ((.slice Ao31 t400.length co31) : Value).ownBlock) v407 t406) ∧ Aside0 (wc.heap[gb383]? = some (.cells #[.int .i64 a0_0, .bool a0_1] 23 (0, 0))) ∧ Aside0 (Below w.heap.size w wc))
   case first =>
    have H := HC17.out
    clear HC17
    by_cases c33 : t405 = t392
    ·
     rw [if_pos c33] at H
     have c33b0 : (t405 == t392) = true := beq_iff_eq.mpr c33
     have c33b1 : (t405 != t392) = false := bne_eq_false_iff_eq.mpr c33
     clear c33
     (first | rw [c33b0] | (simp only [i64_w, i32_w]; rw [c33b0]) | skip)
     replace H := Option.bind_eq_some_iff.mp H
     obtain ⟨t410, A340, H⟩ := H
     replace H : (if t410 = true then (laws_FnExactFirstOrder.j0 k l1 l2 a3 t392 t393 t396 t397 t400 t405 t406 t409 (t409 != t396) a0_0 a0_1) else (laws_FnExactFirstOrder.j0 k l1 l2 a3 t392 t393 t396 t397 t400 t405 t406 t409 true a0_0 a0_1)) = some r := H
     have A34 := A_ A340
     clear A340
     by_cases c35 : t410 = true
     ·
      subst c35
      have H1 : (laws_FnExactFirstOrder.j0 k l1 l2 a3 t392 t393 t396 t397 t400 t405 t406 t409 (t409 != t396) a0_0 a0_1) = some r := by rw [if_pos rfl] at H; exact H
      clear H
      have H := H1
      clear H1
      have H' := A_ H
      clear H
      obtain ⟨Ao36, co36, eo36⟩ := Kd.R_slice HO408.out
      subst eo36
      obtain ⟨Ao37, co37, eo37⟩ := Kd.V_slice HO395.out
      subst eo37
      go_wp2_with (first | (go_at_call 11; (with_reducible refine (laws_eqIntS.calls k _ _ t406 _ _ t393 true _ ?side1 ?side2 ?side3 ?side4 A34.out).mono ?_); (case side1 => exact cq (Kd.R_reads' HO408.out).2.2); (case side2 => exact (Kd.R_reads' HO408.out).2.1); (case side3 => exact cq (Kd.V_reads' HO395.out).2.2); (case side4 => exact (Kd.V_reads' HO395.out).2.1); rintro e w' ⟨rfl, ⟨nd, rfl⟩⟩))
      go_meet
      case rel => exact ⟨_, ((t409 != t396)), (by first | rfl | (simp; done) | (simp [*]; done)), H', ⟨by first | omega | exact Nat.le_refl _⟩, ⟨by (with_reducible repeat (first | apply Kd.V_alloc | apply Kd.V_drewN | apply Kd.V_drew)); exact Kd.V_mono HO395.out (fun _ hk => ⟨hk.1.1.2, ⟨hk.1.2, ⟨hk.2, hk.1.1.1.2.2⟩⟩⟩)⟩, ⟨by (with_reducible repeat (first | apply Kd.R_alloc | apply Kd.R_drewN | apply Kd.R_drew)); exact Kd.R_mono HO399.out (fun _ => cjx)⟩, ⟨by (with_reducible repeat (first | apply Kd.R_alloc | apply Kd.R_drewN | apply Kd.R_drew)); exact Kd.R_mono HO402.out (fun _ => cjx)⟩, ⟨by (with_reducible repeat (first | apply Kd.R_alloc | apply Kd.R_drewN | apply Kd.R_drew)); exact Kd.R_mono HO408.out (fun _ => cjx)⟩, ⟨bq BK383⟩, ⟨hq HB⟩⟩
     ·
      replace c35 := Bool.eq_false_iff.mpr c35
      subst c35
      have H1 : (laws_FnExactFirstOrder.j0 k l1 l2 a3 t392 t393 t396 t397 t400 t405 t406 t409 true a0_0 a0_1) = some r := by rw [if_neg (show ¬ (false = true) by decide)] at H; exact H
      clear H
      have H := H1
      clear H1
      have H' := A_ H
      clear H
      obtain ⟨Ao38, co38, eo38⟩ := Kd.R_slice HO408.out
      subst eo38
      obtain ⟨Ao39, co39, eo39⟩ := Kd.V_slice HO395.out
      subst eo39
      go_wp2_with (first | (go_at_call 11; (with_reducible refine (laws_eqIntS.calls k _ _ t406 _ _ t393 false _ ?side1 ?side2 ?side3 ?side4 A34.out).mono ?_); (case side1 => exact cq (Kd.R_reads' HO408.out).2.2); (case side2 => exact (Kd.R_reads' HO408.out).2.1); (case side3 => exact cq (Kd.V_reads' HO395.out).2.2); (case side4 => exact (Kd.V_reads' HO395.out).2.1); rintro e w' ⟨rfl, ⟨nd, rfl⟩⟩))
      go_meet
      case rel => exact ⟨_, (true), (by first | rfl | (simp; done) | (simp [*]; done)), H', ⟨by first | omega | exact Nat.le_refl _⟩, ⟨by (with_reducible repeat (first | apply Kd.V_alloc | apply Kd.V_drewN | apply Kd.V_drew)); exact Kd.V_mono HO395.out (fun _ hk => ⟨hk.1.1.2, ⟨hk.1.2, ⟨hk.2, hk.1.1.1.2.2⟩⟩⟩)⟩, ⟨by (with_reducible repeat (first | apply Kd.R_alloc | apply Kd.R_drewN | apply Kd.R_drew)); exact Kd.R_mono HO399.out (fun _ => cjx)⟩, ⟨by (with_reducible repeat (first | apply Kd.R_alloc | apply Kd.R_drewN | apply Kd.R_drew)); exact Kd.R_mono HO402.out (fun _ => cjx)⟩, ⟨by (with_reducible repeat (first | apply Kd.R_alloc | apply Kd.R_drewN | apply Kd.R_drew)); exact Kd.R_mono HO408.out (fun _ => cjx)⟩, ⟨bq BK383⟩, ⟨hq HB⟩⟩
    ·
     rw [if_neg c33] at H
     have c33b0 : (t405 == t392) = false := beq_eq_false_iff_ne.mpr c33
     have c33b1 : (t405 != t392) = true := bne_iff_ne.mpr c33
     (first | rw [c33b0] | (simp only [i64_w, i32_w]; rw [c33b0]) | skip)
     have H' := A_ H
     clear H
     go_wp2
     go_meet
     case rel => exact ⟨_, (true), (by first | rfl | (simp; done) | (simp [*]; done)), H', ⟨by first | omega | exact Nat.le_refl _⟩, ⟨by (with_reducible repeat (first | apply Kd.V_alloc | apply Kd.V_drewN | apply Kd.V_drew)); exact Kd.V_mono HO395.out (fun _ hk => ⟨hk.1.1.2, ⟨hk.1.2, ⟨hk.2, hk.1.1.1.2.2⟩⟩⟩)⟩, ⟨by (with_reducible repeat (first | apply Kd.R_alloc | apply Kd.R_drewN | apply Kd.R_drew)); exact Kd.R_mono HO399.out (fun _ => cjx)⟩, ⟨by (with_reducible repeat (first | apply Kd.R_alloc | apply Kd.R_drewN | apply Kd.R_drew)); exact Kd.R_mono HO402.out (fun _ => cjx)⟩, ⟨by (with_reducible repeat (first | apply Kd.R_alloc | apply Kd.R_drewN | apply Kd.R_drew)); exact Kd.R_mono HO408.out (fun _ => cjx)⟩, ⟨bq BK383⟩, ⟨hq HB⟩⟩
   case rest =>
    clear HC17
    try clear c1
    try clear c2
    try clear p2
    try clear c3
    try clear c4
    try clear c5
    try clear c5b0
    try clear c5b1
    try clear c7
    try clear c7b0
    try clear c7b1
    try clear c8
    try clear c9
    try clear c14
    try clear c15
    try clear c33
    try clear c33b0
    try clear c33b1
    try clear c35
    try clear hcz19_0
    try clear hcz19_1
    try clear hcz28_0
    try clear hcz28_1
    try clear hfz19_0
    try clear hfz19_1
    try clear hfz28_0
    try clear hfz28_1
    obtain ⟨kq, x68_16, rfl, HA, HJ16, HO_10, HO_12, HO_13, HO_15, BK383, HB⟩ := hcut
    cases kq with
    | zero => exact absurd HA.out (by simp [laws_FnExactFirstOrder.j0])
    | succ kj16 =>
     have H := HA.out
     clear HA
     simp only [laws_FnExactFirstOrder.j0] at H
     by_cases c40 : x68_16 = true
     ·
      subst c40
      have H1 : (some false) = some r := by rw [if_pos rfl] at H; exact H
      clear H
      have H := H1
      clear H1
      obtain rfl := Option.some.inj H
      exact absurd hr_ (by decide)
     ·
      replace c40 := Bool.eq_false_iff.mpr c40
      subst c40
      have H1 : ((laws_toIntS.f kj16 l1).bind fun t411 => ((laws_eqIntS.f kj16 t397 t411).bind fun t414 => (if t414 = true then ((laws_toIntS.f kj16 l2).bind fun t415 => ((laws_eqIntS.f kj16 t400 t415).bind fun t418 => (if t418 = true then ((laws_markIntS.f kj16 t397 1).bind fun bt419 => ((laws_markIntS.f kj16 t400 bt419.1).bind fun bt421 => (if bt421.1 < 0 then (laws_FnExactFirstOrder.j1 kj16 l1 l2 a3 t392 t393 t396 t406 true a0_0 a0_1) else (if t405 = t392 then ((laws_eqIntS.f kj16 t406 t393).bind fun t423 => (if t423 = true then (laws_FnExactFirstOrder.j1 kj16 l1 l2 a3 t392 t393 t396 t406 (t409 != t396) a0_0 a0_1) else (laws_FnExactFirstOrder.j1 kj16 l1 l2 a3 t392 t393 t396 t406 true a0_0 a0_1))) else (laws_FnExactFirstOrder.j1 kj16 l1 l2 a3 t392 t393 t396 t406 true a0_0 a0_1))))) else (some false)))) else (some false)))) = some r := by rw [if_neg (show ¬ (false = true) by decide)] at H; exact H
      clear H
      have H := H1
      clear H1
      replace H := Option.bind_eq_some_iff.mp H
      obtain ⟨t411, A410, H⟩ := H
      replace H : ((laws_eqIntS.f kj16 t397 t411).bind fun t414 => (if t414 = true then ((laws_toIntS.f kj16 l2).bind fun t415 => ((laws_eqIntS.f kj16 t400 t415).bind fun t418 => (if t418 = true then ((laws_markIntS.f kj16 t397 1).bind fun bt419 => ((laws_markIntS.f kj16 t400 bt419.1).bind fun bt421 => (if bt421.1 < 0 then (laws_FnExactFirstOrder.j1 kj16 l1 l2 a3 t392 t393 t396 t406 true a0_0 a0_1) else (if t405 = t392 then ((laws_eqIntS.f kj16 t406 t393).bind fun t423 => (if t423 = true then (laws_FnExactFirstOrder.j1 kj16 l1 l2 a3 t392 t393 t396 t406 (t409 != t396) a0_0 a0_1) else (laws_FnExactFirstOrder.j1 kj16 l1 l2 a3 t392 t393 t396 t406 true a0_0 a0_1))) else (laws_FnExactFirstOrder.j1 kj16 l1 l2 a3 t392 t393 t396 t406 true a0_0 a0_1))))) else (some false)))) else (some false))) = some r := H
      have A41 := A_ A410
      clear A410
      replace H := Option.bind_eq_some_iff.mp H
      obtain ⟨t414, A420, H⟩ := H
      replace H : (if t414 = true then ((laws_toIntS.f kj16 l2).bind fun t415 => ((laws_eqIntS.f kj16 t400 t415).bind fun t418 => (if t418 = true then ((laws_markIntS.f kj16 t397 1).bind fun bt419 => ((laws_markIntS.f kj16 t400 bt419.1).bind fun bt421 => (if bt421.1 < 0 then (laws_FnExactFirstOrder.j1 kj16 l1 l2 a3 t392 t393 t396 t406 true a0_0 a0_1) else (if t405 = t392 then ((laws_eqIntS.f kj16 t406 t393).bind fun t423 => (if t423 = true then (laws_FnExactFirstOrder.j1 kj16 l1 l2 a3 t392 t393 t396 t406 (t409 != t396) a0_0 a0_1) else (laws_FnExactFirstOrder.j1 kj16 l1 l2 a3 t392 t393 t396 t406 true a0_0 a0_1))) else (laws_FnExactFirstOrder.j1 kj16 l1 l2 a3 t392 t393 t396 t406 true a0_0 a0_1))))) else (some false)))) else (some false)) = some r := H
      have A42 := A_ A420
      clear A420
      by_cases c43 : t414 = true
      ·
       subst c43
       have H1 : ((laws_toIntS.f kj16 l2).bind fun t415 => ((laws_eqIntS.f kj16 t400 t415).bind fun t418 => (if t418 = true then ((laws_markIntS.f kj16 t397 1).bind fun bt419 => ((laws_markIntS.f kj16 t400 bt419.1).bind fun bt421 => (if bt421.1 < 0 then (laws_FnExactFirstOrder.j1 kj16 l1 l2 a3 t392 t393 t396 t406 true a0_0 a0_1) else (if t405 = t392 then ((laws_eqIntS.f kj16 t406 t393).bind fun t423 => (if t423 = true then (laws_FnExactFirstOrder.j1 kj16 l1 l2 a3 t392 t393 t396 t406 (t409 != t396) a0_0 a0_1) else (laws_FnExactFirstOrder.j1 kj16 l1 l2 a3 t392 t393 t396 t406 true a0_0 a0_1))) else (laws_FnExactFirstOrder.j1 kj16 l1 l2 a3 t392 t393 t396 t406 true a0_0 a0_1))))) else (some false)))) = some r := by rw [if_pos rfl] at H; exact H
       clear H
       have H := H1
       clear H1
       replace H := Option.bind_eq_some_iff.mp H
       obtain ⟨t415, A440, H⟩ := H
       replace H : ((laws_eqIntS.f kj16 t400 t415).bind fun t418 => (if t418 = true then ((laws_markIntS.f kj16 t397 1).bind fun bt419 => ((laws_markIntS.f kj16 t400 bt419.1).bind fun bt421 => (if bt421.1 < 0 then (laws_FnExactFirstOrder.j1 kj16 l1 l2 a3 t392 t393 t396 t406 true a0_0 a0_1) else (if t405 = t392 then ((laws_eqIntS.f kj16 t406 t393).bind fun t423 => (if t423 = true then (laws_FnExactFirstOrder.j1 kj16 l1 l2 a3 t392 t393 t396 t406 (t409 != t396) a0_0 a0_1) else (laws_FnExactFirstOrder.j1 kj16 l1 l2 a3 t392 t393 t396 t406 true a0_0 a0_1))) else (laws_FnExactFirstOrder.j1 kj16 l1 l2 a3 t392 t393 t396 t406 true a0_0 a0_1))))) else (some false))) = some r := H
       have A44 := A_ A440
       clear A440
       replace H := Option.bind_eq_some_iff.mp H
       obtain ⟨t418, A450, H⟩ := H
       replace H : (if t418 = true then ((laws_markIntS.f kj16 t397 1).bind fun bt419 => ((laws_markIntS.f kj16 t400 bt419.1).bind fun bt421 => (if bt421.1 < 0 then (laws_FnExactFirstOrder.j1 kj16 l1 l2 a3 t392 t393 t396 t406 true a0_0 a0_1) else (if t405 = t392 then ((laws_eqIntS.f kj16 t406 t393).bind fun t423 => (if t423 = true then (laws_FnExactFirstOrder.j1 kj16 l1 l2 a3 t392 t393 t396 t406 (t409 != t396) a0_0 a0_1) else (laws_FnExactFirstOrder.j1 kj16 l1 l2 a3 t392 t393 t396 t406 true a0_0 a0_1))) else (laws_FnExactFirstOrder.j1 kj16 l1 l2 a3 t392 t393 t396 t406 true a0_0 a0_1))))) else (some false)) = some r := H
       have A45 := A_ A450
       clear A450
       by_cases c46 : t418 = true
       ·
        subst c46
        have H1 : ((laws_markIntS.f kj16 t397 1).bind fun bt419 => ((laws_markIntS.f kj16 t400 bt419.1).bind fun bt421 => (if bt421.1 < 0 then (laws_FnExactFirstOrder.j1 kj16 l1 l2 a3 t392 t393 t396 t406 true a0_0 a0_1) else (if t405 = t392 then ((laws_eqIntS.f kj16 t406 t393).bind fun t423 => (if t423 = true then (laws_FnExactFirstOrder.j1 kj16 l1 l2 a3 t392 t393 t396 t406 (t409 != t396) a0_0 a0_1) else (laws_FnExactFirstOrder.j1 kj16 l1 l2 a3 t392 t393 t396 t406 true a0_0 a0_1))) else (laws_FnExactFirstOrder.j1 kj16 l1 l2 a3 t392 t393 t396 t406 true a0_0 a0_1))))) = some r := by rw [if_pos rfl] at H; exact H
        clear H
        have H := H1
        clear H1
        replace H := Option.bind_eq_some_iff.mp H
        obtain ⟨⟨t419, t420⟩, A470, H⟩ := H
        replace H : ((laws_markIntS.f kj16 t400 t419).bind fun bt421 => (if bt421.1 < 0 then (laws_FnExactFirstOrder.j1 kj16 l1 l2 a3 t392 t393 t396 t406 true a0_0 a0_1) else (if t405 = t392 then ((laws_eqIntS.f kj16 t406 t393).bind fun t423 => (if t423 = true then (laws_FnExactFirstOrder.j1 kj16 l1 l2 a3 t392 t393 t396 t406 (t409 != t396) a0_0 a0_1) else (laws_FnExactFirstOrder.j1 kj16 l1 l2 a3 t392 t393 t396 t406 true a0_0 a0_1))) else (laws_FnExactFirstOrder.j1 kj16 l1 l2 a3 t392 t393 t396 t406 true a0_0 a0_1)))) = some r := H
        have A47 := A_ A470
        clear A470
        replace H := Option.bind_eq_some_iff.mp H
        obtain ⟨⟨t421, t422⟩, A480, H⟩ := H
        replace H : (if t421 < 0 then (laws_FnExactFirstOrder.j1 kj16 l1 l2 a3 t392 t393 t396 t406 true a0_0 a0_1) else (if t405 = t392 then ((laws_eqIntS.f kj16 t406 t393).bind fun t423 => (if t423 = true then (laws_FnExactFirstOrder.j1 kj16 l1 l2 a3 t392 t393 t396 t406 (t409 != t396) a0_0 a0_1) else (laws_FnExactFirstOrder.j1 kj16 l1 l2 a3 t392 t393 t396 t406 true a0_0 a0_1))) else (laws_FnExactFirstOrder.j1 kj16 l1 l2 a3 t392 t393 t396 t406 true a0_0 a0_1))) = some r := H
        have A48 := A_ A480
        clear A480
        have HC49 := A_ H
        clear H
        go_upto_region 18 with (first | ((with_reducible refine gate_callee (f := 9) rfl ?_); refine goesL_ (some 71) rfl rfl Try.func9 (by kernel_rfl) rfl #[.slice A1 l1.length c1] rfl gq ?_; (with_reducible refine (laws_toIntS.calls kj16 _ _ l1 t411 _ ?side1 ?side2 A41.out).mono ?_); (case side1 => exact cq (Kd.C_below HR1.out HB.out)); (case side2 => exact HC1.out); rintro e w50 ⟨v412, rfl, ho0, hb⟩; refine ⟨_, rfl, ?_⟩; have n0_ := A_ (Kd.V_elder' (vq HO_10) (Kd.R_base ho0) hb); have n1_ := A_ (Kd.R_elder' (rq HO_12) (Kd.R_base ho0) hb); have n2_ := A_ (Kd.R_elder' (rq HO_13) (Kd.R_base ho0) hb); have n3_ := A_ (Kd.R_elder' (rq HO_15) (Kd.R_base ho0) hb); have n4_ := A_ (Kd.R_lower (Kd.R_new' (Kd.R_new' (Kd.R_new' ho0 (Kd.R_lt (rq HO_12))) (Kd.R_lt (rq HO_13))) (Kd.R_lt (rq HO_15))) (below_size (hq HB))); have n5_ := A_ (blk_below (bq BK383) hb); have n6_ := A_ (below_step (hq HB) hb); clear HO_10; clear HO_12; clear HO_13; clear HO_15; clear BK383; clear HB; have HO_10 := n0_; have HO_12 := n1_; have HO_13 := n2_; have HO_15 := n3_; have HO413 := n4_; have BK383 := n5_; have HB := n6_; clear n0_ n1_ n2_ n3_ n4_ n5_ n6_; (try clear hb); (try clear hb2); (try clear hk); (try clear hi); (try clear ho0); obtain ⟨Ao51, co51, eo51⟩ := Kd.R_slice HO413.out; subst eo51) | ((with_reducible refine gate_callee (f := 11) rfl ?_); refine goesL_ (some 72) rfl rfl Try.func11 (by kernel_rfl) rfl #[.slice Ao30 t397.length co30, .slice Ao51 t411.length co51] rfl gq ?_; (with_reducible refine (laws_eqIntS.calls kj16 _ _ t397 _ _ t411 true _ ?side1 ?side2 ?side3 ?side4 A42.out).mono ?_); (case side1 => exact cq (Kd.R_reads' HO_12.out).2.2); (case side2 => exact (Kd.R_reads' HO_12.out).2.1); (case side3 => exact cq (Kd.R_reads' HO413.out).2.2); (case side4 => exact (Kd.R_reads' HO413.out).2.1); rintro e w' ⟨rfl, ⟨nd, rfl⟩⟩; refine ⟨_, rfl, ?_⟩) | ((with_reducible refine gate_callee (f := 9) rfl ?_); refine goesL_ (some 76) rfl rfl Try.func9 (by kernel_rfl) rfl #[.slice A2 l2.length c2] rfl gq ?_; (with_reducible refine (laws_toIntS.calls kj16 _ _ l2 t415 _ ?side1 ?side2 A44.out).mono ?_); (case side1 => exact cq (Kd.C_below HR2.out (hq HB))); (case side2 => exact HC2.out); rintro e w52 ⟨v416, rfl, ho0, hb⟩; refine ⟨_, rfl, ?_⟩; have n0_ := A_ (Kd.V_elder' (vq HO_10) (Kd.R_base ho0) hb); have n1_ := A_ (Kd.R_elder' (rq HO_12) (Kd.R_base ho0) hb); have n2_ := A_ (Kd.R_elder' (rq HO_13) (Kd.R_base ho0) hb); have n3_ := A_ (Kd.R_elder' (rq HO_15) (Kd.R_base ho0) hb); have n4_ := A_ (Kd.R_elder' (rq HO413) (Kd.R_base ho0) hb); have n5_ := A_ (Kd.R_lower (Kd.R_new' (Kd.R_new' (Kd.R_new' (Kd.R_new' ho0 (Kd.R_lt (rq HO_12))) (Kd.R_lt (rq HO_13))) (Kd.R_lt (rq HO_15))) (Kd.R_lt (rq HO413))) (below_size (hq HB))); have n6_ := A_ (blk_below (bq BK383) hb); have n7_ := A_ (below_step (hq HB) hb); clear HO_10; clear HO_12; clear HO_13; clear HO_15; clear HO413; clear BK383; clear HB; have HO_10 := n0_; have HO_12 := n1_; have HO_13 := n2_; have HO_15 := n3_; have HO413 := n4_; have HO417 := n5_; have BK383 := n6_; have HB := n7_; clear n0_ n1_ n2_ n3_ n4_ n5_ n6_ n7_; (try clear hb); (try clear hb2); (try clear hk); (try clear hi); (try clear ho0); obtain ⟨Ao53, co53, eo53⟩ := Kd.R_slice HO417.out; subst eo53) | ((with_reducible refine gate_callee (f := 11) rfl ?_); refine goesL_ (some 77) rfl rfl Try.func11 (by kernel_rfl) rfl #[.slice Ao31 t400.length co31, .slice Ao53 t415.length co53] rfl gq ?_; (with_reducible refine (laws_eqIntS.calls kj16 _ _ t400 _ _ t415 true _ ?side1 ?side2 ?side3 ?side4 A45.out).mono ?_); (case side1 => exact cq (Kd.R_reads' HO_13.out).2.2); (case side2 => exact (Kd.R_reads' HO_13.out).2.1); (case side3 => exact cq (Kd.R_reads' HO417.out).2.2); (case side4 => exact (Kd.R_reads' HO417.out).2.1); rintro e w' ⟨rfl, ⟨nd, rfl⟩⟩; refine ⟨_, rfl, ?_⟩) | ((with_reducible refine gate_callee (f := 12) rfl ?_); refine goesL_ (some 81) rfl rfl Try.func12 (by kernel_rfl) rfl #[.slice Ao30 t397.length co30, .int .i64 1] rfl gq ?_; (with_reducible refine (laws_markIntS.calls kj16 (fun k_ => some k_ = (.slice Ao30 t397.length co30 : Value).ownBlock) (.slice Ao30 t397.length co30) t397 1 t419 t420 w _ ?side1 ?side2 A47.out).mono ?_); (case side1 => repeat (first | (with_reducible first | exact HB.out | apply below_alloc | apply pw_below_drewN | apply below_drew1 | refine below_set ?_ GE383.out) | exact HB.out)); (case side2 => exact Kd.R_tight rfl HO_12.out); rintro e w54 ⟨rfl, hy0, hb, hkp⟩; refine ⟨_, rfl, ?_⟩; have n0_ := A_ (Kd.V_mono (ok' := fun k_ => some k_ ≠ (.slice Ao30 t397.length co30 : Value).ownBlock ∧ some k_ ≠ (.slice Ao31 t400.length co31 : Value).ownBlock ∧ some k_ ≠ (v407 : Value).ownBlock ∧ some k_ ≠ (.slice Ao51 t411.length co51 : Value).ownBlock ∧ some k_ ≠ (.slice Ao53 t415.length co53 : Value).ownBlock ∧ k_ ≠ gb383) (Kd.V_keptB (HO_10.out) hkp (fun k_ hk_ hs_ => (hk_.1.1.1) hs_)) (fun k_ hk_ => ⟨hk_.1.1.1.1, hk_.1.1.1.2.1, hk_.1.1.1.2.2.1, hk_.1.1.2, hk_.1.2, hk_.1.1.1.2.2.2⟩)); have n1_ := A_ (Kd.R_reok rfl hy0 (fun k_ e_ => HO_12.out.1 k_ e_)); have n2_ := A_ (Kd.R_mono (ok' := fun k_ => some k_ ≠ (.slice Ao30 t397.length co30 : Value).ownBlock ∧ some k_ ≠ (v407 : Value).ownBlock ∧ some k_ ≠ (.slice Ao51 t411.length co51 : Value).ownBlock ∧ some k_ ≠ (.slice Ao53 t415.length co53 : Value).ownBlock) (Kd.R_keptB (HO_13.out) hkp (fun k_ hk_ hs_ => (hk_.1.1.1) hs_)) (fun k_ hk_ => ⟨hk_.1.1.1.1, hk_.1.1.1.2, hk_.1.1.2, hk_.1.2⟩)); have n3_ := A_ (Kd.R_mono (ok' := fun k_ => some k_ ≠ (.slice Ao30 t397.length co30 : Value).ownBlock ∧ some k_ ≠ (.slice Ao31 t400.length co31 : Value).ownBlock ∧ some k_ ≠ (.slice Ao51 t411.length co51 : Value).ownBlock ∧ some k_ ≠ (.slice Ao53 t415.length co53 : Value).ownBlock) (Kd.R_keptB (HO_15.out) hkp (fun k_ hk_ hs_ => (hk_.1.1.1) hs_)) (fun k_ hk_ => ⟨hk_.1.1.1.1, hk_.1.1.1.2, hk_.1.1.2, hk_.1.2⟩)); have n4_ := A_ (blk_kept (bq BK383) hkp (fun hs_ => (fun e_ => (Kd.R_ne HO_12.out BK383.out (by decide)) e_) hs_)); have n5_ := A_ (Kd.R_mono (ok' := fun k_ => some k_ ≠ (.slice Ao30 t397.length co30 : Value).ownBlock ∧ some k_ ≠ (.slice Ao31 t400.length co31 : Value).ownBlock ∧ some k_ ≠ (v407 : Value).ownBlock ∧ some k_ ≠ (.slice Ao53 t415.length co53 : Value).ownBlock) (Kd.R_keptB (HO413.out) hkp (fun k_ hk_ hs_ => (hk_.1.1.1.2) hs_)) (fun k_ hk_ => ⟨hk_.1.1.1.1.2, hk_.1.1.1.2, hk_.1.1.2, hk_.1.2⟩)); have n6_ := A_ (Kd.R_mono (ok' := fun k_ => some k_ ≠ (.slice Ao30 t397.length co30 : Value).ownBlock ∧ some k_ ≠ (.slice Ao31 t400.length co31 : Value).ownBlock ∧ some k_ ≠ (v407 : Value).ownBlock ∧ some k_ ≠ (.slice Ao51 t411.length co51 : Value).ownBlock) (Kd.R_keptB (HO417.out) hkp (fun k_ hk_ hs_ => (hk_.1.1.1.2) hs_)) (fun k_ hk_ => ⟨hk_.1.1.1.1.2, hk_.1.1.1.2, hk_.1.1.2, hk_.1.2⟩)); have n7_ := A_ (hb); clear HO_10; clear HO_12; clear HO_13; clear HO_15; clear BK383; clear HO413; clear HO417; clear HB; have HO_10 := n0_; have HO_12 := n1_; have HO_13 := n2_; have HO_15 := n3_; have BK383 := n4_; have HO413 := n5_; have HO417 := n6_; have HB := n7_; clear n0_ n1_ n2_ n3_ n4_ n5_ n6_ n7_; (try clear hb); (try clear hkp); (try clear hy0)) | ((with_reducible refine gate_callee (f := 12) rfl ?_); refine goesL_ (some 84) rfl rfl Try.func12 (by kernel_rfl) rfl #[.slice Ao31 t400.length co31, .int .i64 t419] rfl gq ?_; (with_reducible refine (laws_markIntS.calls kj16 (fun k_ => some k_ = (.slice Ao31 t400.length co31 : Value).ownBlock) (.slice Ao31 t400.length co31) t400 t419 t421 t422 w _ ?side1 ?side2 A48.out).mono ?_); (case side1 => repeat (first | (with_reducible first | exact HB.out | apply below_alloc | apply pw_below_drewN | apply below_drew1 | refine below_set ?_ GE383.out) | exact HB.out)); (case side2 => exact Kd.R_tight rfl HO_13.out); rintro e w55 ⟨rfl, hy0, hb, hkp⟩; refine ⟨_, rfl, ?_⟩; have n0_ := A_ (Kd.V_mono (ok' := fun k_ => some k_ ≠ (.slice Ao30 t397.length co30 : Value).ownBlock ∧ some k_ ≠ (.slice Ao31 t400.length co31 : Value).ownBlock ∧ some k_ ≠ (v407 : Value).ownBlock ∧ some k_ ≠ (.slice Ao51 t411.length co51 : Value).ownBlock ∧ some k_ ≠ (.slice Ao53 t415.length co53 : Value).ownBlock ∧ k_ ≠ gb383) (Kd.V_keptB (HO_10.out) hkp (fun k_ hk_ hs_ => (hk_.2.1) hs_)) (fun k_ hk_ => ⟨hk_.1.1, hk_.1.2.1, hk_.1.2.2.1, hk_.1.2.2.2.1, hk_.1.2.2.2.2.1, hk_.1.2.2.2.2.2⟩)); have n1_ := A_ (Kd.R_mono (ok' := fun k_ => some k_ ≠ (.slice Ao31 t400.length co31 : Value).ownBlock ∧ some k_ ≠ (v407 : Value).ownBlock ∧ some k_ ≠ (.slice Ao51 t411.length co51 : Value).ownBlock ∧ some k_ ≠ (.slice Ao53 t415.length co53 : Value).ownBlock) (Kd.R_keptB (HO_12.out) hkp (fun k_ hk_ hs_ => (hk_.1.1.1) hs_)) (fun k_ hk_ => ⟨hk_.1.1.1.1, hk_.1.1.1.2, hk_.1.1.2, hk_.1.2⟩)); have n2_ := A_ (Kd.R_reok rfl hy0 (fun k_ e_ => HO_13.out.1 k_ e_)); have n3_ := A_ (Kd.R_mono (ok' := fun k_ => some k_ ≠ (.slice Ao30 t397.length co30 : Value).ownBlock ∧ some k_ ≠ (.slice Ao31 t400.length co31 : Value).ownBlock ∧ some k_ ≠ (.slice Ao51 t411.length co51 : Value).ownBlock ∧ some k_ ≠ (.slice Ao53 t415.length co53 : Value).ownBlock) (Kd.R_keptB (HO_15.out) hkp (fun k_ hk_ hs_ => (hk_.2.1) hs_)) (fun k_ hk_ => ⟨hk_.1.1, hk_.1.2.1, hk_.1.2.2.1, hk_.1.2.2.2⟩)); have n4_ := A_ (blk_kept (bq BK383) hkp (fun hs_ => (fun e_ => (Kd.R_ne HO_13.out BK383.out (by decide)) e_) hs_)); have n5_ := A_ (Kd.R_mono (ok' := fun k_ => some k_ ≠ (.slice Ao30 t397.length co30 : Value).ownBlock ∧ some k_ ≠ (.slice Ao31 t400.length co31 : Value).ownBlock ∧ some k_ ≠ (v407 : Value).ownBlock ∧ some k_ ≠ (.slice Ao53 t415.length co53 : Value).ownBlock) (Kd.R_keptB (HO413.out) hkp (fun k_ hk_ hs_ => (hk_.2.1) hs_)) (fun k_ hk_ => ⟨hk_.1.1, hk_.1.2.1, hk_.1.2.2.1, hk_.1.2.2.2⟩)); have n6_ := A_ (Kd.R_mono (ok' := fun k_ => some k_ ≠ (.slice Ao30 t397.length co30 : Value).ownBlock ∧ some k_ ≠ (.slice Ao31 t400.length co31 : Value).ownBlock ∧ some k_ ≠ (v407 : Value).ownBlock ∧ some k_ ≠ (.slice Ao51 t411.length co51 : Value).ownBlock) (Kd.R_keptB (HO417.out) hkp (fun k_ hk_ hs_ => (hk_.2.1) hs_)) (fun k_ hk_ => ⟨hk_.1.1, hk_.1.2.1, hk_.1.2.2.1, hk_.1.2.2.2⟩)); have n7_ := A_ (hb); clear HO_10; clear HO_12; clear HO_13; clear HO_15; clear BK383; clear HO413; clear HO417; clear HB; have HO_10 := n0_; have HO_12 := n1_; have HO_13 := n2_; have HO_15 := n3_; have BK383 := n4_; have HO413 := n5_; have HO417 := n6_; have HB := n7_; clear n0_ n1_ n2_ n3_ n4_ n5_ n6_ n7_; (try clear hb); (try clear hkp); (try clear hy0)))
        (try simp only [Act.put, List.setIfInBounds_toArray, List.set_cons_zero, List.set_cons_succ])
        go_cut [102] (fun v102 wc => ∃ (kq : Nat) (x102_48 : Bool), v102 = .bool x102_48 ∧ Aside0 (laws_FnExactFirstOrder.j1 kq l1 l2 a3 t392 t393 t396 t406 x102_48 a0_0 a0_1 = some r) ∧ Aside0 (kq ≤ kj16) ∧ Aside0 (Kd.V (Kd.int .i64) 3 wc w.heap.size (fun k_ => some k_ ≠ (v407 : Value).ownBlock ∧ k_ ≠ gb383) v394 t393) ∧ Aside0 (Kd.R (Kd.int .i64) 3 wc w.heap.size (fun _ => True) v407 t406) ∧ Aside0 (wc.heap[gb383]? = some (.cells #[.int .i64 a0_0, .bool a0_1] 23 (0, 0))) ∧ Aside0 (Below w.heap.size w wc))
        case first =>
         have H := HC49.out
         clear HC49
         by_cases c56 : t421 < 0
         ·
          rw [if_pos c56] at H
          have c56b0 : decide (t421 < 0) = true := decide_eq_true c56
          clear c56
          (first | rw [c56b0] | (simp only [i64_w, i32_w]; rw [c56b0]) | skip)
          have H' := A_ H
          clear H
          go_wp2
          go_meet
          case rel => exact ⟨_, (true), (by first | rfl | (simp; done) | (simp [*]; done)), H', ⟨by have := HJ16.out; first | omega | exact Nat.le_refl _⟩, ⟨by (with_reducible repeat (first | apply Kd.V_alloc | apply Kd.V_drewN | apply Kd.V_drew)); exact Kd.V_mono HO_10.out (fun _ => cjx)⟩, ⟨by (with_reducible repeat (first | apply Kd.R_alloc | apply Kd.R_drewN | apply Kd.R_drew)); exact Kd.R_mono HO_15.out (fun _ hk => trivial)⟩, ⟨bq BK383⟩, ⟨hq HB⟩⟩
         ·
          rw [if_neg c56] at H
          have c56b0 : decide (t421 < 0) = false := decide_eq_false c56
          clear c56
          (first | rw [c56b0] | (simp only [i64_w, i32_w]; rw [c56b0]) | skip)
          by_cases c57 : t405 = t392
          ·
           rw [if_pos c57] at H
           have c57b0 : (t405 == t392) = true := beq_iff_eq.mpr c57
           have c57b1 : (t405 != t392) = false := bne_eq_false_iff_eq.mpr c57
           clear c57
           replace H := Option.bind_eq_some_iff.mp H
           obtain ⟨t423, A580, H⟩ := H
           replace H : (if t423 = true then (laws_FnExactFirstOrder.j1 kj16 l1 l2 a3 t392 t393 t396 t406 (t409 != t396) a0_0 a0_1) else (laws_FnExactFirstOrder.j1 kj16 l1 l2 a3 t392 t393 t396 t406 true a0_0 a0_1)) = some r := H
           have A58 := A_ A580
           clear A580
           by_cases c59 : t423 = true
           ·
            subst c59
            have H1 : (laws_FnExactFirstOrder.j1 kj16 l1 l2 a3 t392 t393 t396 t406 (t409 != t396) a0_0 a0_1) = some r := by rw [if_pos rfl] at H; exact H
            clear H
            have H := H1
            clear H1
            have H' := A_ H
            clear H
            obtain ⟨Ao60, co60, eo60⟩ := Kd.R_slice HO_15.out
            subst eo60
            obtain ⟨Ao61, co61, eo61⟩ := Kd.V_slice HO_10.out
            subst eo61
            go_wp2_with (first | (go_at_call 11; (with_reducible refine (laws_eqIntS.calls kj16 _ _ t406 _ _ t393 true _ ?side1 ?side2 ?side3 ?side4 A58.out).mono ?_); (case side1 => exact cq (Kd.R_reads' HO_15.out).2.2); (case side2 => exact (Kd.R_reads' HO_15.out).2.1); (case side3 => exact cq (Kd.V_reads' HO_10.out).2.2); (case side4 => exact (Kd.V_reads' HO_10.out).2.1); rintro e w' ⟨rfl, ⟨nd, rfl⟩⟩))
            go_meet
            case rel => exact ⟨_, ((t409 != t396)), (by first | rfl | (simp; done) | (simp [*]; done)), H', ⟨by have := HJ16.out; first | omega | exact Nat.le_refl _⟩, ⟨by (with_reducible repeat (first | apply Kd.V_alloc | apply Kd.V_drewN | apply Kd.V_drew)); exact Kd.V_mono HO_10.out (fun _ => cjx)⟩, ⟨by (with_reducible repeat (first | apply Kd.R_alloc | apply Kd.R_drewN | apply Kd.R_drew)); exact Kd.R_mono HO_15.out (fun _ hk => trivial)⟩, ⟨bq BK383⟩, ⟨hq HB⟩⟩
           ·
            replace c59 := Bool.eq_false_iff.mpr c59
            subst c59
            have H1 : (laws_FnExactFirstOrder.j1 kj16 l1 l2 a3 t392 t393 t396 t406 true a0_0 a0_1) = some r := by rw [if_neg (show ¬ (false = true) by decide)] at H; exact H
            clear H
            have H := H1
            clear H1
            have H' := A_ H
            clear H
            obtain ⟨Ao62, co62, eo62⟩ := Kd.R_slice HO_15.out
            subst eo62
            obtain ⟨Ao63, co63, eo63⟩ := Kd.V_slice HO_10.out
            subst eo63
            go_wp2_with (first | (go_at_call 11; (with_reducible refine (laws_eqIntS.calls kj16 _ _ t406 _ _ t393 false _ ?side1 ?side2 ?side3 ?side4 A58.out).mono ?_); (case side1 => exact cq (Kd.R_reads' HO_15.out).2.2); (case side2 => exact (Kd.R_reads' HO_15.out).2.1); (case side3 => exact cq (Kd.V_reads' HO_10.out).2.2); (case side4 => exact (Kd.V_reads' HO_10.out).2.1); rintro e w' ⟨rfl, ⟨nd, rfl⟩⟩))
            go_meet
            case rel => exact ⟨_, (true), (by first | rfl | (simp; done) | (simp [*]; done)), H', ⟨by have := HJ16.out; first | omega | exact Nat.le_refl _⟩, ⟨by (with_reducible repeat (first | apply Kd.V_alloc | apply Kd.V_drewN | apply Kd.V_drew)); exact Kd.V_mono HO_10.out (fun _ => cjx)⟩, ⟨by (with_reducible repeat (first | apply Kd.R_alloc | apply Kd.R_drewN | apply Kd.R_drew)); exact Kd.R_mono HO_15.out (fun _ hk => trivial)⟩, ⟨bq BK383⟩, ⟨hq HB⟩⟩
          ·
           rw [if_neg c57] at H
           have c57b0 : (t405 == t392) = false := beq_eq_false_iff_ne.mpr c57
           have c57b1 : (t405 != t392) = true := bne_iff_ne.mpr c57
           have H' := A_ H
           clear H
           go_wp2
           go_meet
           case rel => exact ⟨_, (true), (by first | rfl | (simp; done) | (simp [*]; done)), H', ⟨by have := HJ16.out; first | omega | exact Nat.le_refl _⟩, ⟨by (with_reducible repeat (first | apply Kd.V_alloc | apply Kd.V_drewN | apply Kd.V_drew)); exact Kd.V_mono HO_10.out (fun _ => cjx)⟩, ⟨by (with_reducible repeat (first | apply Kd.R_alloc | apply Kd.R_drewN | apply Kd.R_drew)); exact Kd.R_mono HO_15.out (fun _ hk => trivial)⟩, ⟨bq BK383⟩, ⟨hq HB⟩⟩
        case rest =>
         clear HC49
         try clear c1
         try clear c2
         try clear p2
         try clear c3
         try clear c4
         try clear c5
         try clear c5b0
         try clear c5b1
         try clear c7
         try clear c7b0
         try clear c7b1
         try clear c8
         try clear c9
         try clear c11
         try clear c12
         try clear c14
         try clear c15
         try clear c33
         try clear c33b0
         try clear c33b1
         try clear c35
         try clear c40
         try clear c43
         try clear c46
         try clear c56
         try clear c56b0
         try clear c57
         try clear c57b0
         try clear c57b1
         try clear c59
         try clear hcz19_0
         try clear hcz19_1
         try clear hcz28_0
         try clear hcz28_1
         try clear hfz19_0
         try clear hfz19_1
         try clear hfz28_0
         try clear hfz28_1
         try clear p2
         obtain ⟨kq, x102_48, rfl, HA, HJ48, HO_10, HO_15, BK383, HB⟩ := hcut
         cases kq with
         | zero => exact absurd HA.out (by simp [laws_FnExactFirstOrder.j1])
         | succ kj48 =>
          have H := HA.out
          clear HA
          simp only [laws_FnExactFirstOrder.j1] at H
          by_cases c64 : x102_48 = true
          ·
           subst c64
           have H1 : (some false) = some r := by rw [if_pos rfl] at H; exact H
           clear H
           have H := H1
           clear H1
           obtain rfl := Option.some.inj H
           exact absurd hr_ (by decide)
          ·
           replace c64 := Bool.eq_false_iff.mpr c64
           subst c64
           have H1 : ((laws_markIntS.f kj48 t406 1).bind fun bt424 => ((laws_heldIntS.f kj48 bt424.2 1).bind fun t426 => (if t426 < 0 then (some false) else (if t426 = bt424.1 then ((laws_toRoad.f a0_0 a0_1).bind fun bt427 => ((laws_toIntS.f kj48 l1).bind fun t429 => ((laws_toIntS.f kj48 l2).bind fun t432 => ((impl_FirstOrder.f kj48 bt427.1 bt427.2 t429 t432 a3).bind fun bt435 => (if bt435.1 = t392 then ((laws_eqIntS.f kj48 bt435.2.1 t393).bind fun t440 => (if t440 = true then (laws_FnExactFirstOrder.j2 kj48 bt424.2 bt424.1 (bt435.2.2 != t396)) else (laws_FnExactFirstOrder.j2 kj48 bt424.2 bt424.1 true))) else (laws_FnExactFirstOrder.j2 kj48 bt424.2 bt424.1 true)))))) else (some false))))) = some r := by rw [if_neg (show ¬ (false = true) by decide)] at H; exact H
           clear H
           have H := H1
           clear H1
           replace H := Option.bind_eq_some_iff.mp H
           obtain ⟨⟨t424, t425⟩, A650, H⟩ := H
           replace H : ((laws_heldIntS.f kj48 t425 1).bind fun t426 => (if t426 < 0 then (some false) else (if t426 = t424 then ((laws_toRoad.f a0_0 a0_1).bind fun bt427 => ((laws_toIntS.f kj48 l1).bind fun t429 => ((laws_toIntS.f kj48 l2).bind fun t432 => ((impl_FirstOrder.f kj48 bt427.1 bt427.2 t429 t432 a3).bind fun bt435 => (if bt435.1 = t392 then ((laws_eqIntS.f kj48 bt435.2.1 t393).bind fun t440 => (if t440 = true then (laws_FnExactFirstOrder.j2 kj48 t425 t424 (bt435.2.2 != t396)) else (laws_FnExactFirstOrder.j2 kj48 t425 t424 true))) else (laws_FnExactFirstOrder.j2 kj48 t425 t424 true)))))) else (some false)))) = some r := H
           have A65 := A_ A650
           clear A650
           replace H := Option.bind_eq_some_iff.mp H
           obtain ⟨t426, A660, H⟩ := H
           replace H : (if t426 < 0 then (some false) else (if t426 = t424 then ((laws_toRoad.f a0_0 a0_1).bind fun bt427 => ((laws_toIntS.f kj48 l1).bind fun t429 => ((laws_toIntS.f kj48 l2).bind fun t432 => ((impl_FirstOrder.f kj48 bt427.1 bt427.2 t429 t432 a3).bind fun bt435 => (if bt435.1 = t392 then ((laws_eqIntS.f kj48 bt435.2.1 t393).bind fun t440 => (if t440 = true then (laws_FnExactFirstOrder.j2 kj48 t425 t424 (bt435.2.2 != t396)) else (laws_FnExactFirstOrder.j2 kj48 t425 t424 true))) else (laws_FnExactFirstOrder.j2 kj48 t425 t424 true)))))) else (some false))) = some r := H
           have A66 := A_ A660
           clear A660
           by_cases c67 : t426 < 0
           ·
            rw [if_pos c67] at H
            have c67b0 : decide (t426 < 0) = true := decide_eq_true c67
            clear c67
            obtain rfl := Option.some.inj H
            exact absurd hr_ (by decide)
           ·
            rw [if_neg c67] at H
            have c67b0 : decide (t426 < 0) = false := decide_eq_false c67
            clear c67
            by_cases c70 : t426 = t424
            ·
             rw [if_pos c70] at H
             have c70b0 : (t426 == t424) = true := beq_iff_eq.mpr c70
             have c70b1 : (t426 != t424) = false := bne_eq_false_iff_eq.mpr c70
             clear c70
             replace H := Option.bind_eq_some_iff.mp H
             obtain ⟨⟨t427, t428⟩, A710, H⟩ := H
             replace H : ((laws_toIntS.f kj48 l1).bind fun t429 => ((laws_toIntS.f kj48 l2).bind fun t432 => ((impl_FirstOrder.f kj48 t427 t428 t429 t432 a3).bind fun bt435 => (if bt435.1 = t392 then ((laws_eqIntS.f kj48 bt435.2.1 t393).bind fun t440 => (if t440 = true then (laws_FnExactFirstOrder.j2 kj48 t425 t424 (bt435.2.2 != t396)) else (laws_FnExactFirstOrder.j2 kj48 t425 t424 true))) else (laws_FnExactFirstOrder.j2 kj48 t425 t424 true))))) = some r := H
             have A71 := A_ A710
             clear A710
             replace H := Option.bind_eq_some_iff.mp H
             obtain ⟨t429, A720, H⟩ := H
             replace H : ((laws_toIntS.f kj48 l2).bind fun t432 => ((impl_FirstOrder.f kj48 t427 t428 t429 t432 a3).bind fun bt435 => (if bt435.1 = t392 then ((laws_eqIntS.f kj48 bt435.2.1 t393).bind fun t440 => (if t440 = true then (laws_FnExactFirstOrder.j2 kj48 t425 t424 (bt435.2.2 != t396)) else (laws_FnExactFirstOrder.j2 kj48 t425 t424 true))) else (laws_FnExactFirstOrder.j2 kj48 t425 t424 true)))) = some r := H
             have A72 := A_ A720
             clear A720
             replace H := Option.bind_eq_some_iff.mp H
             obtain ⟨t432, A730, H⟩ := H
             replace H : ((impl_FirstOrder.f kj48 t427 t428 t429 t432 a3).bind fun bt435 => (if bt435.1 = t392 then ((laws_eqIntS.f kj48 bt435.2.1 t393).bind fun t440 => (if t440 = true then (laws_FnExactFirstOrder.j2 kj48 t425 t424 (bt435.2.2 != t396)) else (laws_FnExactFirstOrder.j2 kj48 t425 t424 true))) else (laws_FnExactFirstOrder.j2 kj48 t425 t424 true))) = some r := H
             have A73 := A_ A730
             clear A730
             replace H := Option.bind_eq_some_iff.mp H
             obtain ⟨⟨t435, t436, t439⟩, A740, H⟩ := H
             replace H : (if t435 = t392 then ((laws_eqIntS.f kj48 t436 t393).bind fun t440 => (if t440 = true then (laws_FnExactFirstOrder.j2 kj48 t425 t424 (t439 != t396)) else (laws_FnExactFirstOrder.j2 kj48 t425 t424 true))) else (laws_FnExactFirstOrder.j2 kj48 t425 t424 true)) = some r := H
             have A74 := A_ A740
             clear A740
             have HC75 := A_ H
             clear H
             obtain ⟨Ao76, co76, eo76⟩ := Kd.R_slice HO_15.out
             subst eo76
             go_upto_region 29 with (first | ((with_reducible refine gate_callee (f := 12) rfl ?_); refine goesL_ (some 105) rfl rfl Try.func12 (by kernel_rfl) rfl #[.slice Ao76 t406.length co76, .int .i64 1] rfl gq ?_; (with_reducible refine (laws_markIntS.calls kj48 (fun k_ => some k_ = (.slice Ao76 t406.length co76 : Value).ownBlock) (.slice Ao76 t406.length co76) t406 1 t424 t425 w _ ?side1 ?side2 A65.out).mono ?_); (case side1 => repeat (first | (with_reducible first | exact HB.out | apply below_alloc | apply pw_below_drewN | apply below_drew1 | refine below_set ?_ GE383.out) | exact HB.out)); (case side2 => exact Kd.R_tight rfl HO_15.out); rintro e w77 ⟨rfl, hy0, hb, hkp⟩; refine ⟨_, rfl, ?_⟩; have n0_ := A_ (Kd.V_mono (ok' := fun k_ => some k_ ≠ (.slice Ao76 t406.length co76 : Value).ownBlock ∧ k_ ≠ gb383) (Kd.V_keptB (HO_10.out) hkp (fun k_ hk_ hs_ => (hk_.1) hs_)) (fun k_ hk_ => ⟨hk_.1.1, hk_.1.2⟩)); have n1_ := A_ (Kd.R_reok rfl hy0 (fun k_ e_ => HO_15.out.1 k_ e_)); have n2_ := A_ (blk_kept (bq BK383) hkp (fun hs_ => (fun e_ => (Kd.R_ne HO_15.out BK383.out (by decide)) e_) hs_)); have n3_ := A_ (hb); clear HO_10; clear HO_15; clear BK383; clear HB; have HO_10 := n0_; have HO_15 := n1_; have BK383 := n2_; have HB := n3_; clear n0_ n1_ n2_ n3_; (try clear hb); (try clear hkp); (try clear hy0)) | ((with_reducible refine gate_callee (f := 13) rfl ?_); refine goesL_ (some 108) rfl rfl Try.func13 (by kernel_rfl) rfl #[.slice Ao76 t425.length co76, .int .i64 1] rfl (by (try simp only [List.map_toArray, List.map_cons, List.map_nil]); first | done | (rw [show t425.length = t406.length from (Kd.R_reads' HO_15.out).1.symm] <;> rfl) | rfl | (simp only [List.length_drop, List.length_take]; rfl)) ?_; (with_reducible refine (laws_heldIntS.calls kj48 _ _ t425 1 t426 _ ?side1 ?side2 A66.out).mono ?_); (case side1 => exact cq (Kd.R_reads' HO_15.out).2.2); (case side2 => rw [show t425.length = t406.length from (Kd.R_reads' HO_15.out).1.symm]; exact (Kd.R_reads' HO_15.out).2.1); rintro e w' ⟨rfl, ⟨nd, rfl⟩⟩; refine ⟨_, rfl, ?_⟩; have hcz78_0 : w77.cell? ⟨gb383, 0, none⟩ = some (.int .i64 a0_0) := bc BK383 0; have hcz78_1 : w77.cell? ⟨gb383, 1, none⟩ = some (.bool a0_1) := bc BK383 1; have hfz78_0 := blk_frozen BK383.out 0; have hfz78_1 := blk_frozen BK383.out 1) | ((with_reducible refine gate_callee (f := 8) rfl ?_); refine goesL_ (some 116) rfl rfl Try.func8 (by kernel_rfl) rfl #[.agg #[.int .i64 a0_0, .bool a0_1]] rfl gq ?_; (with_reducible refine (laws_toRoad.calls a0_0 a0_1 t427 t428 _ A71.out).mono ?_); rintro e w79 ⟨rfl, hb⟩; refine ⟨_, rfl, ?_⟩; have n0_ := A_ (Kd.V_below (vq HO_10) hb); have n1_ := A_ (Kd.R_below (rq HO_15) hb); have n2_ := A_ (blk_below (bq BK383) hb); have n3_ := A_ (below_step (hq HB) hb); clear HO_10; clear HO_15; clear BK383; clear HB; have HO_10 := n0_; have HO_15 := n1_; have BK383 := n2_; have HB := n3_; clear n0_ n1_ n2_ n3_; (try clear hb); (try clear hb2); (try clear hk); (try clear hi)) | ((with_reducible refine gate_callee (f := 9) rfl ?_); refine goesL_ (some 118) rfl rfl Try.func9 (by kernel_rfl) rfl #[.slice A1 l1.length c1] rfl gq ?_; (with_reducible refine (laws_toIntS.calls kj48 _ _ l1 t429 _ ?side1 ?side2 A72.out).mono ?_); (case side1 => exact cq (Kd.C_below HR1.out HB.out)); (case side2 => exact HC1.out); rintro e w80 ⟨v430, rfl, ho0, hb⟩; refine ⟨_, rfl, ?_⟩; have n0_ := A_ (Kd.V_elder' (vq HO_10) (Kd.R_base ho0) hb); have n1_ := A_ (Kd.R_elder' (rq HO_15) (Kd.R_base ho0) hb); have n2_ := A_ (Kd.R_lower (Kd.R_new' ho0 (Kd.R_lt (rq HO_15))) (below_size (hq HB))); have n3_ := A_ (blk_below (bq BK383) hb); have n4_ := A_ (below_step (hq HB) hb); clear HO_10; clear HO_15; clear BK383; clear HB; have HO_10 := n0_; have HO_15 := n1_; have HO431 := n2_; have BK383 := n3_; have HB := n4_; clear n0_ n1_ n2_ n3_ n4_; (try clear hb); (try clear hb2); (try clear hk); (try clear hi); (try clear ho0)) | ((with_reducible refine gate_callee (f := 9) rfl ?_); refine goesL_ (some 120) rfl rfl Try.func9 (by kernel_rfl) rfl #[.slice A2 l2.length c2] rfl gq ?_; (with_reducible refine (laws_toIntS.calls kj48 _ _ l2 t432 _ ?side1 ?side2 A73.out).mono ?_); (case side1 => exact cq (Kd.C_below HR2.out HB.out)); (case side2 => exact HC2.out); rintro e w81 ⟨v433, rfl, ho0, hb⟩; refine ⟨_, rfl, ?_⟩; have n0_ := A_ (Kd.V_elder' (vq HO_10) (Kd.R_base ho0) hb); have n1_ := A_ (Kd.R_elder' (rq HO_15) (Kd.R_base ho0) hb); have n2_ := A_ (Kd.R_elder' (rq HO431) (Kd.R_base ho0) hb); have n3_ := A_ (Kd.R_lower (Kd.R_new' (Kd.R_new' ho0 (Kd.R_lt (rq HO_15))) (Kd.R_lt (rq HO431))) (below_size (hq HB))); have n4_ := A_ (blk_below (bq BK383) hb); have n5_ := A_ (below_step (hq HB) hb); clear HO_10; clear HO_15; clear HO431; clear BK383; clear HB; have HO_10 := n0_; have HO_15 := n1_; have HO431 := n2_; have HO434 := n3_; have BK383 := n4_; have HB := n5_; clear n0_ n1_ n2_ n3_ n4_ n5_; (try clear hb); (try clear hb2); (try clear hk); (try clear hi); (try clear ho0); obtain ⟨Ao82, co82, eo82⟩ := Kd.R_slice HO431.out; subst eo82; obtain ⟨Ao83, co83, eo83⟩ := Kd.R_slice HO434.out; subst eo83) | ((with_reducible refine gate_callee (f := 15) rfl ?_); refine goesL_ (some 122) rfl rfl Try.func15 (by kernel_rfl) rfl #[.agg #[.int .i64 t427, .bool t428], .slice Ao82 t429.length co82, .slice Ao83 t432.length co83, .bool a3] rfl gq ?_; (with_reducible refine (impl_FirstOrder.calls kj48 t427 t428 _ _ t429 _ _ t432 a3 t435 t436 t439 _ ?side1 ?side2 ?side3 ?side4 A74.out).mono ?_); (case side1 => exact cq (Kd.R_reads' HO431.out).2.2); (case side2 => exact (Kd.R_reads' HO431.out).2.1); (case side3 => exact cq (Kd.R_reads' HO434.out).2.2); (case side4 => exact (Kd.R_reads' HO434.out).2.1); rintro e w84 ⟨v437, rfl, ho0, hb⟩; refine ⟨_, rfl, ?_⟩; have n0_ := A_ (Kd.V_elder' (vq HO_10) (Kd.R_base ho0) hb); have n1_ := A_ (Kd.R_elder' (rq HO_15) (Kd.R_base ho0) hb); have n2_ := A_ (Kd.R_elder' (rq HO431) (Kd.R_base ho0) hb); have n3_ := A_ (Kd.R_elder' (rq HO434) (Kd.R_base ho0) hb); have n4_ := A_ (Kd.R_lower (Kd.R_new' (Kd.R_new' (Kd.R_new' ho0 (Kd.R_lt (rq HO_15))) (Kd.R_lt (rq HO431))) (Kd.R_lt (rq HO434))) (below_size (hq HB))); have n5_ := A_ (blk_below (bq BK383) hb); have n6_ := A_ (below_step (hq HB) hb); clear HO_10; clear HO_15; clear HO431; clear HO434; clear BK383; clear HB; have HO_10 := n0_; have HO_15 := n1_; have HO431 := n2_; have HO434 := n3_; have HO438 := n4_; have BK383 := n5_; have HB := n6_; clear n0_ n1_ n2_ n3_ n4_ n5_ n6_; (try clear hb); (try clear hb2); (try clear hk); (try clear hi); (try clear ho0)))
             (try simp only [Act.put, List.setIfInBounds_toArray, List.set_cons_zero, List.set_cons_succ])
             go_cut [139] (fun v139 wc => ∃ (kq : Nat) (x139_74 : Bool), v139 = .bool x139_74 ∧ Aside0 (laws_FnExactFirstOrder.j2 kq t425 t424 x139_74 = some r) ∧ Aside0 (kq ≤ kj48) ∧ Aside0 (Kd.R (Kd.int .i64) 3 wc w.heap.size (fun _ => True) (.slice Ao76 t406.length co76) t425) ∧ Aside0 (wc.heap[gb383]? = some (.cells #[.int .i64 a0_0, .bool a0_1] 23 (0, 0))) ∧ Aside0 (Below w.heap.size w wc))
             case first =>
              have H := HC75.out
              clear HC75
              by_cases c85 : t435 = t392
              ·
               rw [if_pos c85] at H
               have c85b0 : (t435 == t392) = true := beq_iff_eq.mpr c85
               have c85b1 : (t435 != t392) = false := bne_eq_false_iff_eq.mpr c85
               clear c85
               (first | rw [c85b0] | (simp only [i64_w, i32_w]; rw [c85b0]) | skip)
               replace H := Option.bind_eq_some_iff.mp H
               obtain ⟨t440, A860, H⟩ := H
               replace H : (if t440 = true then (laws_FnExactFirstOrder.j2 kj48 t425 t424 (t439 != t396)) else (laws_FnExactFirstOrder.j2 kj48 t425 t424 true)) = some r := H
               have A86 := A_ A860
               clear A860
               by_cases c87 : t440 = true
               ·
                subst c87
                have H1 : (laws_FnExactFirstOrder.j2 kj48 t425 t424 (t439 != t396)) = some r := by rw [if_pos rfl] at H; exact H
                clear H
                have H := H1
                clear H1
                have H' := A_ H
                clear H
                obtain ⟨Ao88, co88, eo88⟩ := Kd.R_slice HO438.out
                subst eo88
                obtain ⟨Ao89, co89, eo89⟩ := Kd.V_slice HO_10.out
                subst eo89
                go_wp2_with (first | (go_at_call 11; (with_reducible refine (laws_eqIntS.calls kj48 _ _ t436 _ _ t393 true _ ?side1 ?side2 ?side3 ?side4 A86.out).mono ?_); (case side1 => exact cq (Kd.R_reads' HO438.out).2.2); (case side2 => exact (Kd.R_reads' HO438.out).2.1); (case side3 => exact cq (Kd.V_reads' HO_10.out).2.2); (case side4 => exact (Kd.V_reads' HO_10.out).2.1); rintro e w' ⟨rfl, ⟨nd, rfl⟩⟩))
                go_meet
                case rel => exact ⟨_, ((t439 != t396)), (by first | rfl | (simp; done) | (simp [*]; done)), H', ⟨by have := HJ16.out; have := HJ48.out; first | omega | exact Nat.le_refl _⟩, ⟨by (with_reducible repeat (first | apply Kd.R_alloc | apply Kd.R_drewN | apply Kd.R_drew)); exact Kd.R_mono HO_15.out (fun _ hk => trivial)⟩, ⟨bq BK383⟩, ⟨hq HB⟩⟩
               ·
                replace c87 := Bool.eq_false_iff.mpr c87
                subst c87
                have H1 : (laws_FnExactFirstOrder.j2 kj48 t425 t424 true) = some r := by rw [if_neg (show ¬ (false = true) by decide)] at H; exact H
                clear H
                have H := H1
                clear H1
                have H' := A_ H
                clear H
                obtain ⟨Ao90, co90, eo90⟩ := Kd.R_slice HO438.out
                subst eo90
                obtain ⟨Ao91, co91, eo91⟩ := Kd.V_slice HO_10.out
                subst eo91
                go_wp2_with (first | (go_at_call 11; (with_reducible refine (laws_eqIntS.calls kj48 _ _ t436 _ _ t393 false _ ?side1 ?side2 ?side3 ?side4 A86.out).mono ?_); (case side1 => exact cq (Kd.R_reads' HO438.out).2.2); (case side2 => exact (Kd.R_reads' HO438.out).2.1); (case side3 => exact cq (Kd.V_reads' HO_10.out).2.2); (case side4 => exact (Kd.V_reads' HO_10.out).2.1); rintro e w' ⟨rfl, ⟨nd, rfl⟩⟩))
                go_meet
                case rel => exact ⟨_, (true), (by first | rfl | (simp; done) | (simp [*]; done)), H', ⟨by have := HJ16.out; have := HJ48.out; first | omega | exact Nat.le_refl _⟩, ⟨by (with_reducible repeat (first | apply Kd.R_alloc | apply Kd.R_drewN | apply Kd.R_drew)); exact Kd.R_mono HO_15.out (fun _ hk => trivial)⟩, ⟨bq BK383⟩, ⟨hq HB⟩⟩
              ·
               rw [if_neg c85] at H
               have c85b0 : (t435 == t392) = false := beq_eq_false_iff_ne.mpr c85
               have c85b1 : (t435 != t392) = true := bne_iff_ne.mpr c85
               (first | rw [c85b0] | (simp only [i64_w, i32_w]; rw [c85b0]) | skip)
               have H' := A_ H
               clear H
               go_wp2
               go_meet
               case rel => exact ⟨_, (true), (by first | rfl | (simp; done) | (simp [*]; done)), H', ⟨by have := HJ16.out; have := HJ48.out; first | omega | exact Nat.le_refl _⟩, ⟨by (with_reducible repeat (first | apply Kd.R_alloc | apply Kd.R_drewN | apply Kd.R_drew)); exact Kd.R_mono HO_15.out (fun _ hk => trivial)⟩, ⟨bq BK383⟩, ⟨hq HB⟩⟩
             case rest =>
              clear HC75
              try clear c1
              try clear c2
              try clear p2
              try clear c3
              try clear c4
              try clear c5
              try clear c5b0
              try clear c5b1
              try clear c6
              try clear c7
              try clear c7b0
              try clear c7b1
              try clear c8
              try clear c9
              try clear c11
              try clear c12
              try clear c13
              try clear c14
              try clear c15
              try clear c33
              try clear c33b0
              try clear c33b1
              try clear c35
              try clear c40
              try clear c43
              try clear c46
              try clear c56
              try clear c56b0
              try clear c57
              try clear c57b0
              try clear c57b1
              try clear c59
              try clear c64
              try clear c67
              try clear c67b0
              try clear c70
              try clear c70b0
              try clear c70b1
              try clear c85
              try clear c85b0
              try clear c85b1
              try clear c87
              try clear hcz19_0
              try clear hcz19_1
              try clear hcz28_0
              try clear hcz28_1
              try clear hcz78_0
              try clear hcz78_1
              try clear hfz19_0
              try clear hfz19_1
              try clear hfz28_0
              try clear hfz28_1
              try clear hfz78_0
              try clear hfz78_1
              try clear p2
              obtain ⟨kq, x139_74, rfl, HA, HJ74, HO_15, BK383, HB⟩ := hcut
              have hl15_74 := (Kd.R_reads' HO_15.out).1
              rw [hl15_74] at HO_15
              (try simp only [hl15_74])
              (try simp only [hl15_74] at BK383)
              cases kq with
              | zero => exact absurd HA.out (by simp [laws_FnExactFirstOrder.j2])
              | succ kj74 =>
               have H := HA.out
               clear HA
               simp only [laws_FnExactFirstOrder.j2] at H
               by_cases c92 : x139_74 = true
               ·
                subst c92
                have H1 : (some false) = some r := by rw [if_pos rfl] at H; exact H
                clear H
                have H := H1
                clear H1
                obtain rfl := Option.some.inj H
                exact absurd hr_ (by decide)
               ·
                replace c92 := Bool.eq_false_iff.mpr c92
                subst c92
                have H1 : ((laws_heldIntS.f kj74 t425 1).bind fun t441 => (if t441 < 0 then (some false) else (if t441 = t424 then (some true) else (some false)))) = some r := by rw [if_neg (show ¬ (false = true) by decide)] at H; exact H
                clear H
                have H := H1
                clear H1
                replace H := Option.bind_eq_some_iff.mp H
                obtain ⟨t441, A930, H⟩ := H
                replace H : (if t441 < 0 then (some false) else (if t441 = t424 then (some true) else (some false))) = some r := H
                have A93 := A_ A930
                clear A930
                by_cases c94 : t441 < 0
                ·
                 rw [if_pos c94] at H
                 have c94b0 : decide (t441 < 0) = true := decide_eq_true c94
                 clear c94
                 obtain rfl := Option.some.inj H
                 exact absurd hr_ (by decide)
                ·
                 rw [if_neg c94] at H
                 have c94b0 : decide (t441 < 0) = false := decide_eq_false c94
                 clear c94
                 by_cases c95 : t441 = t424
                 ·
                  rw [if_pos c95] at H
                  have c95b0 : (t441 == t424) = true := beq_iff_eq.mpr c95
                  have c95b1 : (t441 != t424) = false := bne_eq_false_iff_eq.mpr c95
                  clear c95
                  obtain rfl := Option.some.inj H
                  go_wp2_with (first | ((with_reducible refine gate_callee (f := 13) rfl ?_); refine goesL_ (some 142) rfl rfl Try.func13 (by kernel_rfl) rfl #[.slice Ao76 t425.length co76, .int .i64 1] rfl gq ?_; (with_reducible refine (laws_heldIntS.calls kj74 _ _ t425 1 t441 _ ?side1 ?side2 A93.out).mono ?_); (case side1 => exact cq (Kd.R_reads' HO_15.out).2.2); (case side2 => exact (Kd.R_reads' HO_15.out).2.1); rintro e w' ⟨rfl, ⟨nd, rfl⟩⟩; refine ⟨_, rfl, ?_⟩))
                  go_ret
                  exact ⟨rt, hq HB⟩
                 ·
                  rw [if_neg c95] at H
                  have c95b0 : (t441 == t424) = false := beq_eq_false_iff_ne.mpr c95
                  have c95b1 : (t441 != t424) = true := bne_iff_ne.mpr c95
                  obtain rfl := Option.some.inj H
                  exact absurd hr_ (by decide)
            ·
             rw [if_neg c70] at H
             have c70b0 : (t426 == t424) = false := beq_eq_false_iff_ne.mpr c70
             have c70b1 : (t426 != t424) = true := bne_iff_ne.mpr c70
             obtain rfl := Option.some.inj H
             exact absurd hr_ (by decide)
       ·
        replace c46 := Bool.eq_false_iff.mpr c46
        subst c46
        have H1 : (some false) = some r := by rw [if_neg (show ¬ (false = true) by decide)] at H; exact H
        clear H
        have H := H1
        clear H1
        obtain rfl := Option.some.inj H
        exact absurd hr_ (by decide)
      ·
       replace c43 := Bool.eq_false_iff.mpr c43
       subst c43
       have H1 : (some false) = some r := by rw [if_neg (show ¬ (false = true) by decide)] at H; exact H
       clear H
       have H := H1
       clear H1
       obtain rfl := Option.some.inj H
       exact absurd hr_ (by decide)
end Go.Proofs.Ythnaghigpgfchaa.PFnExactFirstOrder
