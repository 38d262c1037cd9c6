-- Told shorter still by shrink2.py.
-- Printed, and told shorter by this session's program shrink.py.
-- Printed by this session's program myprint.py.
import Derived.Test.YthgbkekfekcfaaaPFnExactFirstArrivalx0
import Derived.Test.YthgbkekfekcfaaaPFnExactFirstArrivalx4
namespace Go.Proofs.Ythgbkekfekcfaaa.PFnExactFirstArrival
open Go.RowKit Go.Proofs.Ythgbkekfekcfaaa.Own Go.Proofs.YthgbkekfekcfaaaW.PrintWords Go.Proofs.YthgbkekfekcfaaaW.PrintLast Go.Proofs.YthgbkekfekcfaaaW.PrintMore
attribute [local go_sem] max2_int min2_int max_two min_two max_three min_three max_four min_four   -- for this text's walks alone
set_option linter.unusedVariables false
set_option linter.unusedSimpArgs false

/-! ### slices_IsSorted_int_int: function 70 -/
def slices_IsSorted_int_int.l0 : Nat → List Int → Int → Option (Bool)
  | 0, _, _ => none
  | k + 1, x0, x3 => if x3 > 0 then (if 0 ≤ x3 then (if x3 < (x0.length : Int) then (if 0 ≤ (wrap64 (x3 - 1)) then (if (wrap64 (x3 - 1)) < (x0.length : Int) then ((cmp_Less_int.f (rd x0 x3) (rd x0 (wrap64 (x3 - 1)))).bind fun t239 => (if t239 = true then (some false) else (slices_IsSorted_int_int.l0 k x0 (wrap64 (x3 - 1))))) else (none)) else (none)) else (none)) else (none)) else (some true)
def slices_IsSorted_int_int.f (k : Nat) (l0 : List Int) : Option (Bool) := slices_IsSorted_int_int.l0 k l0 (wrap64 ((l0.length : Int) - 1))
theorem slices_IsSorted_int_int.mono_l : ∀ k, (∀ y0 y1, LeO (slices_IsSorted_int_int.l0 k y0 y1) (slices_IsSorted_int_int.l0 (k + 1) y0 y1))
  | 0 => fun _ _ r h => by simp [slices_IsSorted_int_int.l0] at h
  | k + 1 => by
    have ih0 := slices_IsSorted_int_int.mono_l k
    · intro y0 y1
      unfold slices_IsSorted_int_int.l0
      repeat' first
      | (with_reducible exact ih0 _ _)
      | (with_reducible exact LeO.refl _)
      | (with_reducible exact LeO.none _)
      | (with_reducible refine LeO.ite ?_ ?_)
      | (with_reducible refine LeO.bind ?_ (fun _ => ?_))
      | exact ih0 _ _
      | exact LeO.none _
      | refine LeO.ite ?_ ?_
      | refine LeO.bind ?_ (fun _ => ?_)
theorem slices_IsSorted_int_int.mono : ∀ a0 k, LeO (slices_IsSorted_int_int.f k a0) (slices_IsSorted_int_int.f (k + 1) a0) := by
  intro a0 k
  have ih0 := slices_IsSorted_int_int.mono_l k
  unfold slices_IsSorted_int_int.f
  repeat' first
      | (with_reducible exact ih0 _ _)
      | (with_reducible exact LeO.refl _)
      | (with_reducible exact LeO.none _)
      | (with_reducible refine LeO.ite ?_ ?_)
      | (with_reducible refine LeO.bind ?_ (fun _ => ?_))
      | exact ih0 _ _
      | exact LeO.none _
      | refine LeO.ite ?_ ?_
      | refine LeO.bind ?_ (fun _ => ?_)
set_option maxHeartbeats 8000000 in
set_option maxRecDepth 100000 in
theorem slices_IsSorted_int_int.calls (k : Nat) (A0 : Option Addr) (c0 : Nat) (l0 : List Int) (r : Bool) (w : World) (hr0 : Kd.C (Kd.int .i64) w A0 l0.length l0) (hc0 : l0.length ≤ c0) (h : slices_IsSorted_int_int.f k l0 = some r) :
    Calls Try.prog 70 #[.slice A0 l0.length c0] w fun e w' => e = .returned (.bool r) ∧ Drawn0 w w' := by
 have HR0 := A_ hr0; have HC0 := A_ hc0; clear hr0 hc0; have H : (slices_IsSorted_int_int.l0 k l0 (wrap64 ((l0.length : Int) - 1))) = some r := h; clear h; have H' := A_ H; clear H; go_enter Try.func70, Try.ntmps70
 go_wp2
 repeat (go_quiet (fail); try go_wp2)
 go_loopg [3] k (fun kq v3 w' => ∃ (x3_1 : Int), v3 = .int .i64 x3_1 ∧ Aside0 (slices_IsSorted_int_int.l0 kq l0 x3_1 = some r) ∧ Aside0 (kq ≤ k) ∧ Drawn0 w w')
 case atStart => exact ⟨(wrap64 ((l0.length : Int) - 1)), rf, H', ⟨Nat.le_refl _⟩, by repeat (first | exact Drawn0.refl _ | apply Drawn0.step)⟩
 case round =>
  clear H'; obtain ⟨x3_1, rfl, HA, HK1, ⟨m1, rfl⟩⟩ := hrel
  cases gk with
  | zero => exact absurd HA.out (by simp [slices_IsSorted_int_int.l0])
  | succ k1 =>
   have H := HA.out; clear HA; simp only [slices_IsSorted_int_int.l0] at H
   by_cases c2 : x3_1 > 0
   ·
    rw [if_pos c2] at H; have c2b0 : decide (0 < x3_1) = true := decide_eq_true c2; clear c2; by_cases c3 : 0 ≤ x3_1
    ·
     rw [if_pos c3] at H; have c3b0 := decide_eq_true c3; clear c3; by_cases c4 : x3_1 < (l0.length : Int)
     ·
      rw [if_pos c4] at H; have c4b0 := decide_eq_true c4; clear c4
      obtain ⟨ji5, hji5⟩ : ∃ j_ : Int, (wrap64 (x3_1 - 1)) = j_ := ⟨_, rfl⟩
      replace H : (if 0 ≤ (ji5) then (if (ji5) < (l0.length : Int) then ((cmp_Less_int.f (rd l0 x3_1) (rd l0 (ji5))).bind fun t239 => (if t239 = true then (some false) else (slices_IsSorted_int_int.l0 k1 l0 ji5))) else (none)) else (none)) = some r := by first | (rw [hji5] at H; exact H) | (simp only [hji5] at H ⊢; exact H)
      have hji5w : (IntKind.i64.wrap (x3_1 - 1)) = ji5 := (i64_w _).trans hji5; by_cases c6 : 0 ≤ (ji5)
      ·
       rw [if_pos c6] at H; have c6b0 := decide_eq_true c6; clear c6; by_cases c7 : (ji5) < (l0.length : Int)
       ·
        rw [if_pos c7] at H; have c7b0 := decide_eq_true c7; clear c7; replace H := bm H; obtain ⟨t239, A8, H⟩ := H; by_cases c9 : t239 = true
        ·
         subst c9
         have H1 : (some false) = some r := by rw [if_pos rfl] at H; exact H
         clear H; have H := H1; clear H1; obtain rfl := Option.some.inj H; have p237 : 0 ≤ (x3_1 : Int) := dq; have q237 : x3_1 < (l0.length : Int) := dq; obtain ⟨ad237, e237, hx237_0⟩ := Kd.at_int HR0.out x3_1 p237 q237
         cases e237
         replace p237 := eq_true p237; replace q237 := eq_true q237; have p238 : 0 ≤ ((ji5) : Int) := dq; have q238 : (ji5) < (l0.length : Int) := dq; obtain ⟨ad238, e238, hx238_0⟩ := Kd.at_int HR0.out (ji5) p238 q238
         obtain rfl : ad237 = ad238 := (by injection e238)
         replace p238 := eq_true p238; replace q238 := eq_true q238; go_wp2_with (first | (go_at_call 80; (with_reducible refine (cmp_Less_int.calls (rd l0 x3_1) (rd l0 (ji5)) true _ A8.out).mono ?_); rintro e w' ⟨rfl, ⟨nd, rfl⟩⟩; (try first | exact ⟨rfl, _, World.drewN_drewN _ _ _⟩ | exact ⟨rfl, _, Eq.trans (World.drewN_drewN _ _ _) (congrArg (World.drewN _) (Nat.add_assoc _ _ _))⟩)))
         repeat (go_quiet (first | (go_at_call 80; (with_reducible refine (cmp_Less_int.calls (rd l0 x3_1) (rd l0 (ji5)) true _ A8.out).mono ?_); rintro e w' ⟨rfl, ⟨nd, rfl⟩⟩; (try first | exact ⟨rfl, _, World.drewN_drewN _ _ _⟩ | exact ⟨rfl, _, Eq.trans (World.drewN_drewN _ _ _) (congrArg (World.drewN _) (Nat.add_assoc _ _ _))⟩))); try go_wp2_with (first | (go_at_call 80; (with_reducible refine (cmp_Less_int.calls (rd l0 x3_1) (rd l0 (ji5)) true _ A8.out).mono ?_); rintro e w' ⟨rfl, ⟨nd, rfl⟩⟩; (try first | exact ⟨rfl, _, World.drewN_drewN _ _ _⟩ | exact ⟨rfl, _, Eq.trans (World.drewN_drewN _ _ _) (congrArg (World.drewN _) (Nat.add_assoc _ _ _))⟩))))
         go_ret
         exact ⟨by first | rfl | (simp; done) | (simp only [← hji5] <;> (first | rfl | simp)) | (simp [*]; done), by repeat (first | exact Drawn0.refl _ | apply Drawn0.step)⟩
        ·
         replace c9 := Bool.eq_false_iff.mpr c9; subst c9
         have H1 : (slices_IsSorted_int_int.l0 k1 l0 ji5) = some r := by rw [if_neg (show ¬ (false = true) by decide)] at H; exact H
         clear H; have H := H1; clear H1; have H' := A_ H; clear H; have p237 : 0 ≤ (x3_1 : Int) := dq; have q237 : x3_1 < (l0.length : Int) := dq; obtain ⟨ad237, e237, hx237_0⟩ := Kd.at_int HR0.out x3_1 p237 q237
         cases e237
         replace p237 := eq_true p237; replace q237 := eq_true q237; have p238 : 0 ≤ ((ji5) : Int) := dq; have q238 : (ji5) < (l0.length : Int) := dq; obtain ⟨ad238, e238, hx238_0⟩ := Kd.at_int HR0.out (ji5) p238 q238
         obtain rfl : ad237 = ad238 := (by injection e238)
         replace p238 := eq_true p238; replace q238 := eq_true q238; go_wp2_with (first | (go_at_call 80; (with_reducible refine (cmp_Less_int.calls (rd l0 x3_1) (rd l0 (ji5)) false _ A8.out).mono ?_); rintro e w' ⟨rfl, ⟨nd, rfl⟩⟩; (try first | exact ⟨rfl, _, World.drewN_drewN _ _ _⟩ | exact ⟨rfl, _, Eq.trans (World.drewN_drewN _ _ _) (congrArg (World.drewN _) (Nat.add_assoc _ _ _))⟩)))
         repeat (go_quiet (first | (go_at_call 80; (with_reducible refine (cmp_Less_int.calls (rd l0 x3_1) (rd l0 (ji5)) false _ A8.out).mono ?_); rintro e w' ⟨rfl, ⟨nd, rfl⟩⟩; (try first | exact ⟨rfl, _, World.drewN_drewN _ _ _⟩ | exact ⟨rfl, _, Eq.trans (World.drewN_drewN _ _ _) (congrArg (World.drewN _) (Nat.add_assoc _ _ _))⟩))); try go_wp2_with (first | (go_at_call 80; (with_reducible refine (cmp_Less_int.calls (rd l0 x3_1) (rd l0 (ji5)) false _ A8.out).mono ?_); rintro e w' ⟨rfl, ⟨nd, rfl⟩⟩; (try first | exact ⟨rfl, _, World.drewN_drewN _ _ _⟩ | exact ⟨rfl, _, Eq.trans (World.drewN_drewN _ _ _) (congrArg (World.drewN _) (Nat.add_assoc _ _ _))⟩))))
         go_roundg k1
         case measure => have := HK1.out; omega
         case rel => exact ⟨(ji5), (by first | rfl | (simp; done) | (simp only [← hji5] <;> (first | rfl | simp)) | (simp [*]; done)), H', ⟨by have := HK1.out; omega⟩, by repeat (first | exact Drawn0.refl _ | apply Drawn0.step)⟩
       ·
        rw [if_neg c7] at H; exact absurd H (by simp)
      ·
       rw [if_neg c6] at H; exact absurd H (by simp)
     ·
      rw [if_neg c4] at H; exact absurd H (by simp)
    ·
     rw [if_neg c3] at H; exact absurd H (by simp)
   ·
    rw [if_neg c2] at H; have c2b0 : decide (0 < x3_1) = false := decide_eq_false c2; clear c2; obtain rfl := Option.some.inj H; go_wp2
    repeat (go_quiet (fail); try go_wp2)
    go_ret
    exact ⟨rf, by repeat (first | exact Drawn0.refl _ | apply Drawn0.step)⟩

/-! ### impl_isCarried: function 46 -/
def impl_isCarried.f (k : Nat) (a0_0 : Int) (a0_1 : Bool) (l1 : List (S61)) (l2 : List Int) : Option (Bool) := (impl_isLine.f a0_0 a0_1).bind fun t241 => (if t241 = true then ((impl_Road_areCarriers.f k a0_0 a0_1 l1).bind fun t242 => (if t242 = true then ((impl_Road_has.f k a0_0 a0_1 l2).bind fun t243 => (if t243 = true then ((slices_IsSorted_int_int.f k l2).bind fun t244 => (some t244)) else (some false))) else (some false))) else (some false))
theorem impl_isCarried.mono : ∀ a0 a1 a2 a3 k, LeO (impl_isCarried.f k a0 a1 a2 a3) (impl_isCarried.f (k + 1) a0 a1 a2 a3) := by
  intro a0 a1 a2 a3 k
  unfold impl_isCarried.f
  repeat' first
      | (with_reducible exact impl_Road_areCarriers.mono _ _ _ _)
      | (with_reducible exact impl_Road_has.mono _ _ _ _)
      | (with_reducible exact slices_IsSorted_int_int.mono _ _)
      | (with_reducible exact LeO.refl _)
      | (with_reducible exact LeO.none _)
      | (with_reducible refine LeO.ite ?_ ?_)
      | (with_reducible refine LeO.bind ?_ (fun _ => ?_))
      | exact impl_Road_areCarriers.mono _ _ _ _
      | exact impl_Road_has.mono _ _ _ _
      | exact slices_IsSorted_int_int.mono _ _
      | exact LeO.none _
      | refine LeO.ite ?_ ?_
      | refine LeO.bind ?_ (fun _ => ?_)
set_option maxHeartbeats 8000000 in
set_option maxRecDepth 100000 in
theorem impl_isCarried.calls (k : Nat) (a0_0 : Int) (a0_1 : Bool) (A1 : Option Addr) (c1 : Nat) (l1 : List (S61)) (A2 : Option Addr) (c2 : Nat) (l2 : List Int) (r : Bool) (w : World) (hr1 : Kd.C k61 w A1 l1.length l1) (hc1 : l1.length ≤ c1) (hr2 : Kd.C (Kd.int .i64) w A2 l2.length l2) (hc2 : l2.length ≤ c2) (h : impl_isCarried.f k a0_0 a0_1 l1 l2 = some r) :
    Calls Try.prog 46 #[.agg #[.int .i64 a0_0, .bool a0_1], .slice A1 l1.length c1, .slice A2 l2.length c2] w fun e w' => e = .returned (.bool r) ∧ Below w.heap.size w w' := by
 have hu27 := Try.underlying27; have HR1 := A_ hr1; have HC1 := A_ hc1; clear hr1 hc1; have HR2 := A_ hr2; have HC2 := A_ hc2; clear hr2 hc2; have HB := A_ (Below.refl w.heap.size w); have H : ((impl_isLine.f a0_0 a0_1).bind fun t241 => (if t241 = true then ((impl_Road_areCarriers.f k a0_0 a0_1 l1).bind fun t242 => (if t242 = true then ((impl_Road_has.f k a0_0 a0_1 l2).bind fun t243 => (if t243 = true then ((slices_IsSorted_int_int.f k l2).bind fun t244 => (some t244)) else (some false))) else (some false))) else (some false))) = some r := h; clear h; replace H := bm H; obtain ⟨t241, A4, H⟩ := H; by_cases c5 : t241 = true
 ·
  subst c5
  have H1 : ((impl_Road_areCarriers.f k a0_0 a0_1 l1).bind fun t242 => (if t242 = true then ((impl_Road_has.f k a0_0 a0_1 l2).bind fun t243 => (if t243 = true then ((slices_IsSorted_int_int.f k l2).bind fun t244 => (some t244)) else (some false))) else (some false))) = some r := by rw [if_pos rfl] at H; exact H
  clear H; have H := H1; clear H1; replace H := bm H; obtain ⟨t242, A6, H⟩ := H; by_cases c7 : t242 = true
  ·
   subst c7
   have H1 : ((impl_Road_has.f k a0_0 a0_1 l2).bind fun t243 => (if t243 = true then ((slices_IsSorted_int_int.f k l2).bind fun t244 => (some t244)) else (some false))) = some r := by rw [if_pos rfl] at H; exact H
   clear H; have H := H1; clear H1; replace H := bm H; obtain ⟨t243, A8, H⟩ := H; by_cases c9 : t243 = true
   ·
    subst c9
    have H1 : ((slices_IsSorted_int_int.f k l2).bind fun t244 => (some t244)) = some r := by rw [if_pos rfl] at H; exact H
    clear H; have H := H1; clear H1; replace H := bm H; obtain ⟨t244, A10, H⟩ := H; obtain rfl := Option.some.inj H; go_enter Try.func46, Try.ntmps46
    go_wp2_with (first | ((with_reducible refine gate_dst (N := 3) rfl ?_); refine bx (N := 3) #[.int .i64 a0_0, .bool a0_1] 27 ?_; intro gb240 hg w11 hbox hb; have BK240 := A_ (hbox); have GW240 := A_ (bs hg (hq HB) : w.heap.size ≤ gb240); have GE240 := A_ (bs hg (hq HB) : w.heap.size ≤ gb240); replace HB := A_ (below_step (hq HB) hb); clear hb hbox hg; have hcz12_0 : w11.cell? ⟨gb240, 0, none⟩ = some (.int .i64 a0_0) := bc BK240 0; have hcz12_1 : w11.cell? ⟨gb240, 1, none⟩ = some (.bool a0_1) := bc BK240 1; have hfz12_0 := blk_frozen BK240.out 0; have hfz12_1 := blk_frozen BK240.out 1) | ((with_reducible refine gate_callee (f := 67) rfl ?_); refine gL (some 8) Try.func67 #[.agg #[.int .i64 a0_0, .bool a0_1]] ?_; (with_reducible refine (impl_isLine.calls a0_0 a0_1 true _ A4.out).mono ?_); rintro e w13 ⟨rfl, hb⟩; refine ⟨_, rfl, ?_⟩; replace BK240 := A_ (blk_below (bq BK240) hb); replace HB := A_ (below_step (hq HB) hb); clear hb; have hcz14_0 : w13.cell? ⟨gb240, 0, none⟩ = some (.int .i64 a0_0) := bc BK240 0; have hcz14_1 : w13.cell? ⟨gb240, 1, none⟩ = some (.bool a0_1) := bc BK240 1; have hfz14_0 := blk_frozen BK240.out 0; have hfz14_1 := blk_frozen BK240.out 1) | (go_at_call 68; (with_reducible refine (impl_Road_areCarriers.calls k a0_0 a0_1 _ _ l1 true _ ?side1 ?side2 A6.out).mono ?_); (case side1 => exact cq (Kd.C_below HR1.out HB.out)); (case side2 => exact HC1.out); rintro e w15 ⟨rfl, hb⟩; replace BK240 := A_ (blk_below (bq BK240) hb); replace HB := A_ (below_step (hq HB) hb); clear hb; have hcz16_0 : w15.cell? ⟨gb240, 0, none⟩ = some (.int .i64 a0_0) := bc BK240 0; have hcz16_1 : w15.cell? ⟨gb240, 1, none⟩ = some (.bool a0_1) := bc BK240 1; have hfz16_0 := blk_frozen BK240.out 0; have hfz16_1 := blk_frozen BK240.out 1) | (go_at_call 69; (with_reducible refine (impl_Road_has.calls k a0_0 a0_1 _ _ l2 true _ ?side1 ?side2 A8.out).mono ?_); (case side1 => exact cq (Kd.C_below HR2.out HB.out)); (case side2 => exact HC2.out); rintro e w17 ⟨rfl, hb⟩; replace BK240 := A_ (blk_below (bq BK240) hb); replace HB := A_ (below_step (hq HB) hb); clear hb) | (go_at_call 70; (with_reducible refine (slices_IsSorted_int_int.calls k _ _ l2 t244 _ ?side1 ?side2 A10.out).mono ?_); (case side1 => exact cq (Kd.C_below HR2.out HB.out)); (case side2 => exact HC2.out); rintro e w' ⟨rfl, ⟨nd, rfl⟩⟩))
    go_ret
    exact ⟨rt, hq HB⟩
   ·
    replace c9 := Bool.eq_false_iff.mpr c9; subst c9
    have H1 : (some false) = some r := by rw [if_neg (show ¬ (false = true) by decide)] at H; exact H
    clear H; have H := H1; clear H1; obtain rfl := Option.some.inj H; go_enter Try.func46, Try.ntmps46
    go_wp2_with (first | ((with_reducible refine gate_dst (N := 3) rfl ?_); refine bx (N := 3) #[.int .i64 a0_0, .bool a0_1] 27 ?_; intro gb240 hg w18 hbox hb; have BK240 := A_ (hbox); have GW240 := A_ (bs hg (hq HB) : w.heap.size ≤ gb240); have GE240 := A_ (bs hg (hq HB) : w.heap.size ≤ gb240); replace HB := A_ (below_step (hq HB) hb); clear hb hbox hg; have hcz19_0 : w18.cell? ⟨gb240, 0, none⟩ = some (.int .i64 a0_0) := bc BK240 0; have hcz19_1 : w18.cell? ⟨gb240, 1, none⟩ = some (.bool a0_1) := bc BK240 1; have hfz19_0 := blk_frozen BK240.out 0; have hfz19_1 := blk_frozen BK240.out 1) | ((with_reducible refine gate_callee (f := 67) rfl ?_); refine gL (some 8) Try.func67 #[.agg #[.int .i64 a0_0, .bool a0_1]] ?_; (with_reducible refine (impl_isLine.calls a0_0 a0_1 true _ A4.out).mono ?_); rintro e w20 ⟨rfl, hb⟩; refine ⟨_, rfl, ?_⟩; replace BK240 := A_ (blk_below (bq BK240) hb); replace HB := A_ (below_step (hq HB) hb); clear hb; have hcz21_0 : w20.cell? ⟨gb240, 0, none⟩ = some (.int .i64 a0_0) := bc BK240 0; have hcz21_1 : w20.cell? ⟨gb240, 1, none⟩ = some (.bool a0_1) := bc BK240 1; have hfz21_0 := blk_frozen BK240.out 0; have hfz21_1 := blk_frozen BK240.out 1) | (go_at_call 68; (with_reducible refine (impl_Road_areCarriers.calls k a0_0 a0_1 _ _ l1 true _ ?side1 ?side2 A6.out).mono ?_); (case side1 => exact cq (Kd.C_below HR1.out HB.out)); (case side2 => exact HC1.out); rintro e w22 ⟨rfl, hb⟩; replace BK240 := A_ (blk_below (bq BK240) hb); replace HB := A_ (below_step (hq HB) hb); clear hb; have hcz23_0 : w22.cell? ⟨gb240, 0, none⟩ = some (.int .i64 a0_0) := bc BK240 0; have hcz23_1 : w22.cell? ⟨gb240, 1, none⟩ = some (.bool a0_1) := bc BK240 1; have hfz23_0 := blk_frozen BK240.out 0; have hfz23_1 := blk_frozen BK240.out 1) | (go_at_call 69; (with_reducible refine (impl_Road_has.calls k a0_0 a0_1 _ _ l2 false _ ?side1 ?side2 A8.out).mono ?_); (case side1 => exact cq (Kd.C_below HR2.out HB.out)); (case side2 => exact HC2.out); rintro e w24 ⟨rfl, hb⟩; replace BK240 := A_ (blk_below (bq BK240) hb); replace HB := A_ (below_step (hq HB) hb); clear hb))
    go_ret
    exact ⟨rt, hq HB⟩
  ·
   replace c7 := Bool.eq_false_iff.mpr c7; subst c7
   have H1 : (some false) = some r := by rw [if_neg (show ¬ (false = true) by decide)] at H; exact H
   clear H; have H := H1; clear H1; obtain rfl := Option.some.inj H; go_enter Try.func46, Try.ntmps46
   go_wp2_with (first | ((with_reducible refine gate_dst (N := 3) rfl ?_); refine bx (N := 3) #[.int .i64 a0_0, .bool a0_1] 27 ?_; intro gb240 hg w25 hbox hb; have BK240 := A_ (hbox); have GW240 := A_ (bs hg (hq HB) : w.heap.size ≤ gb240); have GE240 := A_ (bs hg (hq HB) : w.heap.size ≤ gb240); replace HB := A_ (below_step (hq HB) hb); clear hb hbox hg; have hcz26_0 : w25.cell? ⟨gb240, 0, none⟩ = some (.int .i64 a0_0) := bc BK240 0; have hcz26_1 : w25.cell? ⟨gb240, 1, none⟩ = some (.bool a0_1) := bc BK240 1; have hfz26_0 := blk_frozen BK240.out 0; have hfz26_1 := blk_frozen BK240.out 1) | ((with_reducible refine gate_callee (f := 67) rfl ?_); refine gL (some 8) Try.func67 #[.agg #[.int .i64 a0_0, .bool a0_1]] ?_; (with_reducible refine (impl_isLine.calls a0_0 a0_1 true _ A4.out).mono ?_); rintro e w27 ⟨rfl, hb⟩; refine ⟨_, rfl, ?_⟩; replace BK240 := A_ (blk_below (bq BK240) hb); replace HB := A_ (below_step (hq HB) hb); clear hb; have hcz28_0 : w27.cell? ⟨gb240, 0, none⟩ = some (.int .i64 a0_0) := bc BK240 0; have hcz28_1 : w27.cell? ⟨gb240, 1, none⟩ = some (.bool a0_1) := bc BK240 1; have hfz28_0 := blk_frozen BK240.out 0; have hfz28_1 := blk_frozen BK240.out 1) | (go_at_call 68; (with_reducible refine (impl_Road_areCarriers.calls k a0_0 a0_1 _ _ l1 false _ ?side1 ?side2 A6.out).mono ?_); (case side1 => exact cq (Kd.C_below HR1.out HB.out)); (case side2 => exact HC1.out); rintro e w29 ⟨rfl, hb⟩; replace BK240 := A_ (blk_below (bq BK240) hb); replace HB := A_ (below_step (hq HB) hb); clear hb))
   go_ret
   exact ⟨rt, hq HB⟩
 ·
  replace c5 := Bool.eq_false_iff.mpr c5; subst c5
  have H1 : (some false) = some r := by rw [if_neg (show ¬ (false = true) by decide)] at H; exact H
  clear H; have H := H1; clear H1; obtain rfl := Option.some.inj H; go_enter Try.func46, Try.ntmps46
  go_wp2_with (first | ((with_reducible refine gate_dst (N := 3) rfl ?_); refine bx (N := 3) #[.int .i64 a0_0, .bool a0_1] 27 ?_; intro gb240 hg w30 hbox hb; have BK240 := A_ (hbox); have GW240 := A_ (bs hg (hq HB) : w.heap.size ≤ gb240); have GE240 := A_ (bs hg (hq HB) : w.heap.size ≤ gb240); replace HB := A_ (below_step (hq HB) hb); clear hb hbox hg; have hcz31_0 : w30.cell? ⟨gb240, 0, none⟩ = some (.int .i64 a0_0) := bc BK240 0; have hcz31_1 : w30.cell? ⟨gb240, 1, none⟩ = some (.bool a0_1) := bc BK240 1; have hfz31_0 := blk_frozen BK240.out 0; have hfz31_1 := blk_frozen BK240.out 1) | ((with_reducible refine gate_callee (f := 67) rfl ?_); refine gL (some 8) Try.func67 #[.agg #[.int .i64 a0_0, .bool a0_1]] ?_; (with_reducible refine (impl_isLine.calls a0_0 a0_1 false _ A4.out).mono ?_); rintro e w32 ⟨rfl, hb⟩; refine ⟨_, rfl, ?_⟩; replace BK240 := A_ (blk_below (bq BK240) hb); replace HB := A_ (below_step (hq HB) hb); clear hb))
  go_ret
  exact ⟨rt, hq HB⟩

/-! ### impl_found: function 64 -/
def impl_found.f (a0 : Int) : Option (Int × Bool) := some (mx 0 a0, decide (a0 ≥ 0))
set_option maxHeartbeats 8000000 in
set_option maxRecDepth 100000 in
theorem impl_found.calls (a0 : Int) (r1 : Int) (r2 : Bool) (w : World) (h : impl_found.f a0 = some (r1, r2)) :
    Calls Try.prog 64 #[.int .i64 a0] w fun e w' => e = .returned (.tuple #[.int .i64 r1, .bool r2]) ∧ Below w.heap.size w w' := by
 have HB := A_ (Below.refl w.heap.size w); have H : (some (mx 0 a0, decide (a0 ≥ 0))) = some (r1, r2) := h; clear h
 obtain ⟨ji2, hji2⟩ : ∃ j_ : Int, (mx 0 a0) = j_ := ⟨_, rfl⟩
 replace H : (some (ji2, decide (a0 ≥ 0))) = some (r1, r2) := by first | (rw [hji2] at H; exact H) | (simp only [hji2] at H ⊢; exact H)
 (try (have hji2l : 0 ≤ ji2 := by (rw [← hji2]; unfold mx; (repeat' split) <;> omega))); (try (have hji2m : 0 ≤ ji2 := by omega)); have hji2_ : (if 0 < a0 then a0 else 0) = ji2 := hji2; simp only [Option.some.injEq, Prod.mk.injEq] at H
 obtain ⟨rfl, rfl⟩ := H; go_enter Try.func64, Try.ntmps64
 go_wp2
 go_ret2
 exact ⟨by first | rfl | (simp [errW_none, errW_some] <;> rfl) | (simp only [← hji2]; first | rfl | (simp [errW_none, errW_some] <;> rfl)) | (simp [*, errW_none, errW_some] <;> rfl), hq HB⟩

/-! ### impl_mnew: told in the map's own text -/
theorem impl_mnew.calls : True := trivial

/-! ### impl_mget: told in the map's own text -/
theorem impl_mget.calls : True := trivial

/-! ### impl_mput: told in the map's own text -/
theorem impl_mput.calls : True := trivial

-- NOT PRINTED: function 39 (impl_least)

/-! ### impl_Road_arrives: function 43 -/
def impl_Road_arrives.f (a0_0 : Int) (a0_1 : Bool) (a1_0 : Int) (a1_1 : Int) (a1_2 : Int) (a2 : Int) (a3 : Int) (a4 : Int) : Option (Int) := (impl_Road_gap.f a0_0 a0_1 a1_0 a3).bind fun t247 => ((impl_Road_gap.f a0_0 a0_1 a3 a4).bind fun t248 => (some (wrap64 ((mx a2 t247) + t248))))
def impl_Road_arrives.T1 : Bool × List (List Nat × List Nat) := (true, [([], []), ([], []), ([], []), ([2], [2]), ([], []), ([1, 3, 4], [1, 3, 4]), ([0, 5], [0, 5]), ([], []), ([], []), ([], []), ([7, 8, 9, 5], [7, 8, 9]), ([6, 10], [6, 10]), ([11, 10, 0, 1, 2, 3, 4, 5, 6, 7, 8, 9, 10, 11], [11])])
def impl_Road_arrives.B1 : List Nat := [0, 0, 0, 4, 0, 30, 63, 0, 0, 0, 958, 2047, 4095]
theorem impl_Road_arrives.tab1 : rtab .any (opsOf Try.f43 1) = impl_Road_arrives.T1 := by kernel_rfl
theorem impl_Road_arrives.bits1 : waitsOk impl_Road_arrives.T1.2 impl_Road_arrives.B1 = true := by kernel_rfl
set_option maxHeartbeats 8000000 in
set_option maxRecDepth 100000 in
theorem impl_Road_arrives.calls (a0_0 : Int) (a0_1 : Bool) (a1_0 : Int) (a1_1 : Int) (a1_2 : Int) (a2 : Int) (a3 : Int) (a4 : Int) (r : Int) (w : World) (h : impl_Road_arrives.f a0_0 a0_1 a1_0 a1_1 a1_2 a2 a3 a4 = some r) :
    Calls Try.prog 43 #[.agg #[.int .i64 a0_0, .bool a0_1], .agg #[.int .i64 a1_0, .int .i64 a1_1, .int .i64 a1_2], .int .i64 a2, .int .i64 a3, .int .i64 a4] w fun e w' => e = .returned (.int .i64 r) ∧ Below w.heap.size w w' := by
 have hu27 := Try.underlying27; have hu61 := Try.underlying61; have HB := A_ (Below.refl w.heap.size w); have H : ((impl_Road_gap.f a0_0 a0_1 a1_0 a3).bind fun t247 => ((impl_Road_gap.f a0_0 a0_1 a3 a4).bind fun t248 => (some (wrap64 ((mx a2 t247) + t248))))) = some r := h; clear h; replace H := bm H; obtain ⟨t247, A6, H⟩ := H
 obtain ⟨ji7, hji7⟩ : ∃ j_ : Int, (mx a2 t247) = j_ := ⟨_, rfl⟩
 replace H : ((impl_Road_gap.f a0_0 a0_1 a3 a4).bind fun t248 => (some (wrap64 ((ji7) + t248)))) = some r := by first | (rw [hji7] at H; exact H) | (simp only [hji7] at H ⊢; exact H)
 (try rw [hji7] at A6); have hji7_ : (if a2 < t247 then t247 else a2) = ji7 := hji7; replace H := bm H; obtain ⟨t248, A8, H⟩ := H; obtain rfl := Option.some.inj H; go_enter Try.func43, Try.ntmps43
 try go_wp2_with (first | ((with_reducible refine gate_dst (N := 5) rfl ?_); refine bx (N := 5) #[.int .i64 a0_0, .bool a0_1] 27 ?_; intro gb245 hg w9 hbox hb; have BK245 := A_ (hbox); have GW245 := A_ (bs hg (hq HB) : w.heap.size ≤ gb245); have GE245 := A_ (bs hg (hq HB) : w.heap.size ≤ gb245); replace HB := A_ (below_step (hq HB) hb); clear hb hbox hg) | ((with_reducible refine gate_dst (N := 6) rfl ?_); refine bx (N := 6) #[.int .i64 a1_0, .int .i64 a1_1, .int .i64 a1_2] 61 ?_; intro gb246 hg w10 hbox hb; have BK246 := A_ (hbox); have GW246 := A_ (bs hg (hq HB) : w.heap.size ≤ gb246); have GE246 := A_ (bs hg (hq HB) : w.heap.size ≤ gb246); replace HB := A_ (below_step (hq HB) hb); have NB245_246 := A_ ((by rw [hg]; exact Nat.ne_of_lt (blk_lt (bq BK245)) : gb245 ≠ gb246)); have NB246_245 := A_ ((by rw [hg]; exact Nat.ne_of_gt (blk_lt (bq BK245)) : gb246 ≠ gb245)); replace BK245 := A_ (blk_below (bq BK245) hb); clear hb hbox hg))
 replace BK245 := A_ (blk_drew BK245.out); replace BK246 := A_ (blk_drew BK246.out); replace HB := A_ (below_drew1 HB.out); refine start_ (n := 13) (S := fun w' => w'.cell? ⟨gb245, 0, none⟩ = some (.int .i64 a0_0) ∧ w'.cell? ⟨gb245, 1, none⟩ = some (.bool a0_1) ∧ w'.cell? ⟨gb246, 0, none⟩ = some (.int .i64 a1_0) ∧ w'.cell? ⟨gb246, 1, none⟩ = some (.int .i64 a1_1) ∧ w'.cell? ⟨gb246, 2, none⟩ = some (.int .i64 a1_2)) (ds := []) #[false, false, false, false, false, false, false, false, false, false, false, false, false] (by kernel_rfl) rfl rfl ⟨bc BK245 0, bc BK245 1, bc BK246 0, bc BK246 1, bc BK246 2⟩ (fun hHeld => ?_); refine with_tabW impl_Road_arrives.tab1 impl_Road_arrives.bits1 (fun HT_ HW_ => ?_); generalize w10.drew = w11 at BK245 BK246 HB hHeld ⊢; refine puT (i := 0) (N := some 11) HT_ #[true, false, false, false, false, false, false, false, false, false, false, false, false] ?_; refine puT (i := 2) (N := some 13) HT_ #[true, false, true, false, false, false, false, false, false, false, false, false, false] ?_; refine puT (i := 4) (N := some 15) HT_ #[true, false, true, false, true, false, false, false, false, false, false, false, false] ?_; refine puT (i := 8) (N := some 19) HT_ #[true, false, true, false, true, false, false, false, true, false, false, false, false] ?_; refine puT (i := 9) (N := some 20) HT_ #[true, false, true, false, true, false, false, false, true, true, false, false, false] ?_; refine tkT (i := 1) (N := some 12) HT_ HW_ hHeld #[true, true, true, false, true, false, false, false, true, true, false, false, false] ?_; refine tkT (i := 3) (N := some 14) HT_ HW_ hHeld #[true, true, true, true, true, false, false, false, true, true, false, false, false] ?_; refine tkT (i := 7) (N := some 18) HT_ HW_ hHeld #[true, true, true, true, true, false, false, true, true, true, false, false, false] ?_; refine onT (i := 5) (N := some 16) HT_ #[true, true, true, true, true, true, false, true, true, true, false, false, false] (fun K hK => ?_); refine go_ Try.func65 #[.agg #[.int .i64 a0_0, .bool a0_1], .int .i64 a1_0, .int .i64 a3] ?_; with_reducible refine (impl_Road_gap.calls a0_0 a0_1 a1_0 a3 t247 _ A6.out).mono ?_
 rintro e w12 ⟨rfl, hb⟩; refine ⟨_, rfl, ?_⟩; replace BK245 := A_ (blk_below (bq BK245) hb); replace BK246 := A_ (blk_below (bq BK246) hb); replace HB := A_ (below_step (hq HB) hb); clear hb; refine hK.out _ _ ⟨bc BK245 0, bc BK245 1, bc BK246 0, bc BK246 1, bc BK246 2⟩ (fun hHeld => ?_); clear hK K; refine nq_ (some 16) ?_; refine puT (i := 6) (N := some 17) HT_ #[true, true, true, true, true, true, true, true, true, true, false, false, false] ?_; refine onT (i := 10) (N := some 21) HT_ #[true, true, true, true, true, true, true, true, true, true, true, false, false] (fun K hK => ?_); refine go_ Try.func65 #[.agg #[.int .i64 a0_0, .bool a0_1], .int .i64 a3, .int .i64 a4] ?_; with_reducible refine (impl_Road_gap.calls a0_0 a0_1 a3 a4 t248 _ A8.out).mono ?_
 rintro e w13 ⟨rfl, hb⟩; refine ⟨_, rfl, ?_⟩; replace BK245 := A_ (blk_below (bq BK245) hb); replace BK246 := A_ (blk_below (bq BK246) hb); replace HB := A_ (below_step (hq HB) hb); clear hb; refine hK.out _ _ ⟨bc BK245 0, bc BK245 1, bc BK246 0, bc BK246 1, bc BK246 2⟩ (fun hHeld => ?_); clear hK K; refine nq_ (some 21) ?_; refine puT (i := 11) (N := some 22) HT_ #[true, true, true, true, true, true, true, true, true, true, true, true, false] ?_; refine puT (i := 12) (N := some 10) HT_ #[true, true, true, true, true, true, true, true, true, true, true, true, true] ?_; refine done_ (done_of HT_.out (by kernel_rfl)) ?_; try go_wp2
 go_ret
 exact ⟨by first | rfl | (simp [errW_none, errW_some] <;> rfl) | (simp only [← hji7]; first | rfl | (simp [errW_none, errW_some] <;> rfl)) | (simp [*, errW_none, errW_some] <;> rfl), hq HB⟩

end Go.Proofs.Ythgbkekfekcfaaa.PFnExactFirstArrival
