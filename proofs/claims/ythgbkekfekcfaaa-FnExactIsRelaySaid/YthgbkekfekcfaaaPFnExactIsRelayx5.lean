-- Told shorter still by shrink2.py.
-- Printed, and told shorter by this session's program shrink.py.
-- Printed by this session's program myprint.py.
import Derived.Test.YthgbkekfekcfaaaPFnExactIsRelayx0
import Derived.Test.YthgbkekfekcfaaaPFnExactIsRelayx4
namespace Go.Proofs.Ythgbkekfekcfaaa.PFnExactIsRelay
open Go.RowKit Go.Proofs.Ythgbkekfekcfaaa.Own Go.Proofs.YthgbkekfekcfaaaW.PrintWords Go.Proofs.YthgbkekfekcfaaaW.PrintLast Go.Proofs.YthgbkekfekcfaaaW.PrintMore
attribute [local go_sem] max2_int min2_int max_two min_two max_three min_three max_four min_four   -- for this text's walks alone
set_option linter.unusedVariables false
set_option linter.unusedSimpArgs false

/-! ### slices_IsSorted_int_int: function 70 -/
def slices_IsSorted_int_int.l0 : Nat → List Int → Int → Option (Bool)
  | 0, _, _ => none
  | k + 1, x0, x3 => if x3 > 0 then (if 0 ≤ x3 then (if x3 < (x0.length : Int) then (if 0 ≤ (wrap64 (x3 - 1)) then (if (wrap64 (x3 - 1)) < (x0.length : Int) then ((cmp_Less_int.f (rd x0 x3) (rd x0 (wrap64 (x3 - 1)))).bind fun t196 => (if t196 = true then (some false) else (slices_IsSorted_int_int.l0 k x0 (wrap64 (x3 - 1))))) else (none)) else (none)) else (none)) else (none)) else (some true)
def slices_IsSorted_int_int.f (k : Nat) (l0 : List Int) : Option (Bool) := slices_IsSorted_int_int.l0 k l0 (wrap64 ((l0.length : Int) - 1))
theorem slices_IsSorted_int_int.mono_l : ∀ k, (∀ y0 y1, LeO (slices_IsSorted_int_int.l0 k y0 y1) (slices_IsSorted_int_int.l0 (k + 1) y0 y1))
  | 0 => fun _ _ r h => by simp [slices_IsSorted_int_int.l0] at h
  | k + 1 => by
    have ih0 := slices_IsSorted_int_int.mono_l k
    · intro y0 y1
      unfold slices_IsSorted_int_int.l0
      repeat' first
      | (with_reducible exact ih0 _ _)
      | (with_reducible exact LeO.refl _)
      | (with_reducible exact LeO.none _)
      | (with_reducible refine LeO.ite ?_ ?_)
      | (with_reducible refine LeO.bind ?_ (fun _ => ?_))
      | exact ih0 _ _
      | exact LeO.none _
      | refine LeO.ite ?_ ?_
      | refine LeO.bind ?_ (fun _ => ?_)
theorem slices_IsSorted_int_int.mono : ∀ a0 k, LeO (slices_IsSorted_int_int.f k a0) (slices_IsSorted_int_int.f (k + 1) a0) := by
  intro a0 k
  have ih0 := slices_IsSorted_int_int.mono_l k
  unfold slices_IsSorted_int_int.f
  repeat' first
      | (with_reducible exact ih0 _ _)
      | (with_reducible exact LeO.refl _)
      | (with_reducible exact LeO.none _)
      | (with_reducible refine LeO.ite ?_ ?_)
      | (with_reducible refine LeO.bind ?_ (fun _ => ?_))
      | exact ih0 _ _
      | exact LeO.none _
      | refine LeO.ite ?_ ?_
      | refine LeO.bind ?_ (fun _ => ?_)
set_option maxHeartbeats 8000000 in
set_option maxRecDepth 100000 in
theorem slices_IsSorted_int_int.calls (k : Nat) (A0 : Option Addr) (c0 : Nat) (l0 : List Int) (r : Bool) (w : World) (hr0 : Kd.C (Kd.int .i64) w A0 l0.length l0) (hc0 : l0.length ≤ c0) (h : slices_IsSorted_int_int.f k l0 = some r) :
    Calls Try.prog 70 #[.slice A0 l0.length c0] w fun e w' => e = .returned (.bool r) ∧ Drawn0 w w' := by
 have HR0 := A_ hr0; have HC0 := A_ hc0; clear hr0 hc0; have H : (slices_IsSorted_int_int.l0 k l0 (wrap64 ((l0.length : Int) - 1))) = some r := h; clear h; have H' := A_ H; clear H; go_enter Try.func70, Try.ntmps70
 go_wp2
 repeat (go_quiet (fail); try go_wp2)
 go_loopg [3] k (fun kq v3 w' => ∃ (x3_1 : Int), v3 = .int .i64 x3_1 ∧ Aside0 (slices_IsSorted_int_int.l0 kq l0 x3_1 = some r) ∧ Aside0 (kq ≤ k) ∧ Drawn0 w w')
 case atStart => exact ⟨(wrap64 ((l0.length : Int) - 1)), rf, H', ⟨Nat.le_refl _⟩, by repeat (first | exact Drawn0.refl _ | apply Drawn0.step)⟩
 case round =>
  clear H'; obtain ⟨x3_1, rfl, HA, HK1, ⟨m1, rfl⟩⟩ := hrel
  cases gk with
  | zero => exact absurd HA.out (by simp [slices_IsSorted_int_int.l0])
  | succ k1 =>
   have H := HA.out; clear HA; simp only [slices_IsSorted_int_int.l0] at H
   by_cases c2 : x3_1 > 0
   ·
    rw [if_pos c2] at H; have c2b0 : decide (0 < x3_1) = true := decide_eq_true c2; clear c2; by_cases c3 : 0 ≤ x3_1
    ·
     rw [if_pos c3] at H; have c3b0 := decide_eq_true c3; clear c3; by_cases c4 : x3_1 < (l0.length : Int)
     ·
      rw [if_pos c4] at H; have c4b0 := decide_eq_true c4; clear c4
      obtain ⟨ji5, hji5⟩ : ∃ j_ : Int, (wrap64 (x3_1 - 1)) = j_ := ⟨_, rfl⟩
      replace H : (if 0 ≤ (ji5) then (if (ji5) < (l0.length : Int) then ((cmp_Less_int.f (rd l0 x3_1) (rd l0 (ji5))).bind fun t196 => (if t196 = true then (some false) else (slices_IsSorted_int_int.l0 k1 l0 ji5))) else (none)) else (none)) = some r := by first | (rw [hji5] at H; exact H) | (simp only [hji5] at H ⊢; exact H)
      have hji5w : (IntKind.i64.wrap (x3_1 - 1)) = ji5 := (i64_w _).trans hji5; by_cases c6 : 0 ≤ (ji5)
      ·
       rw [if_pos c6] at H; have c6b0 := decide_eq_true c6; clear c6; by_cases c7 : (ji5) < (l0.length : Int)
       ·
        rw [if_pos c7] at H; have c7b0 := decide_eq_true c7; clear c7; replace H := bm H; obtain ⟨t196, A8, H⟩ := H; by_cases c9 : t196 = true
        ·
         subst c9
         have H1 : (some false) = some r := by rw [if_pos rfl] at H; exact H
         clear H; have H := H1; clear H1; obtain rfl := Option.some.inj H; have p194 : 0 ≤ (x3_1 : Int) := dq; have q194 : x3_1 < (l0.length : Int) := dq; obtain ⟨ad194, e194, hx194_0⟩ := Kd.at_int HR0.out x3_1 p194 q194
         cases e194
         replace p194 := eq_true p194; replace q194 := eq_true q194; have p195 : 0 ≤ ((ji5) : Int) := dq; have q195 : (ji5) < (l0.length : Int) := dq; obtain ⟨ad195, e195, hx195_0⟩ := Kd.at_int HR0.out (ji5) p195 q195
         obtain rfl : ad194 = ad195 := (by injection e195)
         replace p195 := eq_true p195; replace q195 := eq_true q195; go_wp2_with (first | (go_at_call 80; (with_reducible refine (cmp_Less_int.calls (rd l0 x3_1) (rd l0 (ji5)) true _ A8.out).mono ?_); rintro e w' ⟨rfl, ⟨nd, rfl⟩⟩; (try first | exact ⟨rfl, _, World.drewN_drewN _ _ _⟩ | exact ⟨rfl, _, Eq.trans (World.drewN_drewN _ _ _) (congrArg (World.drewN _) (Nat.add_assoc _ _ _))⟩)))
         repeat (go_quiet (first | (go_at_call 80; (with_reducible refine (cmp_Less_int.calls (rd l0 x3_1) (rd l0 (ji5)) true _ A8.out).mono ?_); rintro e w' ⟨rfl, ⟨nd, rfl⟩⟩; (try first | exact ⟨rfl, _, World.drewN_drewN _ _ _⟩ | exact ⟨rfl, _, Eq.trans (World.drewN_drewN _ _ _) (congrArg (World.drewN _) (Nat.add_assoc _ _ _))⟩))); try go_wp2_with (first | (go_at_call 80; (with_reducible refine (cmp_Less_int.calls (rd l0 x3_1) (rd l0 (ji5)) true _ A8.out).mono ?_); rintro e w' ⟨rfl, ⟨nd, rfl⟩⟩; (try first | exact ⟨rfl, _, World.drewN_drewN _ _ _⟩ | exact ⟨rfl, _, Eq.trans (World.drewN_drewN _ _ _) (congrArg (World.drewN _) (Nat.add_assoc _ _ _))⟩))))
         go_ret
         exact ⟨by first | rfl | (simp; done) | (simp only [← hji5] <;> (first | rfl | simp)) | (simp [*]; done), by repeat (first | exact Drawn0.refl _ | apply Drawn0.step)⟩
        ·
         replace c9 := Bool.eq_false_iff.mpr c9; subst c9
         have H1 : (slices_IsSorted_int_int.l0 k1 l0 ji5) = some r := by rw [if_neg (show ¬ (false = true) by decide)] at H; exact H
         clear H; have H := H1; clear H1; have H' := A_ H; clear H; have p194 : 0 ≤ (x3_1 : Int) := dq; have q194 : x3_1 < (l0.length : Int) := dq; obtain ⟨ad194, e194, hx194_0⟩ := Kd.at_int HR0.out x3_1 p194 q194
         cases e194
         replace p194 := eq_true p194; replace q194 := eq_true q194; have p195 : 0 ≤ ((ji5) : Int) := dq; have q195 : (ji5) < (l0.length : Int) := dq; obtain ⟨ad195, e195, hx195_0⟩ := Kd.at_int HR0.out (ji5) p195 q195
         obtain rfl : ad194 = ad195 := (by injection e195)
         replace p195 := eq_true p195; replace q195 := eq_true q195; go_wp2_with (first | (go_at_call 80; (with_reducible refine (cmp_Less_int.calls (rd l0 x3_1) (rd l0 (ji5)) false _ A8.out).mono ?_); rintro e w' ⟨rfl, ⟨nd, rfl⟩⟩; (try first | exact ⟨rfl, _, World.drewN_drewN _ _ _⟩ | exact ⟨rfl, _, Eq.trans (World.drewN_drewN _ _ _) (congrArg (World.drewN _) (Nat.add_assoc _ _ _))⟩)))
         repeat (go_quiet (first | (go_at_call 80; (with_reducible refine (cmp_Less_int.calls (rd l0 x3_1) (rd l0 (ji5)) false _ A8.out).mono ?_); rintro e w' ⟨rfl, ⟨nd, rfl⟩⟩; (try first | exact ⟨rfl, _, World.drewN_drewN _ _ _⟩ | exact ⟨rfl, _, Eq.trans (World.drewN_drewN _ _ _) (congrArg (World.drewN _) (Nat.add_assoc _ _ _))⟩))); try go_wp2_with (first | (go_at_call 80; (with_reducible refine (cmp_Less_int.calls (rd l0 x3_1) (rd l0 (ji5)) false _ A8.out).mono ?_); rintro e w' ⟨rfl, ⟨nd, rfl⟩⟩; (try first | exact ⟨rfl, _, World.drewN_drewN _ _ _⟩ | exact ⟨rfl, _, Eq.trans (World.drewN_drewN _ _ _) (congrArg (World.drewN _) (Nat.add_assoc _ _ _))⟩))))
         go_roundg k1
         case measure => have := HK1.out; omega
         case rel => exact ⟨(ji5), (by first | rfl | (simp; done) | (simp only [← hji5] <;> (first | rfl | simp)) | (simp [*]; done)), H', ⟨by have := HK1.out; omega⟩, by repeat (first | exact Drawn0.refl _ | apply Drawn0.step)⟩
       ·
        rw [if_neg c7] at H; exact absurd H (by simp)
      ·
       rw [if_neg c6] at H; exact absurd H (by simp)
     ·
      rw [if_neg c4] at H; exact absurd H (by simp)
    ·
     rw [if_neg c3] at H; exact absurd H (by simp)
   ·
    rw [if_neg c2] at H; have c2b0 : decide (0 < x3_1) = false := decide_eq_false c2; clear c2; obtain rfl := Option.some.inj H; go_wp2
    repeat (go_quiet (fail); try go_wp2)
    go_ret
    exact ⟨rf, by repeat (first | exact Drawn0.refl _ | apply Drawn0.step)⟩

/-! ### impl_isCarried: function 46 -/
def impl_isCarried.f (k : Nat) (a0_0 : Int) (a0_1 : Bool) (l1 : List (S61)) (l2 : List Int) : Option (Bool) := (impl_isLine.f a0_0 a0_1).bind fun t198 => (if t198 = true then ((impl_Road_areCarriers.f k a0_0 a0_1 l1).bind fun t199 => (if t199 = true then ((impl_Road_has.f k a0_0 a0_1 l2).bind fun t200 => (if t200 = true then ((slices_IsSorted_int_int.f k l2).bind fun t201 => (some t201)) else (some false))) else (some false))) else (some false))
theorem impl_isCarried.mono : ∀ a0 a1 a2 a3 k, LeO (impl_isCarried.f k a0 a1 a2 a3) (impl_isCarried.f (k + 1) a0 a1 a2 a3) := by
  intro a0 a1 a2 a3 k
  unfold impl_isCarried.f
  repeat' first
      | (with_reducible exact impl_Road_areCarriers.mono _ _ _ _)
      | (with_reducible exact impl_Road_has.mono _ _ _ _)
      | (with_reducible exact slices_IsSorted_int_int.mono _ _)
      | (with_reducible exact LeO.refl _)
      | (with_reducible exact LeO.none _)
      | (with_reducible refine LeO.ite ?_ ?_)
      | (with_reducible refine LeO.bind ?_ (fun _ => ?_))
      | exact impl_Road_areCarriers.mono _ _ _ _
      | exact impl_Road_has.mono _ _ _ _
      | exact slices_IsSorted_int_int.mono _ _
      | exact LeO.none _
      | refine LeO.ite ?_ ?_
      | refine LeO.bind ?_ (fun _ => ?_)
set_option maxHeartbeats 8000000 in
set_option maxRecDepth 100000 in
theorem impl_isCarried.calls (k : Nat) (a0_0 : Int) (a0_1 : Bool) (A1 : Option Addr) (c1 : Nat) (l1 : List (S61)) (A2 : Option Addr) (c2 : Nat) (l2 : List Int) (r : Bool) (w : World) (hr1 : Kd.C k61 w A1 l1.length l1) (hc1 : l1.length ≤ c1) (hr2 : Kd.C (Kd.int .i64) w A2 l2.length l2) (hc2 : l2.length ≤ c2) (h : impl_isCarried.f k a0_0 a0_1 l1 l2 = some r) :
    Calls Try.prog 46 #[.agg #[.int .i64 a0_0, .bool a0_1], .slice A1 l1.length c1, .slice A2 l2.length c2] w fun e w' => e = .returned (.bool r) ∧ Below w.heap.size w w' := by
 have hu27 := Try.underlying27; have HR1 := A_ hr1; have HC1 := A_ hc1; clear hr1 hc1; have HR2 := A_ hr2; have HC2 := A_ hc2; clear hr2 hc2; have HB := A_ (Below.refl w.heap.size w); have H : ((impl_isLine.f a0_0 a0_1).bind fun t198 => (if t198 = true then ((impl_Road_areCarriers.f k a0_0 a0_1 l1).bind fun t199 => (if t199 = true then ((impl_Road_has.f k a0_0 a0_1 l2).bind fun t200 => (if t200 = true then ((slices_IsSorted_int_int.f k l2).bind fun t201 => (some t201)) else (some false))) else (some false))) else (some false))) = some r := h; clear h; replace H := bm H; obtain ⟨t198, A4, H⟩ := H; by_cases c5 : t198 = true
 ·
  subst c5
  have H1 : ((impl_Road_areCarriers.f k a0_0 a0_1 l1).bind fun t199 => (if t199 = true then ((impl_Road_has.f k a0_0 a0_1 l2).bind fun t200 => (if t200 = true then ((slices_IsSorted_int_int.f k l2).bind fun t201 => (some t201)) else (some false))) else (some false))) = some r := by rw [if_pos rfl] at H; exact H
  clear H; have H := H1; clear H1; replace H := bm H; obtain ⟨t199, A6, H⟩ := H; by_cases c7 : t199 = true
  ·
   subst c7
   have H1 : ((impl_Road_has.f k a0_0 a0_1 l2).bind fun t200 => (if t200 = true then ((slices_IsSorted_int_int.f k l2).bind fun t201 => (some t201)) else (some false))) = some r := by rw [if_pos rfl] at H; exact H
   clear H; have H := H1; clear H1; replace H := bm H; obtain ⟨t200, A8, H⟩ := H; by_cases c9 : t200 = true
   ·
    subst c9
    have H1 : ((slices_IsSorted_int_int.f k l2).bind fun t201 => (some t201)) = some r := by rw [if_pos rfl] at H; exact H
    clear H; have H := H1; clear H1; replace H := bm H; obtain ⟨t201, A10, H⟩ := H; obtain rfl := Option.some.inj H; go_enter Try.func46, Try.ntmps46
    go_wp2_with (first | ((with_reducible refine gate_dst (N := 3) rfl ?_); refine bx (N := 3) #[.int .i64 a0_0, .bool a0_1] 27 ?_; intro gb197 hg w11 hbox hb; have BK197 := A_ (hbox); have GW197 := A_ (bs hg (hq HB) : w.heap.size ≤ gb197); have GE197 := A_ (bs hg (hq HB) : w.heap.size ≤ gb197); replace HB := A_ (below_step (hq HB) hb); clear hb hbox hg; have hcz12_0 : w11.cell? ⟨gb197, 0, none⟩ = some (.int .i64 a0_0) := bc BK197 0; have hcz12_1 : w11.cell? ⟨gb197, 1, none⟩ = some (.bool a0_1) := bc BK197 1; have hfz12_0 := blk_frozen BK197.out 0; have hfz12_1 := blk_frozen BK197.out 1) | ((with_reducible refine gate_callee (f := 67) rfl ?_); refine gL (some 8) Try.func67 #[.agg #[.int .i64 a0_0, .bool a0_1]] ?_; (with_reducible refine (impl_isLine.calls a0_0 a0_1 true _ A4.out).mono ?_); rintro e w13 ⟨rfl, hb⟩; refine ⟨_, rfl, ?_⟩; replace BK197 := A_ (blk_below (bq BK197) hb); replace HB := A_ (below_step (hq HB) hb); clear hb; have hcz14_0 : w13.cell? ⟨gb197, 0, none⟩ = some (.int .i64 a0_0) := bc BK197 0; have hcz14_1 : w13.cell? ⟨gb197, 1, none⟩ = some (.bool a0_1) := bc BK197 1; have hfz14_0 := blk_frozen BK197.out 0; have hfz14_1 := blk_frozen BK197.out 1) | (go_at_call 68; (with_reducible refine (impl_Road_areCarriers.calls k a0_0 a0_1 _ _ l1 true _ ?side1 ?side2 A6.out).mono ?_); (case side1 => exact cq (Kd.C_below HR1.out HB.out)); (case side2 => exact HC1.out); rintro e w15 ⟨rfl, hb⟩; replace BK197 := A_ (blk_below (bq BK197) hb); replace HB := A_ (below_step (hq HB) hb); clear hb; have hcz16_0 : w15.cell? ⟨gb197, 0, none⟩ = some (.int .i64 a0_0) := bc BK197 0; have hcz16_1 : w15.cell? ⟨gb197, 1, none⟩ = some (.bool a0_1) := bc BK197 1; have hfz16_0 := blk_frozen BK197.out 0; have hfz16_1 := blk_frozen BK197.out 1) | (go_at_call 69; (with_reducible refine (impl_Road_has.calls k a0_0 a0_1 _ _ l2 true _ ?side1 ?side2 A8.out).mono ?_); (case side1 => exact cq (Kd.C_below HR2.out HB.out)); (case side2 => exact HC2.out); rintro e w17 ⟨rfl, hb⟩; replace BK197 := A_ (blk_below (bq BK197) hb); replace HB := A_ (below_step (hq HB) hb); clear hb) | (go_at_call 70; (with_reducible refine (slices_IsSorted_int_int.calls k _ _ l2 t201 _ ?side1 ?side2 A10.out).mono ?_); (case side1 => exact cq (Kd.C_below HR2.out HB.out)); (case side2 => exact HC2.out); rintro e w' ⟨rfl, ⟨nd, rfl⟩⟩))
    go_ret
    exact ⟨rt, hq HB⟩
   ·
    replace c9 := Bool.eq_false_iff.mpr c9; subst c9
    have H1 : (some false) = some r := by rw [if_neg (show ¬ (false = true) by decide)] at H; exact H
    clear H; have H := H1; clear H1; obtain rfl := Option.some.inj H; go_enter Try.func46, Try.ntmps46
    go_wp2_with (first | ((with_reducible refine gate_dst (N := 3) rfl ?_); refine bx (N := 3) #[.int .i64 a0_0, .bool a0_1] 27 ?_; intro gb197 hg w18 hbox hb; have BK197 := A_ (hbox); have GW197 := A_ (bs hg (hq HB) : w.heap.size ≤ gb197); have GE197 := A_ (bs hg (hq HB) : w.heap.size ≤ gb197); replace HB := A_ (below_step (hq HB) hb); clear hb hbox hg; have hcz19_0 : w18.cell? ⟨gb197, 0, none⟩ = some (.int .i64 a0_0) := bc BK197 0; have hcz19_1 : w18.cell? ⟨gb197, 1, none⟩ = some (.bool a0_1) := bc BK197 1; have hfz19_0 := blk_frozen BK197.out 0; have hfz19_1 := blk_frozen BK197.out 1) | ((with_reducible refine gate_callee (f := 67) rfl ?_); refine gL (some 8) Try.func67 #[.agg #[.int .i64 a0_0, .bool a0_1]] ?_; (with_reducible refine (impl_isLine.calls a0_0 a0_1 true _ A4.out).mono ?_); rintro e w20 ⟨rfl, hb⟩; refine ⟨_, rfl, ?_⟩; replace BK197 := A_ (blk_below (bq BK197) hb); replace HB := A_ (below_step (hq HB) hb); clear hb; have hcz21_0 : w20.cell? ⟨gb197, 0, none⟩ = some (.int .i64 a0_0) := bc BK197 0; have hcz21_1 : w20.cell? ⟨gb197, 1, none⟩ = some (.bool a0_1) := bc BK197 1; have hfz21_0 := blk_frozen BK197.out 0; have hfz21_1 := blk_frozen BK197.out 1) | (go_at_call 68; (with_reducible refine (impl_Road_areCarriers.calls k a0_0 a0_1 _ _ l1 true _ ?side1 ?side2 A6.out).mono ?_); (case side1 => exact cq (Kd.C_below HR1.out HB.out)); (case side2 => exact HC1.out); rintro e w22 ⟨rfl, hb⟩; replace BK197 := A_ (blk_below (bq BK197) hb); replace HB := A_ (below_step (hq HB) hb); clear hb; have hcz23_0 : w22.cell? ⟨gb197, 0, none⟩ = some (.int .i64 a0_0) := bc BK197 0; have hcz23_1 : w22.cell? ⟨gb197, 1, none⟩ = some (.bool a0_1) := bc BK197 1; have hfz23_0 := blk_frozen BK197.out 0; have hfz23_1 := blk_frozen BK197.out 1) | (go_at_call 69; (with_reducible refine (impl_Road_has.calls k a0_0 a0_1 _ _ l2 false _ ?side1 ?side2 A8.out).mono ?_); (case side1 => exact cq (Kd.C_below HR2.out HB.out)); (case side2 => exact HC2.out); rintro e w24 ⟨rfl, hb⟩; replace BK197 := A_ (blk_below (bq BK197) hb); replace HB := A_ (below_step (hq HB) hb); clear hb))
    go_ret
    exact ⟨rt, hq HB⟩
  ·
   replace c7 := Bool.eq_false_iff.mpr c7; subst c7
   have H1 : (some false) = some r := by rw [if_neg (show ¬ (false = true) by decide)] at H; exact H
   clear H; have H := H1; clear H1; obtain rfl := Option.some.inj H; go_enter Try.func46, Try.ntmps46
   go_wp2_with (first | ((with_reducible refine gate_dst (N := 3) rfl ?_); refine bx (N := 3) #[.int .i64 a0_0, .bool a0_1] 27 ?_; intro gb197 hg w25 hbox hb; have BK197 := A_ (hbox); have GW197 := A_ (bs hg (hq HB) : w.heap.size ≤ gb197); have GE197 := A_ (bs hg (hq HB) : w.heap.size ≤ gb197); replace HB := A_ (below_step (hq HB) hb); clear hb hbox hg; have hcz26_0 : w25.cell? ⟨gb197, 0, none⟩ = some (.int .i64 a0_0) := bc BK197 0; have hcz26_1 : w25.cell? ⟨gb197, 1, none⟩ = some (.bool a0_1) := bc BK197 1; have hfz26_0 := blk_frozen BK197.out 0; have hfz26_1 := blk_frozen BK197.out 1) | ((with_reducible refine gate_callee (f := 67) rfl ?_); refine gL (some 8) Try.func67 #[.agg #[.int .i64 a0_0, .bool a0_1]] ?_; (with_reducible refine (impl_isLine.calls a0_0 a0_1 true _ A4.out).mono ?_); rintro e w27 ⟨rfl, hb⟩; refine ⟨_, rfl, ?_⟩; replace BK197 := A_ (blk_below (bq BK197) hb); replace HB := A_ (below_step (hq HB) hb); clear hb; have hcz28_0 : w27.cell? ⟨gb197, 0, none⟩ = some (.int .i64 a0_0) := bc BK197 0; have hcz28_1 : w27.cell? ⟨gb197, 1, none⟩ = some (.bool a0_1) := bc BK197 1; have hfz28_0 := blk_frozen BK197.out 0; have hfz28_1 := blk_frozen BK197.out 1) | (go_at_call 68; (with_reducible refine (impl_Road_areCarriers.calls k a0_0 a0_1 _ _ l1 false _ ?side1 ?side2 A6.out).mono ?_); (case side1 => exact cq (Kd.C_below HR1.out HB.out)); (case side2 => exact HC1.out); rintro e w29 ⟨rfl, hb⟩; replace BK197 := A_ (blk_below (bq BK197) hb); replace HB := A_ (below_step (hq HB) hb); clear hb))
   go_ret
   exact ⟨rt, hq HB⟩
 ·
  replace c5 := Bool.eq_false_iff.mpr c5; subst c5
  have H1 : (some false) = some r := by rw [if_neg (show ¬ (false = true) by decide)] at H; exact H
  clear H; have H := H1; clear H1; obtain rfl := Option.some.inj H; go_enter Try.func46, Try.ntmps46
  go_wp2_with (first | ((with_reducible refine gate_dst (N := 3) rfl ?_); refine bx (N := 3) #[.int .i64 a0_0, .bool a0_1] 27 ?_; intro gb197 hg w30 hbox hb; have BK197 := A_ (hbox); have GW197 := A_ (bs hg (hq HB) : w.heap.size ≤ gb197); have GE197 := A_ (bs hg (hq HB) : w.heap.size ≤ gb197); replace HB := A_ (below_step (hq HB) hb); clear hb hbox hg; have hcz31_0 : w30.cell? ⟨gb197, 0, none⟩ = some (.int .i64 a0_0) := bc BK197 0; have hcz31_1 : w30.cell? ⟨gb197, 1, none⟩ = some (.bool a0_1) := bc BK197 1; have hfz31_0 := blk_frozen BK197.out 0; have hfz31_1 := blk_frozen BK197.out 1) | ((with_reducible refine gate_callee (f := 67) rfl ?_); refine gL (some 8) Try.func67 #[.agg #[.int .i64 a0_0, .bool a0_1]] ?_; (with_reducible refine (impl_isLine.calls a0_0 a0_1 false _ A4.out).mono ?_); rintro e w32 ⟨rfl, hb⟩; refine ⟨_, rfl, ?_⟩; replace BK197 := A_ (blk_below (bq BK197) hb); replace HB := A_ (below_step (hq HB) hb); clear hb))
  go_ret
  exact ⟨rt, hq HB⟩

/-! ### impl_Road_gap: function 65 -/
def impl_Road_gap.f (a0_0 : Int) (a0_1 : Bool) (a1 : Int) (a2 : Int) : Option (Int) := if a0_1 = true then (some (mn (mx (wrap64 (a1 - a2)) (wrap64 (a2 - a1))) (wrap64 (a0_0 - (mx (wrap64 (a1 - a2)) (wrap64 (a2 - a1))))))) else (some (mx (wrap64 (a1 - a2)) (wrap64 (a2 - a1))))
set_option maxHeartbeats 8000000 in
set_option maxRecDepth 100000 in
theorem impl_Road_gap.calls (a0_0 : Int) (a0_1 : Bool) (a1 : Int) (a2 : Int) (r : Int) (w : World) (h : impl_Road_gap.f a0_0 a0_1 a1 a2 = some r) :
    Calls Try.prog 65 #[.agg #[.int .i64 a0_0, .bool a0_1], .int .i64 a1, .int .i64 a2] w fun e w' => e = .returned (.int .i64 r) ∧ Below w.heap.size w w' := by
 have hu27 := Try.underlying27; have HB := A_ (Below.refl w.heap.size w); have H : (if a0_1 = true then (some (mn (mx (wrap64 (a1 - a2)) (wrap64 (a2 - a1))) (wrap64 (a0_0 - (mx (wrap64 (a1 - a2)) (wrap64 (a2 - a1))))))) else (some (mx (wrap64 (a1 - a2)) (wrap64 (a2 - a1))))) = some r := h; clear h
 obtain ⟨ji4, hji4⟩ : ∃ j_ : Int, (mx (wrap64 (a1 - a2)) (wrap64 (a2 - a1))) = j_ := ⟨_, rfl⟩
 replace H : (if a0_1 = true then (some (mn (ji4) (wrap64 (a0_0 - (ji4))))) else (some ji4)) = some r := by first | (rw [hji4] at H; exact H) | (simp only [hji4] at H ⊢; exact H)
 have hji4_ : (if (wrap64 (a1 - a2)) < (wrap64 (a2 - a1)) then (wrap64 (a2 - a1)) else (wrap64 (a1 - a2))) = ji4 := hji4; by_cases c5 : a0_1 = true
 ·
  subst c5
  have H1 : (some (mn (ji4) (wrap64 (a0_0 - (ji4))))) = some r := by rw [if_pos rfl] at H; exact H
  clear H; have H := H1; clear H1
  obtain ⟨ji6, hji6⟩ : ∃ j_ : Int, (mn (ji4) (wrap64 (a0_0 - (ji4)))) = j_ := ⟨_, rfl⟩
  replace H : (some ji6) = some r := by first | (rw [hji6] at H; exact H) | (simp only [hji6] at H ⊢; exact H)
  have hji6_ : (if (wrap64 (a0_0 - (ji4))) < (ji4) then (wrap64 (a0_0 - (ji4))) else (ji4)) = ji6 := hji6; obtain rfl := Option.some.inj H; go_enter Try.func65, Try.ntmps65
  go_wp2_with (first | ((with_reducible refine gate_dst (N := 3) rfl ?_); refine bx (N := 3) #[.int .i64 a0_0, .bool true] 27 ?_; intro gb202 hg w7 hbox hb; have BK202 := A_ (hbox); have GW202 := A_ (bs hg (hq HB) : w.heap.size ≤ gb202); have GE202 := A_ (bs hg (hq HB) : w.heap.size ≤ gb202); replace HB := A_ (below_step (hq HB) hb); clear hb hbox hg; have hcz8_0 : w7.cell? ⟨gb202, 0, none⟩ = some (.int .i64 a0_0) := bc BK202 0; have hcz8_1 : w7.cell? ⟨gb202, 1, none⟩ = some (.bool true) := bc BK202 1; have hfz8_0 := blk_frozen BK202.out 0; have hfz8_1 := blk_frozen BK202.out 1))
  go_ret
  exact ⟨by first | rfl | (simp [errW_none, errW_some] <;> rfl) | (simp only [← hji4, ← hji6]; first | rfl | (simp [errW_none, errW_some] <;> rfl)) | (simp [*, errW_none, errW_some] <;> rfl), hq HB⟩
 ·
  replace c5 := Bool.eq_false_iff.mpr c5; subst c5
  have H1 : (some ji4) = some r := by rw [if_neg (show ¬ (false = true) by decide)] at H; exact H
  clear H; have H := H1; clear H1; obtain rfl := Option.some.inj H; go_enter Try.func65, Try.ntmps65
  go_wp2_with (first | ((with_reducible refine gate_dst (N := 3) rfl ?_); refine bx (N := 3) #[.int .i64 a0_0, .bool false] 27 ?_; intro gb202 hg w9 hbox hb; have BK202 := A_ (hbox); have GW202 := A_ (bs hg (hq HB) : w.heap.size ≤ gb202); have GE202 := A_ (bs hg (hq HB) : w.heap.size ≤ gb202); replace HB := A_ (below_step (hq HB) hb); clear hb hbox hg; have hcz10_0 : w9.cell? ⟨gb202, 0, none⟩ = some (.int .i64 a0_0) := bc BK202 0; have hcz10_1 : w9.cell? ⟨gb202, 1, none⟩ = some (.bool false) := bc BK202 1; have hfz10_0 := blk_frozen BK202.out 0; have hfz10_1 := blk_frozen BK202.out 1))
  go_ret
  exact ⟨by first | rfl | (simp [errW_none, errW_some] <;> rfl) | (simp only [← hji4]; first | rfl | (simp [errW_none, errW_some] <;> rfl)) | (simp [*, errW_none, errW_some] <;> rfl), hq HB⟩

/-! ### impl_Road_steps: function 41 -/
def impl_Road_steps.f (a0_0 : Int) (a0_1 : Bool) (a1_0 : Int) (a1_1 : Int) (a1_2 : Int) (a2 : Int) (a3 : Int) : Option (Int) := (impl_Road_gap.f a0_0 a0_1 a1_0 a2).bind fun t205 => ((impl_Road_gap.f a0_0 a0_1 a2 a3).bind fun t206 => (some (wrap64 (t205 + t206))))
def impl_Road_steps.T1 : Bool × List (List Nat × List Nat) := (true, [([], []), ([], []), ([1], [1]), ([], []), ([0, 2, 3], [0, 2, 3]), ([], []), ([], []), ([], []), ([5, 6, 7, 4], [5, 6, 7]), ([4, 8], [4, 8]), ([9, 8, 0, 1, 2, 3, 4, 5, 6, 7, 8, 9], [9])])
def impl_Road_steps.B1 : List Nat := [0, 0, 2, 0, 15, 0, 0, 0, 255, 511, 1023]
theorem impl_Road_steps.tab1 : rtab .any (opsOf Try.f41 1) = impl_Road_steps.T1 := by kernel_rfl
theorem impl_Road_steps.bits1 : waitsOk impl_Road_steps.T1.2 impl_Road_steps.B1 = true := by kernel_rfl
set_option maxHeartbeats 8000000 in
set_option maxRecDepth 100000 in
theorem impl_Road_steps.calls (a0_0 : Int) (a0_1 : Bool) (a1_0 : Int) (a1_1 : Int) (a1_2 : Int) (a2 : Int) (a3 : Int) (r : Int) (w : World) (h : impl_Road_steps.f a0_0 a0_1 a1_0 a1_1 a1_2 a2 a3 = some r) :
    Calls Try.prog 41 #[.agg #[.int .i64 a0_0, .bool a0_1], .agg #[.int .i64 a1_0, .int .i64 a1_1, .int .i64 a1_2], .int .i64 a2, .int .i64 a3] w fun e w' => e = .returned (.int .i64 r) ∧ Below w.heap.size w w' := by
 have hu27 := Try.underlying27; have hu61 := Try.underlying61; have HB := A_ (Below.refl w.heap.size w); have H : ((impl_Road_gap.f a0_0 a0_1 a1_0 a2).bind fun t205 => ((impl_Road_gap.f a0_0 a0_1 a2 a3).bind fun t206 => (some (wrap64 (t205 + t206))))) = some r := h; clear h; replace H := bm H; obtain ⟨t205, A5, H⟩ := H; replace H := bm H; obtain ⟨t206, A6, H⟩ := H; obtain rfl := Option.some.inj H; go_enter Try.func41, Try.ntmps41
 try go_wp2_with (first | ((with_reducible refine gate_dst (N := 4) rfl ?_); refine bx (N := 4) #[.int .i64 a0_0, .bool a0_1] 27 ?_; intro gb203 hg w7 hbox hb; have BK203 := A_ (hbox); have GW203 := A_ (bs hg (hq HB) : w.heap.size ≤ gb203); have GE203 := A_ (bs hg (hq HB) : w.heap.size ≤ gb203); replace HB := A_ (below_step (hq HB) hb); clear hb hbox hg) | ((with_reducible refine gate_dst (N := 5) rfl ?_); refine bx (N := 5) #[.int .i64 a1_0, .int .i64 a1_1, .int .i64 a1_2] 61 ?_; intro gb204 hg w8 hbox hb; have BK204 := A_ (hbox); have GW204 := A_ (bs hg (hq HB) : w.heap.size ≤ gb204); have GE204 := A_ (bs hg (hq HB) : w.heap.size ≤ gb204); replace HB := A_ (below_step (hq HB) hb); have NB203_204 := A_ ((by rw [hg]; exact Nat.ne_of_lt (blk_lt (bq BK203)) : gb203 ≠ gb204)); have NB204_203 := A_ ((by rw [hg]; exact Nat.ne_of_gt (blk_lt (bq BK203)) : gb204 ≠ gb203)); replace BK203 := A_ (blk_below (bq BK203) hb); clear hb hbox hg))
 replace BK203 := A_ (blk_drew BK203.out); replace BK204 := A_ (blk_drew BK204.out); replace HB := A_ (below_drew1 HB.out); refine start_ (n := 11) (S := fun w' => w'.cell? ⟨gb203, 0, none⟩ = some (.int .i64 a0_0) ∧ w'.cell? ⟨gb203, 1, none⟩ = some (.bool a0_1) ∧ w'.cell? ⟨gb204, 0, none⟩ = some (.int .i64 a1_0) ∧ w'.cell? ⟨gb204, 1, none⟩ = some (.int .i64 a1_1) ∧ w'.cell? ⟨gb204, 2, none⟩ = some (.int .i64 a1_2)) (ds := []) #[false, false, false, false, false, false, false, false, false, false, false] (by kernel_rfl) rfl rfl ⟨bc BK203 0, bc BK203 1, bc BK204 0, bc BK204 1, bc BK204 2⟩ (fun hHeld => ?_); refine with_tabW impl_Road_steps.tab1 impl_Road_steps.bits1 (fun HT_ HW_ => ?_); generalize w8.drew = w9 at BK203 BK204 HB hHeld ⊢; refine puT (i := 1) (N := some 10) HT_ #[false, true, false, false, false, false, false, false, false, false, false] ?_; refine puT (i := 3) (N := some 12) HT_ #[false, true, false, true, false, false, false, false, false, false, false] ?_; refine puT (i := 6) (N := some 15) HT_ #[false, true, false, true, false, false, true, false, false, false, false] ?_; refine puT (i := 7) (N := some 16) HT_ #[false, true, false, true, false, false, true, true, false, false, false] ?_; refine tkT (i := 0) (N := some 9) HT_ HW_ hHeld #[true, true, false, true, false, false, true, true, false, false, false] ?_; refine tkT (i := 2) (N := some 11) HT_ HW_ hHeld #[true, true, true, true, false, false, true, true, false, false, false] ?_; refine tkT (i := 5) (N := some 14) HT_ HW_ hHeld #[true, true, true, true, false, true, true, true, false, false, false] ?_; refine onT (i := 4) (N := some 13) HT_ #[true, true, true, true, true, true, true, true, false, false, false] (fun K hK => ?_); refine go_ Try.func65 #[.agg #[.int .i64 a0_0, .bool a0_1], .int .i64 a1_0, .int .i64 a2] ?_; with_reducible refine (impl_Road_gap.calls a0_0 a0_1 a1_0 a2 t205 _ A5.out).mono ?_
 rintro e w10 ⟨rfl, hb⟩; refine ⟨_, rfl, ?_⟩; replace BK203 := A_ (blk_below (bq BK203) hb); replace BK204 := A_ (blk_below (bq BK204) hb); replace HB := A_ (below_step (hq HB) hb); clear hb; refine hK.out _ _ ⟨bc BK203 0, bc BK203 1, bc BK204 0, bc BK204 1, bc BK204 2⟩ (fun hHeld => ?_); clear hK K; refine nq_ (some 13) ?_; refine onT (i := 8) (N := some 17) HT_ #[true, true, true, true, true, true, true, true, true, false, false] (fun K hK => ?_); refine go_ Try.func65 #[.agg #[.int .i64 a0_0, .bool a0_1], .int .i64 a2, .int .i64 a3] ?_; with_reducible refine (impl_Road_gap.calls a0_0 a0_1 a2 a3 t206 _ A6.out).mono ?_
 rintro e w11 ⟨rfl, hb⟩; refine ⟨_, rfl, ?_⟩; replace BK203 := A_ (blk_below (bq BK203) hb); replace BK204 := A_ (blk_below (bq BK204) hb); replace HB := A_ (below_step (hq HB) hb); clear hb; refine hK.out _ _ ⟨bc BK203 0, bc BK203 1, bc BK204 0, bc BK204 1, bc BK204 2⟩ (fun hHeld => ?_); clear hK K; refine nq_ (some 17) ?_; refine puT (i := 9) (N := some 18) HT_ #[true, true, true, true, true, true, true, true, true, true, false] ?_; refine puT (i := 10) (N := some 8) HT_ #[true, true, true, true, true, true, true, true, true, true, true] ?_; refine done_ (done_of HT_.out (by kernel_rfl)) ?_; try go_wp2
 go_ret
 exact ⟨rt, hq HB⟩

end Go.Proofs.Ythgbkekfekcfaaa.PFnExactIsRelay
