-- Told shorter still by shrink2.py.
-- Printed, and told shorter by this session's program shrink.py.
-- Printed by this session's program myprint.py.
import Derived.Test.YthgbkekfekcfaaaPFnExactBestPlansx0
import Derived.Test.YthgbkekfekcfaaaPFnExactBestPlansx4
import Derived.Test.YthgbkekfekcfaaaPFnExactBestPlansx5
import Derived.Test.YthgbkekfekcfaaaPFnExactBestPlansx8
namespace Go.Proofs.Ythgbkekfekcfaaa.PFnExactBestPlans
open Go.RowKit Go.Proofs.Ythgbkekfekcfaaa.Own Go.Proofs.YthgbkekfekcfaaaW.PrintWords Go.Proofs.YthgbkekfekcfaaaW.PrintLast Go.Proofs.YthgbkekfekcfaaaW.PrintMore
attribute [local go_sem] max2_int min2_int max_two min_two max_three min_three max_four min_four   -- for this text's walks alone
set_option linter.unusedVariables false
set_option linter.unusedSimpArgs false

/-! ### laws_heldIntS: function 12 -/
def laws_heldIntS.l0 : Nat → List Int → Int → Int → Option (Int)
  | 0, _, _, _ => none
  | k + 1, x0, x1, x5 => if x5 < (x0.length : Int) then (if 0 ≤ x5 then (if (rd x0 x5) = x1 then (laws_heldIntS.l0 k x0 (wrap64 (x1 + 1)) (wrap64 (x5 + 1))) else (some (-1))) else (none)) else (some x1)
def laws_heldIntS.f (k : Nat) (l0 : List Int) (a1 : Int) : Option (Int) := laws_heldIntS.l0 k l0 a1 0
theorem laws_heldIntS.mono_l : ∀ k, (∀ y0 y1 y2, LeO (laws_heldIntS.l0 k y0 y1 y2) (laws_heldIntS.l0 (k + 1) y0 y1 y2))
  | 0 => fun _ _ _ r h => by simp [laws_heldIntS.l0] at h
  | k + 1 => by
    have ih0 := laws_heldIntS.mono_l k
    · intro y0 y1 y2
      unfold laws_heldIntS.l0
      repeat' first
      | (with_reducible exact ih0 _ _ _)
      | (with_reducible exact LeO.refl _)
      | (with_reducible exact LeO.none _)
      | (with_reducible refine LeO.ite ?_ ?_)
      | (with_reducible refine LeO.bind ?_ (fun _ => ?_))
      | exact ih0 _ _ _
      | exact LeO.none _
      | refine LeO.ite ?_ ?_
      | refine LeO.bind ?_ (fun _ => ?_)
theorem laws_heldIntS.mono : ∀ a0 a1 k, LeO (laws_heldIntS.f k a0 a1) (laws_heldIntS.f (k + 1) a0 a1) := by
  intro a0 a1 k
  have ih0 := laws_heldIntS.mono_l k
  unfold laws_heldIntS.f
  repeat' first
      | (with_reducible exact ih0 _ _ _)
      | (with_reducible exact LeO.refl _)
      | (with_reducible exact LeO.none _)
      | (with_reducible refine LeO.ite ?_ ?_)
      | (with_reducible refine LeO.bind ?_ (fun _ => ?_))
      | exact ih0 _ _ _
      | exact LeO.none _
      | refine LeO.ite ?_ ?_
      | refine LeO.bind ?_ (fun _ => ?_)
set_option maxHeartbeats 8000000 in
set_option maxRecDepth 100000 in
theorem laws_heldIntS.calls (k : Nat) (A0 : Option Addr) (c0 : Nat) (l0 : List Int) (a1 : Int) (r : Int) (w : World) (hr0 : Kd.C (Kd.int .i64) w A0 l0.length l0) (hc0 : l0.length ≤ c0) (h : laws_heldIntS.f k l0 a1 = some r) :
    Calls Try.prog 12 #[.slice A0 l0.length c0, .int .i64 a1] w fun e w' => e = .returned (.int .i64 r) ∧ Drawn0 w w' := by
 have HR0 := A_ hr0; have HC0 := A_ hc0; clear hr0 hc0; have H : (laws_heldIntS.l0 k l0 a1 0) = some r := h; clear h; have H' := A_ H; clear H; go_enter Try.func12, Try.ntmps12
 go_wp2
 go_loopg [1, 5] k (fun kq v1 v5 w' => ∃ (x1_1 : Int) (x5_1 : Int), v1 = .int .i64 x1_1 ∧ v5 = .int .i64 x5_1 ∧ Aside0 (laws_heldIntS.l0 kq l0 x1_1 x5_1 = some r) ∧ Aside0 (kq ≤ k) ∧ Drawn0 w w')
 case atStart => exact ⟨(a1), (0), rf, rf, H', ⟨Nat.le_refl _⟩, by repeat (first | exact Drawn0.refl _ | apply Drawn0.step)⟩
 case round =>
  clear H'; obtain ⟨x1_1, x5_1, rfl, rfl, HA, HK1, ⟨m1, rfl⟩⟩ := hrel
  cases gk with
  | zero => exact absurd HA.out (by simp [laws_heldIntS.l0])
  | succ k1 =>
   have H := HA.out; clear HA; simp only [laws_heldIntS.l0] at H
   by_cases c3 : x5_1 < (l0.length : Int)
   ·
    rw [if_pos c3] at H; have c3b0 := decide_eq_true c3; clear c3; by_cases c4 : 0 ≤ x5_1
    ·
     rw [if_pos c4] at H; have c4b0 := decide_eq_true c4; clear c4; by_cases c5 : (rd l0 x5_1) = x1_1
     ·
      rw [if_pos c5] at H; have c5b0 : ((rd l0 x5_1) == x1_1) = true := beq_iff_eq.mpr c5; have c5b1 : ((rd l0 x5_1) != x1_1) = false := bne_eq_false_iff_eq.mpr c5; clear c5; have H' := A_ H; clear H; have p382 : 0 ≤ (x5_1 : Int) := dq; have q382 : x5_1 < (l0.length : Int) := dq; obtain ⟨ad382, e382, hx382_0⟩ := Kd.at_int HR0.out x5_1 p382 q382
      cases e382
      replace p382 := eq_true p382; replace q382 := eq_true q382; go_wp2
      go_roundg k1
      case measure => have := HK1.out; omega
      case rel => exact ⟨(wrap64 (x1_1 + 1)), (wrap64 (x5_1 + 1)), rf, rf, H', ⟨by have := HK1.out; omega⟩, by repeat (first | exact Drawn0.refl _ | apply Drawn0.step)⟩
     ·
      rw [if_neg c5] at H; have c5b0 : ((rd l0 x5_1) == x1_1) = false := beq_eq_false_iff_ne.mpr c5; have c5b1 : ((rd l0 x5_1) != x1_1) = true := bne_iff_ne.mpr c5; obtain rfl := Option.some.inj H; have p382 : 0 ≤ (x5_1 : Int) := dq; have q382 : x5_1 < (l0.length : Int) := dq; obtain ⟨ad382, e382, hx382_0⟩ := Kd.at_int HR0.out x5_1 p382 q382
      cases e382
      replace p382 := eq_true p382; replace q382 := eq_true q382; go_wp2
      go_ret
      exact ⟨rf, by repeat (first | exact Drawn0.refl _ | apply Drawn0.step)⟩
    ·
     rw [if_neg c4] at H; exact absurd H (by simp)
   ·
    rw [if_neg c3] at H; have c3b0 := decide_eq_false c3; clear c3; obtain rfl := Option.some.inj H; go_wp2
    go_ret
    exact ⟨rf, by repeat (first | exact Drawn0.refl _ | apply Drawn0.step)⟩

/-! ### laws_FnExactBestPlans: function 3 -/
mutual
def laws_FnExactBestPlans.j0 : Nat → Int → List Int → List Int → Int → Bool → List Int → List Int → Bool → Int → Bool → Option (Bool)
  | 0, _, _, _, _, _, _, _, _, _, _ => none
  | k + 1, x1, x5, x6, x7, x8, x9, x10, x56, x384000, x384001 => if x56 = true then (some false) else ((laws_markIntS.f k x9 1).bind fun bt406 => ((laws_markIntS.f k x10 bt406.1).bind fun bt408 => ((laws_heldIntS.f k bt406.2 1).bind fun t410 => (if t410 < 0 then (some false) else ((laws_heldIntS.f k bt408.2 t410).bind fun t411 => (if t411 < 0 then (some false) else (if t411 = bt408.1 then ((laws_toRoad.f x384000 x384001).bind fun bt412 => ((impl_BestPlans.f k bt412.1 bt412.2 x1).bind fun bt414 => ((laws_eqIntS.f k bt414.1 x5).bind fun t422 => (if t422 = true then ((laws_eqIntS.f k bt414.2.1 x6).bind fun t423 => (if t423 = true then (if bt414.2.2.1 = x7 then (laws_FnExactBestPlans.j1 k bt406.2 bt408.2 bt408.1 (bt414.2.2.2 != x8)) else (laws_FnExactBestPlans.j1 k bt406.2 bt408.2 bt408.1 true)) else (laws_FnExactBestPlans.j1 k bt406.2 bt408.2 bt408.1 true))) else (laws_FnExactBestPlans.j1 k bt406.2 bt408.2 bt408.1 true))))) else (some false))))))))
def laws_FnExactBestPlans.j1 : Nat → List Int → List Int → Int → Bool → Option (Bool)
  | 0, _, _, _, _ => none
  | k + 1, x9, x10, x13, x104 => if x104 = true then (some false) else ((laws_heldIntS.f k x9 1).bind fun t424 => (if t424 < 0 then (some false) else ((laws_heldIntS.f k x10 t424).bind fun t425 => (if t425 < 0 then (some false) else (if t425 = x13 then (some true) else (some false))))))
end
def laws_FnExactBestPlans.f (k : Nat) (a0_0 : Int) (a0_1 : Bool) (a1 : Int) : Option (Bool) := (laws_toRoad.f a0_0 a0_1).bind fun bt384 => ((spec_BestPlans.f k bt384.1 bt384.2 a1).bind fun bt386 => ((laws_toRoad.f a0_0 a0_1).bind fun bt394 => ((impl_BestPlans.f k bt394.1 bt394.2 a1).bind fun bt396 => ((laws_eqIntS.f k bt396.1 bt386.1).bind fun t404 => (if t404 = true then ((laws_eqIntS.f k bt396.2.1 bt386.2.1).bind fun t405 => (if t405 = true then (if bt396.2.2.1 = bt386.2.2.1 then (laws_FnExactBestPlans.j0 k a1 bt386.1 bt386.2.1 bt386.2.2.1 bt386.2.2.2 bt396.1 bt396.2.1 (bt396.2.2.2 != bt386.2.2.2) a0_0 a0_1) else (laws_FnExactBestPlans.j0 k a1 bt386.1 bt386.2.1 bt386.2.2.1 bt386.2.2.2 bt396.1 bt396.2.1 true a0_0 a0_1)) else (laws_FnExactBestPlans.j0 k a1 bt386.1 bt386.2.1 bt386.2.2.1 bt386.2.2.2 bt396.1 bt396.2.1 true a0_0 a0_1))) else (laws_FnExactBestPlans.j0 k a1 bt386.1 bt386.2.1 bt386.2.2.1 bt386.2.2.2 bt396.1 bt396.2.1 true a0_0 a0_1))))))
theorem laws_FnExactBestPlans.bad0 {k} {r : Bool} {y0 y1 y2 y3 y4 y5 y6 y8 y9} (h : laws_FnExactBestPlans.j0 k y0 y1 y2 y3 y4 y5 y6 true y8 y9 = some r) (hr : r = true) : False := by subst hr; cases k <;> simp [laws_FnExactBestPlans.j0] at h
theorem laws_FnExactBestPlans.bad1 {k} {r : Bool} {y0 y1 y2} (h : laws_FnExactBestPlans.j1 k y0 y1 y2 true = some r) (hr : r = true) : False := by subst hr; cases k <;> simp [laws_FnExactBestPlans.j1] at h
set_option maxHeartbeats 100000000 in
set_option maxRecDepth 100000 in
theorem laws_FnExactBestPlans.calls (k : Nat) (a0_0 : Int) (a0_1 : Bool) (a1 : Int) (r : Bool) (hr_ : r = true) (w : World) (h : laws_FnExactBestPlans.f k a0_0 a0_1 a1 = some r) :
    Calls Try.prog 3 #[.agg #[.int .i64 a0_0, .bool a0_1], .int .i64 a1] w fun e w' => e = .returned (.bool r) ∧ Below w.heap.size w w' := by
 have hu23 := Try.underlying23; have HB := A_ (Below.refl w.heap.size w); have H : ((laws_toRoad.f a0_0 a0_1).bind fun bt384 => ((spec_BestPlans.f k bt384.1 bt384.2 a1).bind fun bt386 => ((laws_toRoad.f a0_0 a0_1).bind fun bt394 => ((impl_BestPlans.f k bt394.1 bt394.2 a1).bind fun bt396 => ((laws_eqIntS.f k bt396.1 bt386.1).bind fun t404 => (if t404 = true then ((laws_eqIntS.f k bt396.2.1 bt386.2.1).bind fun t405 => (if t405 = true then (if bt396.2.2.1 = bt386.2.2.1 then (laws_FnExactBestPlans.j0 k a1 bt386.1 bt386.2.1 bt386.2.2.1 bt386.2.2.2 bt396.1 bt396.2.1 (bt396.2.2.2 != bt386.2.2.2) a0_0 a0_1) else (laws_FnExactBestPlans.j0 k a1 bt386.1 bt386.2.1 bt386.2.2.1 bt386.2.2.2 bt396.1 bt396.2.1 true a0_0 a0_1)) else (laws_FnExactBestPlans.j0 k a1 bt386.1 bt386.2.1 bt386.2.2.1 bt386.2.2.2 bt396.1 bt396.2.1 true a0_0 a0_1))) else (laws_FnExactBestPlans.j0 k a1 bt386.1 bt386.2.1 bt386.2.2.1 bt386.2.2.2 bt396.1 bt396.2.1 true a0_0 a0_1))))))) = some r := h; clear h; replace H := bm H; obtain ⟨⟨t384, t385⟩, A3, H⟩ := H; (try dsimp only at H); replace H := bm H; obtain ⟨⟨t386, t389, t392, t393⟩, A4, H⟩ := H; (try dsimp only at H); replace H := bm H; obtain ⟨⟨t394, t395⟩, A5, H⟩ := H; (try dsimp only at H); replace H := bm H; obtain ⟨⟨t396, t399, t402, t403⟩, A6, H⟩ := H; (try dsimp only at H); have HC7 := A_ H; clear H; go_enter Try.func3, Try.ntmps3
 go_upto_region 3 with (first | ((with_reducible refine gate_dst (N := 2) rfl ?_); refine bx (N := 2) #[.int .i64 a0_0, .bool a0_1] 23 ?_; intro gb383 hg w8 hbox hb; have BK383 := A_ (hbox); have GW383 := A_ (bs hg (hq HB) : w.heap.size ≤ gb383); have GE383 := A_ (bs hg (hq HB) : w.heap.size ≤ gb383); replace HB := A_ (below_step (hq HB) hb); clear hb hbox hg; have hcz9_0 : w8.cell? ⟨gb383, 0, none⟩ = some (.int .i64 a0_0) := bc BK383 0; have hcz9_1 : w8.cell? ⟨gb383, 1, none⟩ = some (.bool a0_1) := bc BK383 1; have hfz9_0 := blk_frozen BK383.out 0; have hfz9_1 := blk_frozen BK383.out 1) | ((with_reducible refine gate_callee (f := 8) rfl ?_); refine gL (some 21) Try.func8 #[.agg #[.int .i64 a0_0, .bool a0_1]] ?_; (with_reducible refine (laws_toRoad.calls a0_0 a0_1 t384 t385 _ A3.out).mono ?_); rintro e w10 ⟨rfl, hb⟩; refine ⟨_, rfl, ?_⟩; replace BK383 := A_ (blk_below (bq BK383) hb); replace HB := A_ (below_step (hq HB) hb); clear hb) | ((with_reducible refine gate_callee (f := 7) rfl ?_); refine gL (some 23) Try.func7 #[.agg #[.int .i64 t384, .bool t385], .int .i64 a1] ?_; (with_reducible refine (spec_BestPlans.calls k t384 t385 a1 t386 t389 t392 t393 _ A4.out).mono ?_); rintro e w11 ⟨v387, v390, rfl, ho0, ho1, hb⟩; refine ⟨_, rfl, ?_⟩; have HO388 := A_ (Kd.R_lower ho0 (below_size (hq HB))); have HO391 := A_ (Kd.R_lower ho1 (below_size (hq HB))); replace BK383 := A_ (blk_below (bq BK383) hb); replace HB := A_ (below_step (hq HB) hb); clear hb ho0 ho1; have hcz12_0 : w11.cell? ⟨gb383, 0, none⟩ = some (.int .i64 a0_0) := bc BK383 0; have hcz12_1 : w11.cell? ⟨gb383, 1, none⟩ = some (.bool a0_1) := bc BK383 1; have hfz12_0 := blk_frozen BK383.out 0; have hfz12_1 := blk_frozen BK383.out 1) | ((with_reducible refine gate_callee (f := 8) rfl ?_); refine gL (some 30) Try.func8 #[.agg #[.int .i64 a0_0, .bool a0_1]] ?_; (with_reducible refine (laws_toRoad.calls a0_0 a0_1 t394 t395 _ A5.out).mono ?_); rintro e w13 ⟨rfl, hb⟩; refine ⟨_, rfl, ?_⟩; replace HO388 := A_ (Kd.R_below (rq HO388) hb); replace HO391 := A_ (Kd.R_below (rq HO391) hb); replace BK383 := A_ (blk_below (bq BK383) hb); replace HB := A_ (below_step (hq HB) hb); clear hb) | ((with_reducible refine gate_callee (f := 9) rfl ?_); refine gL (some 32) Try.func9 #[.agg #[.int .i64 t394, .bool t395], .int .i64 a1] ?_; (with_reducible refine (impl_BestPlans.calls k t394 t395 a1 t396 t399 t402 t403 _ A6.out).mono ?_); rintro e w14 ⟨v397, v400, rfl, ho0, ho1, hb⟩; refine ⟨_, rfl, ?_⟩; have HO398 := A_ (Kd.R_lower (Kd.R_new' (Kd.R_new' ho0 (Kd.R_lt (rq HO388))) (Kd.R_lt (rq HO391))) (below_size (hq HB))); have HO401 := A_ (Kd.R_lower (Kd.R_new' (Kd.R_new' ho1 (Kd.R_lt (rq HO388))) (Kd.R_lt (rq HO391))) (below_size (hq HB))); replace HO388 := A_ (Kd.R_mono (Kd.R_told (Kd.R_told (Kd.R_old (rq HO388) hb) (Kd.R_base ho0)) (Kd.R_base ho1)) (fun _ h_ => h_.1)); replace HO391 := A_ (Kd.R_mono (Kd.R_told (Kd.R_told (Kd.R_old (rq HO391) hb) (Kd.R_base ho0)) (Kd.R_base ho1)) (fun _ h_ => h_.1)); replace BK383 := A_ (blk_below (bq BK383) hb); replace HB := A_ (below_step (hq HB) hb); clear hb ho0 ho1))
 (try simp only [Act.put, List.setIfInBounds_toArray, List.set_cons_zero, List.set_cons_succ]); go_cut [56] from 19 to 56 (fun v56 wc => ∃ (kq : Nat) (x56_6 : Bool), v56 = .bool x56_6 ∧ Aside0 (laws_FnExactBestPlans.j0 kq a1 t386 t389 t392 t393 t396 t399 x56_6 a0_0 a0_1 = some r) ∧ Aside0 (kq ≤ k) ∧ Aside0 (Kd.R (Kd.int .i64) 3 wc w.heap.size (fun k_ => some k_ ≠ (v390 : Value).ownBlock ∧ some k_ ≠ (v397 : Value).ownBlock ∧ some k_ ≠ (v400 : Value).ownBlock) v387 t386) ∧ Aside0 (Kd.R (Kd.int .i64) 3 wc w.heap.size (fun k_ => some k_ ≠ (v387 : Value).ownBlock ∧ some k_ ≠ (v397 : Value).ownBlock ∧ some k_ ≠ (v400 : Value).ownBlock) v390 t389) ∧ Aside0 (Kd.R (Kd.int .i64) 3 wc w.heap.size (fun k_ => some k_ ≠ (v387 : Value).ownBlock ∧ some k_ ≠ (v390 : Value).ownBlock ∧ some k_ ≠ (v400 : Value).ownBlock) v397 t396) ∧ Aside0 (Kd.R (Kd.int .i64) 3 wc w.heap.size (fun k_ => some k_ ≠ (v387 : Value).ownBlock ∧ some k_ ≠ (v390 : Value).ownBlock ∧ some k_ ≠ (v397 : Value).ownBlock) v400 t399) ∧ Aside0 (wc.heap[gb383]? = some (.cells #[.int .i64 a0_0, .bool a0_1] 23 (0, 0))) ∧ Aside0 (Below w.heap.size w wc))
 case first =>
  as_aux_lemma =>
   have H := HC7.out; clear HC7; replace H := bm H; obtain ⟨t404, A15, H⟩ := H; by_cases c16 : t404 = true
   ·
    subst c16
    have H1 : ((laws_eqIntS.f k t399 t389).bind fun t405 => (if t405 = true then (if t402 = t392 then (laws_FnExactBestPlans.j0 k a1 t386 t389 t392 t393 t396 t399 (t403 != t393) a0_0 a0_1) else (laws_FnExactBestPlans.j0 k a1 t386 t389 t392 t393 t396 t399 true a0_0 a0_1)) else (laws_FnExactBestPlans.j0 k a1 t386 t389 t392 t393 t396 t399 true a0_0 a0_1))) = some r := by rw [if_pos rfl] at H; exact H
    clear H; have H := H1; clear H1; replace H := bm H; obtain ⟨t405, A17, H⟩ := H; by_cases c18 : t405 = true
    ·
     subst c18
     have H1 : (if t402 = t392 then (laws_FnExactBestPlans.j0 k a1 t386 t389 t392 t393 t396 t399 (t403 != t393) a0_0 a0_1) else (laws_FnExactBestPlans.j0 k a1 t386 t389 t392 t393 t396 t399 true a0_0 a0_1)) = some r := by rw [if_pos rfl] at H; exact H
     clear H; have H := H1; clear H1; by_cases c19 : t402 = t392
     ·
      rw [if_pos c19] at H; have c19b0 : (t402 == t392) = true := beq_iff_eq.mpr c19; have c19b1 : (t402 != t392) = false := bne_eq_false_iff_eq.mpr c19; clear c19; (first | rw [c19b0] | (simp only [i64_w, i32_w]; rw [c19b0]) | skip); have H' := A_ H; clear H; obtain ⟨Ao20, co20, eo20⟩ := Kd.R_slice HO398.out; subst eo20; obtain ⟨Ao21, co21, eo21⟩ := Kd.R_slice HO388.out; subst eo21; go_wp2_with (first | ((with_reducible refine gate_callee (f := 10) rfl ?_); refine gL (some 39) Try.func10 #[.slice Ao20 t396.length co20, .slice Ao21 t386.length co21] ?_; (with_reducible refine (laws_eqIntS.calls k _ _ t396 _ _ t386 true _ ?side1 ?side2 ?side3 ?side4 A15.out).mono ?_); (case side1 => exact cq (Kd.R_reads' HO398.out).2.2); (case side2 => exact (Kd.R_reads' HO398.out).2.1); (case side3 => exact cq (Kd.R_reads' HO388.out).2.2); (case side4 => exact (Kd.R_reads' HO388.out).2.1); rintro e w' ⟨rfl, ⟨nd, rfl⟩⟩; refine ⟨_, rfl, ?_⟩; obtain ⟨Ao22, co22, eo22⟩ := Kd.R_slice HO401.out; subst eo22; obtain ⟨Ao23, co23, eo23⟩ := Kd.R_slice HO391.out; subst eo23) | (go_at_call 10; (with_reducible refine (laws_eqIntS.calls k _ _ t399 _ _ t389 true _ ?side1 ?side2 ?side3 ?side4 A17.out).mono ?_); (case side1 => exact cq (Kd.R_reads' HO401.out).2.2); (case side2 => exact (Kd.R_reads' HO401.out).2.1); (case side3 => exact cq (Kd.R_reads' HO391.out).2.2); (case side4 => exact (Kd.R_reads' HO391.out).2.1); rintro e w' ⟨rfl, ⟨nd, rfl⟩⟩))
      go_meet
      case rel => exact ⟨_, ((t403 != t393)), rf, H', ⟨by first | omega | exact Nat.le_refl _⟩, ⟨by (with_reducible repeat (first | apply Kd.R_alloc | apply Kd.R_drewN | apply Kd.R_drew)); exact Kd.R_mono HO388.out (fun _ hk => ⟨hk.1.1, ⟨hk.1.2, hk.2⟩⟩)⟩, ⟨by (with_reducible repeat (first | apply Kd.R_alloc | apply Kd.R_drewN | apply Kd.R_drew)); exact Kd.R_mono HO391.out (fun _ hk => ⟨hk.1.1, ⟨hk.1.2, hk.2⟩⟩)⟩, ⟨by (with_reducible repeat (first | apply Kd.R_alloc | apply Kd.R_drewN | apply Kd.R_drew)); exact Kd.R_mono HO398.out (fun _ hk => ⟨hk.1.2, ⟨hk.2, hk.1.1⟩⟩)⟩, ⟨by (with_reducible repeat (first | apply Kd.R_alloc | apply Kd.R_drewN | apply Kd.R_drew)); exact Kd.R_mono HO401.out (fun _ hk => ⟨hk.1.2, ⟨hk.2, hk.1.1⟩⟩)⟩, ⟨bq BK383⟩, ⟨hq HB⟩⟩
     ·
      rw [if_neg c19] at H; have c19b0 : (t402 == t392) = false := beq_eq_false_iff_ne.mpr c19; have c19b1 : (t402 != t392) = true := bne_iff_ne.mpr c19; (first | rw [c19b0] | (simp only [i64_w, i32_w]; rw [c19b0]) | skip); exact (laws_FnExactBestPlans.bad0 H hr_).elim
    ·
     replace c18 := Bool.eq_false_iff.mpr c18; subst c18
     have H1 : (laws_FnExactBestPlans.j0 k a1 t386 t389 t392 t393 t396 t399 true a0_0 a0_1) = some r := by rw [if_neg (show ¬ (false = true) by decide)] at H; exact H
     clear H; have H := H1; clear H1; exact (laws_FnExactBestPlans.bad0 H hr_).elim
   ·
    replace c16 := Bool.eq_false_iff.mpr c16; subst c16
    have H1 : (laws_FnExactBestPlans.j0 k a1 t386 t389 t392 t393 t396 t399 true a0_0 a0_1) = some r := by rw [if_neg (show ¬ (false = true) by decide)] at H; exact H
    clear H; have H := H1; clear H1; exact (laws_FnExactBestPlans.bad0 H hr_).elim
 case rest =>
  as_aux_lemma =>
   clear HC7; (try clear c16); (try clear c18); (try clear c19); (try clear c19b0); (try clear c19b1); (try clear hcz12_0); (try clear hcz12_1); (try clear hcz9_0); (try clear hcz9_1); (try clear hfz12_0); (try clear hfz12_1); (try clear hfz9_0); (try clear hfz9_1); obtain ⟨kq, x56_6, rfl, HA, HJ6, HO_5, HO_6, HO_9, HO_10, BK383, HB⟩ := hcut
   cases kq with
   | zero => exact absurd HA.out (by simp [laws_FnExactBestPlans.j0])
   | succ kj6 =>
    have H := HA.out; clear HA; simp only [laws_FnExactBestPlans.j0] at H
    by_cases c34 : x56_6 = true
    ·
     subst c34
     have H1 : (some false) = some r := by rw [if_pos rfl] at H; exact H
     clear H; have H := H1; clear H1; obtain rfl := Option.some.inj H; exact absurd hr_ (by decide)
    ·
     as_aux_lemma =>
      replace c34 := Bool.eq_false_iff.mpr c34; subst c34
      have H1 : ((laws_markIntS.f kj6 t396 1).bind fun bt406 => ((laws_markIntS.f kj6 t399 bt406.1).bind fun bt408 => ((laws_heldIntS.f kj6 bt406.2 1).bind fun t410 => (if t410 < 0 then (some false) else ((laws_heldIntS.f kj6 bt408.2 t410).bind fun t411 => (if t411 < 0 then (some false) else (if t411 = bt408.1 then ((laws_toRoad.f a0_0 a0_1).bind fun bt412 => ((impl_BestPlans.f kj6 bt412.1 bt412.2 a1).bind fun bt414 => ((laws_eqIntS.f kj6 bt414.1 t386).bind fun t422 => (if t422 = true then ((laws_eqIntS.f kj6 bt414.2.1 t389).bind fun t423 => (if t423 = true then (if bt414.2.2.1 = t392 then (laws_FnExactBestPlans.j1 kj6 bt406.2 bt408.2 bt408.1 (bt414.2.2.2 != t393)) else (laws_FnExactBestPlans.j1 kj6 bt406.2 bt408.2 bt408.1 true)) else (laws_FnExactBestPlans.j1 kj6 bt406.2 bt408.2 bt408.1 true))) else (laws_FnExactBestPlans.j1 kj6 bt406.2 bt408.2 bt408.1 true))))) else (some false)))))))) = some r := by rw [if_neg (show ¬ (false = true) by decide)] at H; exact H
      clear H; have H := H1; clear H1; replace H := bm H; obtain ⟨⟨t406, t407⟩, A35, H⟩ := H; (try dsimp only at H); replace H := bm H; obtain ⟨⟨t408, t409⟩, A36, H⟩ := H; (try dsimp only at H); replace H := bm H; obtain ⟨t410, A37, H⟩ := H; by_cases c38 : t410 < 0
      ·
       rw [if_pos c38] at H; have c38b0 := decide_eq_true c38; clear c38; obtain rfl := Option.some.inj H; exact absurd hr_ (by decide)
      ·
       rw [if_neg c38] at H; have c38b0 := decide_eq_false c38; clear c38; replace H := bm H; obtain ⟨t411, A43, H⟩ := H; by_cases c44 : t411 < 0
       ·
        rw [if_pos c44] at H; have c44b0 := decide_eq_true c44; clear c44; obtain rfl := Option.some.inj H; exact absurd hr_ (by decide)
       ·
        rw [if_neg c44] at H; have c44b0 := decide_eq_false c44; clear c44; by_cases c49 : t411 = t408
        ·
         rw [if_pos c49] at H; have c49b0 : (t411 == t408) = true := beq_iff_eq.mpr c49; have c49b1 : (t411 != t408) = false := bne_eq_false_iff_eq.mpr c49; clear c49; replace H := bm H; obtain ⟨⟨t412, t413⟩, A50, H⟩ := H; (try dsimp only at H); replace H := bm H; obtain ⟨⟨t414, t417, t420, t421⟩, A51, H⟩ := H; (try dsimp only at H); have HC52 := A_ H; clear H; obtain ⟨Ao53, co53, eo53⟩ := Kd.R_slice HO_9.out; subst eo53; go_upto_region 18 with (first | ((with_reducible refine gate_callee (f := 11) rfl ?_); refine gL (some 59) Try.func11 #[.slice Ao53 t396.length co53, .int .i64 1] ?_; (with_reducible refine (laws_markIntS.calls kj6 (fun k_ => some k_ = (.slice Ao53 t396.length co53 : Value).ownBlock) (.slice Ao53 t396.length co53) t396 1 t406 t407 w _ ?side1 ?side2 A35.out).mono ?_); (case side1 => repeat (first | (with_reducible first | exact HB.out | apply below_alloc | apply pw_below_drewN | apply below_drew1 | refine below_set ?_ GE383.out) | exact HB.out)); (case side2 => exact Kd.R_tight rfl HO_9.out); rintro e w54 ⟨rfl, hy0, hb, hkp⟩; refine ⟨_, rfl, ?_⟩; replace HO_5 := A_ (Kd.R_mono (ok' := fun k_ => some k_ ≠ (v390 : Value).ownBlock ∧ some k_ ≠ (.slice Ao53 t396.length co53 : Value).ownBlock ∧ some k_ ≠ (v400 : Value).ownBlock) (Kd.R_keptB (HO_5.out) hkp (fun k_ hk_ hs_ => (hk_.2.1) hs_)) (fun k_ hk_ => ⟨hk_.1.1, hk_.1.2.1, hk_.1.2.2⟩)); replace HO_6 := A_ (Kd.R_mono (ok' := fun k_ => some k_ ≠ (v387 : Value).ownBlock ∧ some k_ ≠ (.slice Ao53 t396.length co53 : Value).ownBlock ∧ some k_ ≠ (v400 : Value).ownBlock) (Kd.R_keptB (HO_6.out) hkp (fun k_ hk_ hs_ => (hk_.2.1) hs_)) (fun k_ hk_ => ⟨hk_.1.1, hk_.1.2.1, hk_.1.2.2⟩)); replace HO_10 := A_ (Kd.R_mono (ok' := fun k_ => some k_ ≠ (v387 : Value).ownBlock ∧ some k_ ≠ (v390 : Value).ownBlock ∧ some k_ ≠ (.slice Ao53 t396.length co53 : Value).ownBlock) (Kd.R_keptB (HO_10.out) hkp (fun k_ hk_ hs_ => (hk_.2.2) hs_)) (fun k_ hk_ => ⟨hk_.1.1, hk_.1.2.1, hk_.1.2.2⟩)); replace BK383 := A_ (blk_kept (bq BK383) hkp (fun hs_ => (fun e_ => (Kd.R_ne HO_9.out BK383.out (by decide)) e_) hs_)); replace HO_9 := A_ (Kd.R_reok rfl hy0 (fun k_ e_ => HO_9.out.1 k_ e_)); replace HB := A_ (hb); clear hb hkp hy0; obtain ⟨Ao55, co55, eo55⟩ := Kd.R_slice HO_10.out; subst eo55) | ((with_reducible refine gate_callee (f := 11) rfl ?_); refine gL (some 62) Try.func11 #[.slice Ao55 t399.length co55, .int .i64 t406] ?_; (with_reducible refine (laws_markIntS.calls kj6 (fun k_ => some k_ = (.slice Ao55 t399.length co55 : Value).ownBlock) (.slice Ao55 t399.length co55) t399 t406 t408 t409 w _ ?side1 ?side2 A36.out).mono ?_); (case side1 => repeat (first | (with_reducible first | exact HB.out | apply below_alloc | apply pw_below_drewN | apply below_drew1 | refine below_set ?_ GE383.out) | exact HB.out)); (case side2 => exact Kd.R_tight rfl HO_10.out); rintro e w56 ⟨rfl, hy0, hb, hkp⟩; refine ⟨_, rfl, ?_⟩; replace HO_5 := A_ (Kd.R_mono (ok' := fun k_ => some k_ ≠ (v390 : Value).ownBlock ∧ some k_ ≠ (.slice Ao53 t396.length co53 : Value).ownBlock ∧ some k_ ≠ (.slice Ao55 t399.length co55 : Value).ownBlock) (Kd.R_keptB (HO_5.out) hkp (fun k_ hk_ hs_ => (hk_.2.2) hs_)) (fun k_ hk_ => ⟨hk_.1.1, hk_.1.2.1, hk_.1.2.2⟩)); replace HO_6 := A_ (Kd.R_mono (ok' := fun k_ => some k_ ≠ (v387 : Value).ownBlock ∧ some k_ ≠ (.slice Ao53 t396.length co53 : Value).ownBlock ∧ some k_ ≠ (.slice Ao55 t399.length co55 : Value).ownBlock) (Kd.R_keptB (HO_6.out) hkp (fun k_ hk_ hs_ => (hk_.2.2) hs_)) (fun k_ hk_ => ⟨hk_.1.1, hk_.1.2.1, hk_.1.2.2⟩)); replace HO_9 := A_ (Kd.R_mono (ok' := fun k_ => some k_ ≠ (v387 : Value).ownBlock ∧ some k_ ≠ (v390 : Value).ownBlock ∧ some k_ ≠ (.slice Ao55 t399.length co55 : Value).ownBlock) (Kd.R_keptB (HO_9.out) hkp (fun k_ hk_ hs_ => (hk_.2.2) hs_)) (fun k_ hk_ => ⟨hk_.1.1, hk_.1.2.1, hk_.1.2.2⟩)); replace BK383 := A_ (blk_kept (bq BK383) hkp (fun hs_ => (fun e_ => (Kd.R_ne HO_10.out BK383.out (by decide)) e_) hs_)); replace HO_10 := A_ (Kd.R_reok rfl hy0 (fun k_ e_ => HO_10.out.1 k_ e_)); replace HB := A_ (hb); clear hb hkp hy0) | ((with_reducible refine gate_callee (f := 12) rfl ?_); refine goesL_ (some 65) rfl rfl Try.func12 (by kernel_rfl) rfl #[.slice Ao53 t407.length co53, .int .i64 1] rfl (by (try simp only [List.map_toArray, List.map_cons, List.map_nil]); first | done | (rw [show t407.length = t396.length from (Kd.R_reads' HO_9.out).1.symm] <;> rfl) | rfl | (simp only [List.length_drop, List.length_take]; rfl)) ?_; (with_reducible refine (laws_heldIntS.calls kj6 _ _ t407 1 t410 _ ?side1 ?side2 A37.out).mono ?_); (case side1 => exact cq (Kd.R_reads' HO_9.out).2.2); (case side2 => rw [show t407.length = t396.length from (Kd.R_reads' HO_9.out).1.symm]; exact (Kd.R_reads' HO_9.out).2.1); rintro e w' ⟨rfl, ⟨nd, rfl⟩⟩; refine ⟨_, rfl, ?_⟩) | ((with_reducible refine gate_callee (f := 12) rfl ?_); refine goesL_ (some 70) rfl rfl Try.func12 (by kernel_rfl) rfl #[.slice Ao55 t409.length co55, .int .i64 t410] rfl (by (try simp only [List.map_toArray, List.map_cons, List.map_nil]); first | done | (rw [show t409.length = t399.length from (Kd.R_reads' HO_10.out).1.symm] <;> rfl) | rfl | (simp only [List.length_drop, List.length_take]; rfl)) ?_; (with_reducible refine (laws_heldIntS.calls kj6 _ _ t409 t410 t411 _ ?side1 ?side2 A43.out).mono ?_); (case side1 => exact cq (Kd.R_reads' HO_10.out).2.2); (case side2 => rw [show t409.length = t399.length from (Kd.R_reads' HO_10.out).1.symm]; exact (Kd.R_reads' HO_10.out).2.1); rintro e w' ⟨rfl, ⟨nd, rfl⟩⟩; refine ⟨_, rfl, ?_⟩; have hcz57_0 : w56.cell? ⟨gb383, 0, none⟩ = some (.int .i64 a0_0) := bc BK383 0; have hcz57_1 : w56.cell? ⟨gb383, 1, none⟩ = some (.bool a0_1) := bc BK383 1; have hfz57_0 := blk_frozen BK383.out 0; have hfz57_1 := blk_frozen BK383.out 1) | ((with_reducible refine gate_callee (f := 8) rfl ?_); refine gL (some 78) Try.func8 #[.agg #[.int .i64 a0_0, .bool a0_1]] ?_; (with_reducible refine (laws_toRoad.calls a0_0 a0_1 t412 t413 _ A50.out).mono ?_); rintro e w58 ⟨rfl, hb⟩; refine ⟨_, rfl, ?_⟩; replace HO_5 := A_ (Kd.R_below (rq HO_5) hb); replace HO_6 := A_ (Kd.R_below (rq HO_6) hb); replace HO_9 := A_ (Kd.R_below (rq HO_9) hb); replace HO_10 := A_ (Kd.R_below (rq HO_10) hb); replace BK383 := A_ (blk_below (bq BK383) hb); replace HB := A_ (below_step (hq HB) hb); clear hb) | ((with_reducible refine gate_callee (f := 9) rfl ?_); refine gL (some 80) Try.func9 #[.agg #[.int .i64 t412, .bool t413], .int .i64 a1] ?_; (with_reducible refine (impl_BestPlans.calls kj6 t412 t413 a1 t414 t417 t420 t421 _ A51.out).mono ?_); rintro e w59 ⟨v415, v418, rfl, ho0, ho1, hb⟩; refine ⟨_, rfl, ?_⟩; have HO416 := A_ (Kd.R_lower (Kd.R_new' (Kd.R_new' (Kd.R_new' (Kd.R_new' ho0 (Kd.R_lt (rq HO_5))) (Kd.R_lt (rq HO_6))) (Kd.R_lt (rq HO_9))) (Kd.R_lt (rq HO_10))) (below_size (hq HB))); have HO419 := A_ (Kd.R_lower (Kd.R_new' (Kd.R_new' (Kd.R_new' (Kd.R_new' ho1 (Kd.R_lt (rq HO_5))) (Kd.R_lt (rq HO_6))) (Kd.R_lt (rq HO_9))) (Kd.R_lt (rq HO_10))) (below_size (hq HB))); replace HO_5 := A_ (Kd.R_mono (Kd.R_told (Kd.R_told (Kd.R_old (rq HO_5) hb) (Kd.R_base ho0)) (Kd.R_base ho1)) (fun _ h_ => h_.1)); replace HO_6 := A_ (Kd.R_mono (Kd.R_told (Kd.R_told (Kd.R_old (rq HO_6) hb) (Kd.R_base ho0)) (Kd.R_base ho1)) (fun _ h_ => h_.1)); replace HO_9 := A_ (Kd.R_mono (Kd.R_told (Kd.R_told (Kd.R_old (rq HO_9) hb) (Kd.R_base ho0)) (Kd.R_base ho1)) (fun _ h_ => h_.1)); replace HO_10 := A_ (Kd.R_mono (Kd.R_told (Kd.R_told (Kd.R_old (rq HO_10) hb) (Kd.R_base ho0)) (Kd.R_base ho1)) (fun _ h_ => h_.1)); replace BK383 := A_ (blk_below (bq BK383) hb); replace HB := A_ (below_step (hq HB) hb); clear hb ho0 ho1))
         (try simp only [Act.put, List.setIfInBounds_toArray, List.set_cons_zero, List.set_cons_succ]); go_cut [104] from 57 to 104 (fun v104 wc => ∃ (kq : Nat) (x104_51 : Bool), v104 = .bool x104_51 ∧ Aside0 (laws_FnExactBestPlans.j1 kq t407 t409 t408 x104_51 = some r) ∧ Aside0 (kq ≤ kj6) ∧ Aside0 (Kd.R (Kd.int .i64) 3 wc w.heap.size (fun k_ => some k_ ≠ ((.slice Ao55 t399.length co55) : Value).ownBlock) (.slice Ao53 t396.length co53) t407) ∧ Aside0 (Kd.R (Kd.int .i64) 3 wc w.heap.size (fun k_ => some k_ ≠ ((.slice Ao53 t396.length co53) : Value).ownBlock) (.slice Ao55 t399.length co55) t409) ∧ Aside0 (wc.heap[gb383]? = some (.cells #[.int .i64 a0_0, .bool a0_1] 23 (0, 0))) ∧ Aside0 (Below w.heap.size w wc))
         case first =>
          as_aux_lemma =>
           have H := HC52.out; clear HC52; replace H := bm H; obtain ⟨t422, A60, H⟩ := H; by_cases c61 : t422 = true
           ·
            subst c61
            have H1 : ((laws_eqIntS.f kj6 t417 t389).bind fun t423 => (if t423 = true then (if t420 = t392 then (laws_FnExactBestPlans.j1 kj6 t407 t409 t408 (t421 != t393)) else (laws_FnExactBestPlans.j1 kj6 t407 t409 t408 true)) else (laws_FnExactBestPlans.j1 kj6 t407 t409 t408 true))) = some r := by rw [if_pos rfl] at H; exact H
            clear H; have H := H1; clear H1; replace H := bm H; obtain ⟨t423, A62, H⟩ := H; by_cases c63 : t423 = true
            ·
             subst c63
             have H1 : (if t420 = t392 then (laws_FnExactBestPlans.j1 kj6 t407 t409 t408 (t421 != t393)) else (laws_FnExactBestPlans.j1 kj6 t407 t409 t408 true)) = some r := by rw [if_pos rfl] at H; exact H
             clear H; have H := H1; clear H1; by_cases c64 : t420 = t392
             ·
              rw [if_pos c64] at H; have c64b0 : (t420 == t392) = true := beq_iff_eq.mpr c64; have c64b1 : (t420 != t392) = false := bne_eq_false_iff_eq.mpr c64; clear c64; (first | rw [c64b0] | (simp only [i64_w, i32_w]; rw [c64b0]) | skip); have H' := A_ H; clear H; obtain ⟨Ao65, co65, eo65⟩ := Kd.R_slice HO416.out; subst eo65; obtain ⟨Ao66, co66, eo66⟩ := Kd.R_slice HO_5.out; subst eo66; go_wp2_with (first | ((with_reducible refine gate_callee (f := 10) rfl ?_); refine gL (some 87) Try.func10 #[.slice Ao65 t414.length co65, .slice Ao66 t386.length co66] ?_; (with_reducible refine (laws_eqIntS.calls kj6 _ _ t414 _ _ t386 true _ ?side1 ?side2 ?side3 ?side4 A60.out).mono ?_); (case side1 => exact cq (Kd.R_reads' HO416.out).2.2); (case side2 => exact (Kd.R_reads' HO416.out).2.1); (case side3 => exact cq (Kd.R_reads' HO_5.out).2.2); (case side4 => exact (Kd.R_reads' HO_5.out).2.1); rintro e w' ⟨rfl, ⟨nd, rfl⟩⟩; refine ⟨_, rfl, ?_⟩; obtain ⟨Ao67, co67, eo67⟩ := Kd.R_slice HO419.out; subst eo67; obtain ⟨Ao68, co68, eo68⟩ := Kd.R_slice HO_6.out; subst eo68) | (go_at_call 10; (with_reducible refine (laws_eqIntS.calls kj6 _ _ t417 _ _ t389 true _ ?side1 ?side2 ?side3 ?side4 A62.out).mono ?_); (case side1 => exact cq (Kd.R_reads' HO419.out).2.2); (case side2 => exact (Kd.R_reads' HO419.out).2.1); (case side3 => exact cq (Kd.R_reads' HO_6.out).2.2); (case side4 => exact (Kd.R_reads' HO_6.out).2.1); rintro e w' ⟨rfl, ⟨nd, rfl⟩⟩))
              go_meet
              case rel => exact ⟨_, ((t421 != t393)), rf, H', ⟨by have := HJ6.out; first | omega | exact Nat.le_refl _⟩, ⟨rm HO_9⟩, ⟨rm HO_10⟩, ⟨bq BK383⟩, ⟨hq HB⟩⟩
             ·
              rw [if_neg c64] at H; have c64b0 : (t420 == t392) = false := beq_eq_false_iff_ne.mpr c64; have c64b1 : (t420 != t392) = true := bne_iff_ne.mpr c64; (first | rw [c64b0] | (simp only [i64_w, i32_w]; rw [c64b0]) | skip); exact (laws_FnExactBestPlans.bad1 H hr_).elim
            ·
             replace c63 := Bool.eq_false_iff.mpr c63; subst c63
             have H1 : (laws_FnExactBestPlans.j1 kj6 t407 t409 t408 true) = some r := by rw [if_neg (show ¬ (false = true) by decide)] at H; exact H
             clear H; have H := H1; clear H1; exact (laws_FnExactBestPlans.bad1 H hr_).elim
           ·
            replace c61 := Bool.eq_false_iff.mpr c61; subst c61
            have H1 : (laws_FnExactBestPlans.j1 kj6 t407 t409 t408 true) = some r := by rw [if_neg (show ¬ (false = true) by decide)] at H; exact H
            clear H; have H := H1; clear H1; exact (laws_FnExactBestPlans.bad1 H hr_).elim
         case rest =>
          as_aux_lemma =>
           clear HC52; (try clear c16); (try clear c18); (try clear c19); (try clear c19b0); (try clear c19b1); (try clear c34); (try clear c38); (try clear c38b0); (try clear c44); (try clear c44b0); (try clear c49); (try clear c49b0); (try clear c49b1); (try clear c61); (try clear c63); (try clear c64); (try clear c64b0); (try clear c64b1); (try clear hcz12_0); (try clear hcz12_1); (try clear hcz57_0); (try clear hcz57_1); (try clear hcz9_0); (try clear hcz9_1); (try clear hfz12_0); (try clear hfz12_1); (try clear hfz57_0); (try clear hfz57_1); (try clear hfz9_0); (try clear hfz9_1); obtain ⟨kq, x104_51, rfl, HA, HJ51, HO_9, HO_10, BK383, HB⟩ := hcut; have hl9_51 := (Kd.R_reads' HO_9.out).1; rw [hl9_51] at HO_9; (try simp only [hl9_51]); (try simp only [hl9_51] at BK383); (try simp only [hl9_51] at HO_10); have hl10_51 := (Kd.R_reads' HO_10.out).1; rw [hl10_51] at HO_10; (try simp only [hl10_51]); (try simp only [hl10_51] at BK383); (try simp only [hl10_51] at HO_9)
           cases kq with
           | zero => exact absurd HA.out (by simp [laws_FnExactBestPlans.j1])
           | succ kj51 =>
            have H := HA.out; clear HA; simp only [laws_FnExactBestPlans.j1] at H
            by_cases c79 : x104_51 = true
            ·
             subst c79
             have H1 : (some false) = some r := by rw [if_pos rfl] at H; exact H
             clear H; have H := H1; clear H1; obtain rfl := Option.some.inj H; exact absurd hr_ (by decide)
            ·
             replace c79 := Bool.eq_false_iff.mpr c79; subst c79
             have H1 : ((laws_heldIntS.f kj51 t407 1).bind fun t424 => (if t424 < 0 then (some false) else ((laws_heldIntS.f kj51 t409 t424).bind fun t425 => (if t425 < 0 then (some false) else (if t425 = t408 then (some true) else (some false)))))) = some r := by rw [if_neg (show ¬ (false = true) by decide)] at H; exact H
             clear H; have H := H1; clear H1; replace H := bm H; obtain ⟨t424, A80, H⟩ := H; by_cases c81 : t424 < 0
             ·
              rw [if_pos c81] at H; have c81b0 := decide_eq_true c81; clear c81; obtain rfl := Option.some.inj H; exact absurd hr_ (by decide)
             ·
              rw [if_neg c81] at H; have c81b0 := decide_eq_false c81; clear c81; replace H := bm H; obtain ⟨t425, A82, H⟩ := H; by_cases c83 : t425 < 0
              ·
               rw [if_pos c83] at H; have c83b0 := decide_eq_true c83; clear c83; obtain rfl := Option.some.inj H; exact absurd hr_ (by decide)
              ·
               rw [if_neg c83] at H; have c83b0 := decide_eq_false c83; clear c83; by_cases c84 : t425 = t408
               ·
                rw [if_pos c84] at H; have c84b0 : (t425 == t408) = true := beq_iff_eq.mpr c84; have c84b1 : (t425 != t408) = false := bne_eq_false_iff_eq.mpr c84; clear c84; obtain rfl := Option.some.inj H; go_wp2_with (first | ((with_reducible refine gate_callee (f := 12) rfl ?_); refine gL (some 107) Try.func12 #[.slice Ao53 t407.length co53, .int .i64 1] ?_; (with_reducible refine (laws_heldIntS.calls kj51 _ _ t407 1 t424 _ ?side1 ?side2 A80.out).mono ?_); (case side1 => exact cq (Kd.R_reads' HO_9.out).2.2); (case side2 => exact (Kd.R_reads' HO_9.out).2.1); rintro e w' ⟨rfl, ⟨nd, rfl⟩⟩; refine ⟨_, rfl, ?_⟩) | ((with_reducible refine gate_callee (f := 12) rfl ?_); refine gL (some 112) Try.func12 #[.slice Ao55 t409.length co55, .int .i64 t424] ?_; (with_reducible refine (laws_heldIntS.calls kj51 _ _ t409 t424 t425 _ ?side1 ?side2 A82.out).mono ?_); (case side1 => exact cq (Kd.R_reads' HO_10.out).2.2); (case side2 => exact (Kd.R_reads' HO_10.out).2.1); rintro e w' ⟨rfl, ⟨nd, rfl⟩⟩; refine ⟨_, rfl, ?_⟩))
                go_ret
                exact ⟨rt, hq HB⟩
               ·
                rw [if_neg c84] at H; have c84b0 : (t425 == t408) = false := beq_eq_false_iff_ne.mpr c84; have c84b1 : (t425 != t408) = true := bne_iff_ne.mpr c84; obtain rfl := Option.some.inj H; exact absurd hr_ (by decide)
        ·
         rw [if_neg c49] at H; have c49b0 : (t411 == t408) = false := beq_eq_false_iff_ne.mpr c49; have c49b1 : (t411 != t408) = true := bne_iff_ne.mpr c49; obtain rfl := Option.some.inj H; exact absurd hr_ (by decide)
end Go.Proofs.Ythgbkekfekcfaaa.PFnExactBestPlans
