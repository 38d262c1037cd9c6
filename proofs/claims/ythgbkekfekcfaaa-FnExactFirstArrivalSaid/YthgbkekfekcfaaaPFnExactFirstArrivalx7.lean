-- Told shorter still by shrink2.py.
-- Printed, and told shorter by this session's program shrink.py.
-- Printed by this session's program myprint.py.
import Derived.Test.YthgbkekfekcfaaaPFnExactFirstArrivalx0
import Derived.Test.YthgbkekfekcfaaaPFnExactFirstArrivalx1
import Derived.Test.YthgbkekfekcfaaaPFnExactFirstArrivalx4
import Derived.Test.YthgbkekfekcfaaaPFnExactFirstArrivalx6
namespace Go.Proofs.Ythgbkekfekcfaaa.PFnExactFirstArrival
open Go.RowKit Go.Proofs.Ythgbkekfekcfaaa.Own Go.Proofs.YthgbkekfekcfaaaW.PrintWords Go.Proofs.YthgbkekfekcfaaaW.PrintLast Go.Proofs.YthgbkekfekcfaaaW.PrintMore
attribute [local go_sem] max2_int min2_int max_two min_two max_three min_three max_four min_four   -- for this text's walks alone
set_option linter.unusedVariables false
set_option linter.unusedSimpArgs false

/-! ### impl_FirstArrival: function 19 -/
def impl_FirstArrival.f (k : Nat) (a0_0 : Int) (a0_1 : Bool) (l1 : List (S61)) (a2 : Int) (a3 : Int) : Option (Int × Bool) := (impl_least__Road_arrives.f k a0_0 a0_1 l1 a2 a3 a0_0 a0_1).bind fun bt272 => (some (bt272.1, bt272.2))
theorem impl_FirstArrival.mono : ∀ a0 a1 a2 a3 a4 k, LeO (impl_FirstArrival.f k a0 a1 a2 a3 a4) (impl_FirstArrival.f (k + 1) a0 a1 a2 a3 a4) := by
  intro a0 a1 a2 a3 a4 k
  unfold impl_FirstArrival.f
  repeat' first
      | (with_reducible exact impl_least__Road_arrives.mono _ _ _ _ _ _ _ _)
      | (with_reducible exact LeO.refl _)
      | (with_reducible exact LeO.none _)
      | (with_reducible refine LeO.ite ?_ ?_)
      | (with_reducible refine LeO.bind ?_ (fun _ => ?_))
      | exact impl_least__Road_arrives.mono _ _ _ _ _ _ _ _
      | exact LeO.none _
      | refine LeO.ite ?_ ?_
      | refine LeO.bind ?_ (fun _ => ?_)
set_option maxHeartbeats 8000000 in
set_option maxRecDepth 100000 in
theorem impl_FirstArrival.calls (k : Nat) (a0_0 : Int) (a0_1 : Bool) (A1 : Option Addr) (c1 : Nat) (l1 : List (S61)) (a2 : Int) (a3 : Int) (r1 : Int) (r2 : Bool) (w : World) (hr1 : Kd.C k61 w A1 l1.length l1) (hc1 : l1.length ≤ c1) (h : impl_FirstArrival.f k a0_0 a0_1 l1 a2 a3 = some (r1, r2)) :
    Calls Try.prog 19 #[.agg #[.int .i64 a0_0, .bool a0_1], .slice A1 l1.length c1, .int .i64 a2, .int .i64 a3] w fun e w' => e = .returned (.tuple #[.int .i64 r1, .bool r2]) ∧ Below w.heap.size w w' := by
 have hu27 := Try.underlying27; have HR1 := A_ hr1; have HC1 := A_ hc1; clear hr1 hc1; have HB := A_ (Below.refl w.heap.size w); have H : ((impl_least__Road_arrives.f k a0_0 a0_1 l1 a2 a3 a0_0 a0_1).bind fun bt272 => (some (bt272.1, bt272.2))) = some (r1, r2) := h; clear h; replace H := bm H; obtain ⟨⟨t272, t273⟩, A5, H⟩ := H; (try dsimp only at H); simp only [Option.some.injEq, Prod.mk.injEq] at H
 obtain ⟨rfl, rfl⟩ := H; go_enter Try.func19, Try.ntmps19
 go_wp2_with (first | ((with_reducible refine gate_dst (N := 4) rfl ?_); refine bx (N := 4) #[.int .i64 a0_0, .bool a0_1] 27 ?_; intro gb271 hg w6 hbox hb; have BK271 := A_ (hbox); have GW271 := A_ (bs hg (hq HB) : w.heap.size ≤ gb271); have GE271 := A_ (bs hg (hq HB) : w.heap.size ≤ gb271); replace HB := A_ (below_step (hq HB) hb); clear hb hbox hg; have hcz7_0 : w6.cell? ⟨gb271, 0, none⟩ = some (.int .i64 a0_0) := bc BK271 0; have hcz7_1 : w6.cell? ⟨gb271, 1, none⟩ = some (.bool a0_1) := bc BK271 1; have hfz7_0 := blk_frozen BK271.out 0; have hfz7_1 := blk_frozen BK271.out 1) | ((with_reducible refine gate_callee (f := 39) rfl ?_); refine gL (some 16) Try.func39 #[.agg #[.int .i64 a0_0, .bool a0_1], .slice A1 l1.length c1, .int .i64 a2, .int .i64 a3, .func (.func 43) #[.agg #[.int .i64 a0_0, .bool a0_1]] #[]] ?_; (with_reducible refine (impl_least__Road_arrives.calls k a0_0 a0_1 _ _ l1 a2 a3 a0_0 a0_1 t272 t273 _ ?side1 ?side2 A5.out).mono ?_); (case side1 => exact cq (Kd.C_below HR1.out HB.out)); (case side2 => exact HC1.out); rintro e w8 ⟨rfl, hb⟩; refine ⟨_, rfl, ?_⟩; replace BK271 := A_ (blk_below (bq BK271) hb); replace HB := A_ (below_step (hq HB) hb); clear hb))
 go_ret2
 exact ⟨rt, hq HB⟩

/-! ### laws_FnExactFirstArrival: function 5 -/
def laws_FnExactFirstArrival.j0 : Nat → List (S63) → List (S61) → Bool → Option (Bool)
  | 0, _, _, _ => none
  | k + 1, x1, x12, x48 => if x48 = true then (some false) else ((laws_toCarrierS.f k x1).bind fun t290 => ((laws_eqCarrierS.f k x12 t290).bind fun t293 => (if t293 = true then (some true) else (some false))))
def laws_FnExactFirstArrival.f (k : Nat) (a0_0 : Int) (a0_1 : Bool) (l1 : List (S63)) (a2 : Int) (a3 : Int) : Option (Bool) := (laws_szCarrierS.f l1 1048576).bind fun t275 => (if t275 < 0 then (some true) else ((laws_toRoad.f a0_0 a0_1).bind fun bt276 => ((laws_toCarrierS.f k l1).bind fun t278 => ((spec_FirstArrival.f k bt276.1 bt276.2 t278 a2 a3).bind fun bt281 => ((laws_toCarrierS.f k l1).bind fun t283 => ((laws_toRoad.f a0_0 a0_1).bind fun bt286 => ((impl_FirstArrival.f k bt286.1 bt286.2 t283 a2 a3).bind fun bt288 => (if bt288.1 = bt281.1 then (laws_FnExactFirstArrival.j0 k l1 t283 (bt288.2 != bt281.2)) else (laws_FnExactFirstArrival.j0 k l1 t283 true)))))))))
theorem laws_FnExactFirstArrival.bad0 {k} {r : Bool} {y0 y1} (h : laws_FnExactFirstArrival.j0 k y0 y1 true = some r) (hr : r = true) : False := by subst hr; cases k <;> simp [laws_FnExactFirstArrival.j0] at h
set_option maxHeartbeats 100000000 in
set_option maxRecDepth 100000 in
theorem laws_FnExactFirstArrival.calls (k : Nat) (a0_0 : Int) (a0_1 : Bool) (A1 : Option Addr) (c1 : Nat) (l1 : List (S63)) (a2 : Int) (a3 : Int) (r : Bool) (hr_ : r = true) (w : World) (hr1 : Kd.C k63 w A1 l1.length l1) (hc1 : l1.length ≤ c1) (h : laws_FnExactFirstArrival.f k a0_0 a0_1 l1 a2 a3 = some r) :
    Calls Try.prog 5 #[.agg #[.int .i64 a0_0, .bool a0_1], .slice A1 l1.length c1, .int .i64 a2, .int .i64 a3] w fun e w' => e = .returned (.bool r) ∧ Below w.heap.size w w' := by
 have hu23 := Try.underlying23; have HR1 := A_ hr1; have HC1 := A_ hc1; clear hr1 hc1; have HB := A_ (Below.refl w.heap.size w); have H : ((laws_szCarrierS.f l1 1048576).bind fun t275 => (if t275 < 0 then (some true) else ((laws_toRoad.f a0_0 a0_1).bind fun bt276 => ((laws_toCarrierS.f k l1).bind fun t278 => ((spec_FirstArrival.f k bt276.1 bt276.2 t278 a2 a3).bind fun bt281 => ((laws_toCarrierS.f k l1).bind fun t283 => ((laws_toRoad.f a0_0 a0_1).bind fun bt286 => ((impl_FirstArrival.f k bt286.1 bt286.2 t283 a2 a3).bind fun bt288 => (if bt288.1 = bt281.1 then (laws_FnExactFirstArrival.j0 k l1 t283 (bt288.2 != bt281.2)) else (laws_FnExactFirstArrival.j0 k l1 t283 true)))))))))) = some r := h; clear h; replace H := bm H; obtain ⟨t275, A5, H⟩ := H; by_cases c6 : t275 < 0
 ·
  rw [if_pos c6] at H; have c6b0 := decide_eq_true c6; clear c6; obtain rfl := Option.some.inj H; go_enter Try.func5, Try.ntmps5
  go_wp2_with (first | ((with_reducible refine gate_dst (N := 4) rfl ?_); refine bx (N := 4) #[.int .i64 a0_0, .bool a0_1] 23 ?_; intro gb274 hg w7 hbox hb; have BK274 := A_ (hbox); have GW274 := A_ (bs hg (hq HB) : w.heap.size ≤ gb274); have GE274 := A_ (bs hg (hq HB) : w.heap.size ≤ gb274); replace HB := A_ (below_step (hq HB) hb); clear hb hbox hg) | ((with_reducible refine gate_callee (f := 13) rfl ?_); refine gL (some 17) Try.func13 #[.slice A1 l1.length c1, .int .i64 1048576] ?_; (with_reducible refine (laws_szCarrierS.calls _ _ l1 1048576 t275 _ ?side1 ?side2 A5.out).mono ?_); (case side1 => exact cq (Kd.C_below HR1.out HB.out)); (case side2 => exact HC1.out); rintro e w' ⟨rfl, ⟨nd, rfl⟩⟩; refine ⟨_, rfl, ?_⟩))
  go_ret
  exact ⟨rt, hq HB⟩
 ·
  rw [if_neg c6] at H; have c6b0 := decide_eq_false c6; clear c6; replace H := bm H; obtain ⟨⟨t276, t277⟩, A8, H⟩ := H; (try dsimp only at H); replace H := bm H; obtain ⟨t278, A9, H⟩ := H; replace H := bm H; obtain ⟨⟨t281, t282⟩, A10, H⟩ := H; (try dsimp only at H); replace H := bm H; obtain ⟨t283, A11, H⟩ := H; replace H := bm H; obtain ⟨⟨t286, t287⟩, A12, H⟩ := H; (try dsimp only at H); replace H := bm H; obtain ⟨⟨t288, t289⟩, A13, H⟩ := H; (try dsimp only at H); have HC14 := A_ H; clear H; go_enter Try.func5, Try.ntmps5
  go_upto_region 8 with (first | ((with_reducible refine gate_dst (N := 4) rfl ?_); refine bx (N := 4) #[.int .i64 a0_0, .bool a0_1] 23 ?_; intro gb274 hg w15 hbox hb; have BK274 := A_ (hbox); have GW274 := A_ (bs hg (hq HB) : w.heap.size ≤ gb274); have GE274 := A_ (bs hg (hq HB) : w.heap.size ≤ gb274); replace HB := A_ (below_step (hq HB) hb); clear hb hbox hg) | ((with_reducible refine gate_callee (f := 13) rfl ?_); refine gL (some 17) Try.func13 #[.slice A1 l1.length c1, .int .i64 1048576] ?_; (with_reducible refine (laws_szCarrierS.calls _ _ l1 1048576 t275 _ ?side1 ?side2 A5.out).mono ?_); (case side1 => exact cq (Kd.C_below HR1.out HB.out)); (case side2 => exact HC1.out); rintro e w' ⟨rfl, ⟨nd, rfl⟩⟩; refine ⟨_, rfl, ?_⟩; have hcz16_0 : w15.cell? ⟨gb274, 0, none⟩ = some (.int .i64 a0_0) := bc BK274 0; have hcz16_1 : w15.cell? ⟨gb274, 1, none⟩ = some (.bool a0_1) := bc BK274 1; have hfz16_0 := blk_frozen BK274.out 0; have hfz16_1 := blk_frozen BK274.out 1) | ((with_reducible refine gate_callee (f := 8) rfl ?_); refine gL (some 22) Try.func8 #[.agg #[.int .i64 a0_0, .bool a0_1]] ?_; (with_reducible refine (laws_toRoad.calls a0_0 a0_1 t276 t277 _ A8.out).mono ?_); rintro e w17 ⟨rfl, hb⟩; refine ⟨_, rfl, ?_⟩; replace BK274 := A_ (blk_below (bq BK274) hb); replace HB := A_ (below_step (hq HB) hb); clear hb) | ((with_reducible refine gate_callee (f := 15) rfl ?_); refine gL (some 24) Try.func15 #[.slice A1 l1.length c1] ?_; (with_reducible refine (laws_toCarrierS.calls k _ _ l1 t278 _ ?side1 ?side2 A9.out).mono ?_); (case side1 => exact cq (Kd.C_below HR1.out HB.out)); (case side2 => exact HC1.out); rintro e w18 ⟨v279, rfl, ho0, hb⟩; refine ⟨_, rfl, ?_⟩; have HO280 := A_ (Kd.R_lower ho0 (below_size (hq HB))); replace BK274 := A_ (blk_below (bq BK274) hb); replace HB := A_ (below_step (hq HB) hb); clear hb ho0; obtain ⟨Ao19, co19, eo19⟩ := Kd.R_slice HO280.out; subst eo19) | ((with_reducible refine gate_callee (f := 18) rfl ?_); refine gL (some 27) Try.func18 #[.agg #[.int .i64 t276, .bool t277], .slice Ao19 t278.length co19, .int .i64 a2, .int .i64 a3] ?_; (with_reducible refine (spec_FirstArrival.calls k t276 t277 _ _ t278 a2 a3 t281 t282 _ ?side1 ?side2 A10.out).mono ?_); (case side1 => exact cq (Kd.R_reads' HO280.out).2.2); (case side2 => exact (Kd.R_reads' HO280.out).2.1); rintro e w20 ⟨rfl, hb⟩; refine ⟨_, rfl, ?_⟩; replace HO280 := A_ (Kd.R_below (rq HO280) hb); replace BK274 := A_ (blk_below (bq BK274) hb); replace HB := A_ (below_step (hq HB) hb); clear hb) | ((with_reducible refine gate_callee (f := 15) rfl ?_); refine gL (some 31) Try.func15 #[.slice A1 l1.length c1] ?_; (with_reducible refine (laws_toCarrierS.calls k _ _ l1 t283 _ ?side1 ?side2 A11.out).mono ?_); (case side1 => exact cq (Kd.C_below HR1.out HB.out)); (case side2 => exact HC1.out); rintro e w21 ⟨v284, rfl, ho0, hb⟩; refine ⟨_, rfl, ?_⟩; have HO285 := A_ (Kd.R_lower (Kd.R_new' ho0 (Kd.R_lt (rq HO280))) (below_size (hq HB))); replace HO280 := A_ (Kd.R_elder' (rq HO280) (Kd.R_base ho0) hb); replace BK274 := A_ (blk_below (bq BK274) hb); replace HB := A_ (below_step (hq HB) hb); clear hb ho0; have hcz22_0 : w21.cell? ⟨gb274, 0, none⟩ = some (.int .i64 a0_0) := bc BK274 0; have hcz22_1 : w21.cell? ⟨gb274, 1, none⟩ = some (.bool a0_1) := bc BK274 1; have hfz22_0 := blk_frozen BK274.out 0; have hfz22_1 := blk_frozen BK274.out 1) | ((with_reducible refine gate_callee (f := 8) rfl ?_); refine gL (some 34) Try.func8 #[.agg #[.int .i64 a0_0, .bool a0_1]] ?_; (with_reducible refine (laws_toRoad.calls a0_0 a0_1 t286 t287 _ A12.out).mono ?_); rintro e w23 ⟨rfl, hb⟩; refine ⟨_, rfl, ?_⟩; replace HO280 := A_ (Kd.R_below (rq HO280) hb); replace HO285 := A_ (Kd.R_below (rq HO285) hb); replace BK274 := A_ (blk_below (bq BK274) hb); replace HB := A_ (below_step (hq HB) hb); clear hb; obtain ⟨Ao24, co24, eo24⟩ := Kd.R_slice HO285.out; subst eo24) | ((with_reducible refine gate_callee (f := 19) rfl ?_); refine gL (some 38) Try.func19 #[.agg #[.int .i64 t286, .bool t287], .slice Ao24 t283.length co24, .int .i64 a2, .int .i64 a3] ?_; (with_reducible refine (impl_FirstArrival.calls k t286 t287 _ _ t283 a2 a3 t288 t289 _ ?side1 ?side2 A13.out).mono ?_); (case side1 => exact cq (Kd.R_reads' HO285.out).2.2); (case side2 => exact (Kd.R_reads' HO285.out).2.1); rintro e w25 ⟨rfl, hb⟩; refine ⟨_, rfl, ?_⟩; replace HO280 := A_ (Kd.R_below (rq HO280) hb); replace HO285 := A_ (Kd.R_below (rq HO285) hb); replace BK274 := A_ (blk_below (bq BK274) hb); replace HB := A_ (below_step (hq HB) hb); clear hb))
  (try simp only [Act.put, List.setIfInBounds_toArray, List.set_cons_zero, List.set_cons_succ]); go_cut [48] (fun v48 wc => ∃ (kq : Nat) (x48_13 : Bool), v48 = .bool x48_13 ∧ Aside0 (laws_FnExactFirstArrival.j0 kq l1 t283 x48_13 = some r) ∧ Aside0 (kq ≤ k) ∧ Aside0 (Kd.R k61 61 wc w.heap.size (fun _ => True) (.slice Ao24 t283.length co24) t283) ∧ Aside0 (wc.heap[gb274]? = some (.cells #[.int .i64 a0_0, .bool a0_1] 23 (0, 0))) ∧ Aside0 (Below w.heap.size w wc))
  case first =>
   have H := HC14.out; clear HC14; by_cases c26 : t288 = t281
   ·
    rw [if_pos c26] at H; have c26b0 : (t288 == t281) = true := beq_iff_eq.mpr c26; have c26b1 : (t288 != t281) = false := bne_eq_false_iff_eq.mpr c26; clear c26; (first | rw [c26b0] | (simp only [i64_w, i32_w]; rw [c26b0]) | skip); have H' := A_ H; clear H; go_wp2
    go_meet
    case rel => exact ⟨_, ((t289 != t282)), rf, H', ⟨by first | omega | exact Nat.le_refl _⟩, ⟨by (with_reducible repeat (first | apply Kd.R_alloc | apply Kd.R_drewN | apply Kd.R_drew)); exact Kd.R_mono HO285.out (fun _ hk => trivial)⟩, ⟨bq BK274⟩, ⟨hq HB⟩⟩
   ·
    rw [if_neg c26] at H; have c26b0 : (t288 == t281) = false := beq_eq_false_iff_ne.mpr c26; have c26b1 : (t288 != t281) = true := bne_iff_ne.mpr c26; (first | rw [c26b0] | (simp only [i64_w, i32_w]; rw [c26b0]) | skip); exact (laws_FnExactFirstArrival.bad0 H hr_).elim
  case rest =>
   as_aux_lemma =>
    clear HC14; (try clear c6); (try clear c6b0); (try clear c26); (try clear c26b0); (try clear c26b1); (try clear hcz16_0); (try clear hcz16_1); (try clear hcz22_0); (try clear hcz22_1); (try clear hfz16_0); (try clear hfz16_1); (try clear hfz22_0); (try clear hfz22_1); obtain ⟨kq, x48_13, rfl, HA, HJ13, HO_12, BK274, HB⟩ := hcut
    cases kq with
    | zero => exact absurd HA.out (by simp [laws_FnExactFirstArrival.j0])
    | succ kj13 =>
     have H := HA.out; clear HA; simp only [laws_FnExactFirstArrival.j0] at H
     by_cases c27 : x48_13 = true
     ·
      subst c27
      have H1 : (some false) = some r := by rw [if_pos rfl] at H; exact H
      clear H; have H := H1; clear H1; obtain rfl := Option.some.inj H; exact absurd hr_ (by decide)
     ·
      replace c27 := Bool.eq_false_iff.mpr c27; subst c27
      have H1 : ((laws_toCarrierS.f kj13 l1).bind fun t290 => ((laws_eqCarrierS.f kj13 t283 t290).bind fun t293 => (if t293 = true then (some true) else (some false)))) = some r := by rw [if_neg (show ¬ (false = true) by decide)] at H; exact H
      clear H; have H := H1; clear H1; replace H := bm H; obtain ⟨t290, A28, H⟩ := H; replace H := bm H; obtain ⟨t293, A29, H⟩ := H; by_cases c30 : t293 = true
      ·
       subst c30
       have H1 : (some true) = some r := by rw [if_pos rfl] at H; exact H
       clear H; have H := H1; clear H1; obtain rfl := Option.some.inj H; go_wp2_with (first | ((with_reducible refine gate_callee (f := 15) rfl ?_); refine gL (some 51) Try.func15 #[.slice A1 l1.length c1] ?_; (with_reducible refine (laws_toCarrierS.calls kj13 _ _ l1 t290 _ ?side1 ?side2 A28.out).mono ?_); (case side1 => exact cq (Kd.C_below HR1.out HB.out)); (case side2 => exact HC1.out); rintro e w31 ⟨v291, rfl, ho0, hb⟩; refine ⟨_, rfl, ?_⟩; have HO292 := A_ (Kd.R_lower (Kd.R_new' ho0 (Kd.R_lt (rq HO_12))) (below_size (hq HB))); replace HO_12 := A_ (Kd.R_elder' (rq HO_12) (Kd.R_base ho0) hb); replace BK274 := A_ (blk_below (bq BK274) hb); replace HB := A_ (below_step (hq HB) hb); clear hb ho0; obtain ⟨Ao32, co32, eo32⟩ := Kd.R_slice HO292.out; subst eo32) | ((with_reducible refine gate_callee (f := 17) rfl ?_); refine gL (some 52) Try.func17 #[.slice Ao24 t283.length co24, .slice Ao32 t290.length co32] ?_; (with_reducible refine (laws_eqCarrierS.calls kj13 _ _ t283 _ _ t290 true _ ?side1 ?side2 ?side3 ?side4 A29.out).mono ?_); (case side1 => exact cq (Kd.R_reads' HO_12.out).2.2); (case side2 => exact (Kd.R_reads' HO_12.out).2.1); (case side3 => exact cq (Kd.R_reads' HO292.out).2.2); (case side4 => exact (Kd.R_reads' HO292.out).2.1); rintro e w33 ⟨rfl, hb⟩; refine ⟨_, rfl, ?_⟩; replace HO_12 := A_ (Kd.R_below (rq HO_12) hb); replace HO292 := A_ (Kd.R_below (rq HO292) hb); replace BK274 := A_ (blk_below (bq BK274) hb); replace HB := A_ (below_step (hq HB) hb); clear hb))
       go_ret
       exact ⟨rt, hq HB⟩
      ·
       replace c30 := Bool.eq_false_iff.mpr c30; subst c30
       have H1 : (some false) = some r := by rw [if_neg (show ¬ (false = true) by decide)] at H; exact H
       clear H; have H := H1; clear H1; obtain rfl := Option.some.inj H; exact absurd hr_ (by decide)
end Go.Proofs.Ythgbkekfekcfaaa.PFnExactFirstArrival
