-- Told shorter still by shrink2.py.
-- Printed, and told shorter by this session's program shrink.py.
-- Printed by this session's program myprint.py.
import Derived.Test.YthgbkekfekcfaaaPFnExactFirstArrivalx0
import Derived.Test.YthgbkekfekcfaaaPFnExactFirstArrivalx2
import Derived.Test.YthgbkekfekcfaaaPFnExactFirstArrivalx3
namespace Go.Proofs.Ythgbkekfekcfaaa.PFnExactFirstArrival
open Go.RowKit Go.Proofs.Ythgbkekfekcfaaa.Own Go.Proofs.YthgbkekfekcfaaaW.PrintWords Go.Proofs.YthgbkekfekcfaaaW.PrintLast Go.Proofs.YthgbkekfekcfaaaW.PrintMore
attribute [local go_sem] max2_int min2_int max_two min_two max_three min_three max_four min_four   -- for this text's walks alone
set_option linter.unusedVariables false
set_option linter.unusedSimpArgs false

/-! ### spec_FirstArrival: function 18 -/
def spec_FirstArrival.f (k : Nat) (a0_0 : Int) (a0_1 : Bool) (l1 : List (S61)) (a2 : Int) (a3 : Int) : Option (Int × Bool) := (spec_l7Asks.f k a0_0 a0_1 l1 a2 a3).bind fun t209 => (if t209 = true then ((spec_l7Best.f k a0_0 a0_1 l1 a2 a3 true).bind fun t210 => ((spec_l7Told.f t210).bind fun bt211 => (some (bt211.1, bt211.2)))) else (some (0, false)))
theorem spec_FirstArrival.mono : ∀ a0 a1 a2 a3 a4 k, LeO (spec_FirstArrival.f k a0 a1 a2 a3 a4) (spec_FirstArrival.f (k + 1) a0 a1 a2 a3 a4) := by
  intro a0 a1 a2 a3 a4 k
  unfold spec_FirstArrival.f
  repeat' first
      | (with_reducible exact spec_l7Asks.mono _ _ _ _ _ _)
      | (with_reducible exact spec_l7Best.mono _ _ _ _ _ _ _)
      | (with_reducible exact LeO.refl _)
      | (with_reducible exact LeO.none _)
      | (with_reducible refine LeO.ite ?_ ?_)
      | (with_reducible refine LeO.bind ?_ (fun _ => ?_))
      | exact spec_l7Asks.mono _ _ _ _ _ _
      | exact spec_l7Best.mono _ _ _ _ _ _ _
      | exact LeO.none _
      | refine LeO.ite ?_ ?_
      | refine LeO.bind ?_ (fun _ => ?_)
set_option maxHeartbeats 8000000 in
set_option maxRecDepth 100000 in
theorem spec_FirstArrival.calls (k : Nat) (a0_0 : Int) (a0_1 : Bool) (A1 : Option Addr) (c1 : Nat) (l1 : List (S61)) (a2 : Int) (a3 : Int) (r1 : Int) (r2 : Bool) (w : World) (hr1 : Kd.C k61 w A1 l1.length l1) (hc1 : l1.length ≤ c1) (h : spec_FirstArrival.f k a0_0 a0_1 l1 a2 a3 = some (r1, r2)) :
    Calls Try.prog 18 #[.agg #[.int .i64 a0_0, .bool a0_1], .slice A1 l1.length c1, .int .i64 a2, .int .i64 a3] w fun e w' => e = .returned (.tuple #[.int .i64 r1, .bool r2]) ∧ Below w.heap.size w w' := by
 have hu27 := Try.underlying27; have HR1 := A_ hr1; have HC1 := A_ hc1; clear hr1 hc1; have HB := A_ (Below.refl w.heap.size w); have H : ((spec_l7Asks.f k a0_0 a0_1 l1 a2 a3).bind fun t209 => (if t209 = true then ((spec_l7Best.f k a0_0 a0_1 l1 a2 a3 true).bind fun t210 => ((spec_l7Told.f t210).bind fun bt211 => (some (bt211.1, bt211.2)))) else (some (0, false)))) = some (r1, r2) := h; clear h; replace H := bm H; obtain ⟨t209, A5, H⟩ := H; by_cases c6 : t209 = true
 ·
  subst c6
  have H1 : ((spec_l7Best.f k a0_0 a0_1 l1 a2 a3 true).bind fun t210 => ((spec_l7Told.f t210).bind fun bt211 => (some (bt211.1, bt211.2)))) = some (r1, r2) := by rw [if_pos rfl] at H; exact H
  clear H; have H := H1; clear H1; replace H := bm H; obtain ⟨t210, A7, H⟩ := H; replace H := bm H; obtain ⟨⟨t211, t212⟩, A8, H⟩ := H; (try dsimp only at H); simp only [Option.some.injEq, Prod.mk.injEq] at H
  obtain ⟨rfl, rfl⟩ := H; go_enter Try.func18, Try.ntmps18
  go_wp2_with (first | ((with_reducible refine gate_dst (N := 4) rfl ?_); refine bx (N := 4) #[.int .i64 a0_0, .bool a0_1] 27 ?_; intro gb208 hg w9 hbox hb; have BK208 := A_ (hbox); have GW208 := A_ (bs hg (hq HB) : w.heap.size ≤ gb208); have GE208 := A_ (bs hg (hq HB) : w.heap.size ≤ gb208); replace HB := A_ (below_step (hq HB) hb); clear hb hbox hg; have hcz10_0 : w9.cell? ⟨gb208, 0, none⟩ = some (.int .i64 a0_0) := bc BK208 0; have hcz10_1 : w9.cell? ⟨gb208, 1, none⟩ = some (.bool a0_1) := bc BK208 1; have hfz10_0 := blk_frozen BK208.out 0; have hfz10_1 := blk_frozen BK208.out 1) | ((with_reducible refine gate_callee (f := 35) rfl ?_); refine gL (some 14) Try.func35 #[.agg #[.int .i64 a0_0, .bool a0_1], .slice A1 l1.length c1, .int .i64 a2, .int .i64 a3] ?_; (with_reducible refine (spec_l7Asks.calls k a0_0 a0_1 _ _ l1 a2 a3 true _ ?side1 ?side2 A5.out).mono ?_); (case side1 => exact cq (Kd.C_below HR1.out HB.out)); (case side2 => exact HC1.out); rintro e w11 ⟨rfl, hb⟩; refine ⟨_, rfl, ?_⟩; replace BK208 := A_ (blk_below (bq BK208) hb); replace HB := A_ (below_step (hq HB) hb); clear hb; have hcz12_0 : w11.cell? ⟨gb208, 0, none⟩ = some (.int .i64 a0_0) := bc BK208 0; have hcz12_1 : w11.cell? ⟨gb208, 1, none⟩ = some (.bool a0_1) := bc BK208 1; have hfz12_0 := blk_frozen BK208.out 0; have hfz12_1 := blk_frozen BK208.out 1) | ((with_reducible refine gate_callee (f := 37) rfl ?_); refine gL (some 20) Try.func37 #[.agg #[.int .i64 a0_0, .bool a0_1], .slice A1 l1.length c1, .int .i64 a2, .int .i64 a3, .bool true] ?_; (with_reducible refine (spec_l7Best.calls k a0_0 a0_1 _ _ l1 a2 a3 true t210 _ ?side1 ?side2 A7.out).mono ?_); (case side1 => exact cq (Kd.C_below HR1.out HB.out)); (case side2 => exact HC1.out); rintro e w13 ⟨rfl, hb⟩; refine ⟨_, rfl, ?_⟩; replace BK208 := A_ (blk_below (bq BK208) hb); replace HB := A_ (below_step (hq HB) hb); clear hb) | ((with_reducible refine gate_callee (f := 36) rfl ?_); refine gL (some 21) Try.func36 #[.int .i64 t210] ?_; (with_reducible refine (spec_l7Told.calls t210 t211 t212 _ A8.out).mono ?_); rintro e w' ⟨rfl, ⟨nd, rfl⟩⟩; refine ⟨_, rfl, ?_⟩))
  go_ret2
  exact ⟨rt, hq HB⟩
 ·
  replace c6 := Bool.eq_false_iff.mpr c6; subst c6
  have H1 : (some (0, false)) = some (r1, r2) := by rw [if_neg (show ¬ (false = true) by decide)] at H; exact H
  clear H; have H := H1; clear H1; simp only [Option.some.injEq, Prod.mk.injEq] at H
  obtain ⟨rfl, rfl⟩ := H; go_enter Try.func18, Try.ntmps18
  go_wp2_with (first | ((with_reducible refine gate_dst (N := 4) rfl ?_); refine bx (N := 4) #[.int .i64 a0_0, .bool a0_1] 27 ?_; intro gb208 hg w14 hbox hb; have BK208 := A_ (hbox); have GW208 := A_ (bs hg (hq HB) : w.heap.size ≤ gb208); have GE208 := A_ (bs hg (hq HB) : w.heap.size ≤ gb208); replace HB := A_ (below_step (hq HB) hb); clear hb hbox hg; have hcz15_0 : w14.cell? ⟨gb208, 0, none⟩ = some (.int .i64 a0_0) := bc BK208 0; have hcz15_1 : w14.cell? ⟨gb208, 1, none⟩ = some (.bool a0_1) := bc BK208 1; have hfz15_0 := blk_frozen BK208.out 0; have hfz15_1 := blk_frozen BK208.out 1) | ((with_reducible refine gate_callee (f := 35) rfl ?_); refine gL (some 14) Try.func35 #[.agg #[.int .i64 a0_0, .bool a0_1], .slice A1 l1.length c1, .int .i64 a2, .int .i64 a3] ?_; (with_reducible refine (spec_l7Asks.calls k a0_0 a0_1 _ _ l1 a2 a3 false _ ?side1 ?side2 A5.out).mono ?_); (case side1 => exact cq (Kd.C_below HR1.out HB.out)); (case side2 => exact HC1.out); rintro e w16 ⟨rfl, hb⟩; refine ⟨_, rfl, ?_⟩; replace BK208 := A_ (blk_below (bq BK208) hb); replace HB := A_ (below_step (hq HB) hb); clear hb))
  go_ret2
  exact ⟨rt, hq HB⟩

/-! ### impl_Road_gap: function 65 -/
def impl_Road_gap.f (a0_0 : Int) (a0_1 : Bool) (a1 : Int) (a2 : Int) : Option (Int) := if a0_1 = true then (some (mn (mx (wrap64 (a1 - a2)) (wrap64 (a2 - a1))) (wrap64 (a0_0 - (mx (wrap64 (a1 - a2)) (wrap64 (a2 - a1))))))) else (some (mx (wrap64 (a1 - a2)) (wrap64 (a2 - a1))))
set_option maxHeartbeats 8000000 in
set_option maxRecDepth 100000 in
theorem impl_Road_gap.calls (a0_0 : Int) (a0_1 : Bool) (a1 : Int) (a2 : Int) (r : Int) (w : World) (h : impl_Road_gap.f a0_0 a0_1 a1 a2 = some r) :
    Calls Try.prog 65 #[.agg #[.int .i64 a0_0, .bool a0_1], .int .i64 a1, .int .i64 a2] w fun e w' => e = .returned (.int .i64 r) ∧ Below w.heap.size w w' := by
 have hu27 := Try.underlying27; have HB := A_ (Below.refl w.heap.size w); have H : (if a0_1 = true then (some (mn (mx (wrap64 (a1 - a2)) (wrap64 (a2 - a1))) (wrap64 (a0_0 - (mx (wrap64 (a1 - a2)) (wrap64 (a2 - a1))))))) else (some (mx (wrap64 (a1 - a2)) (wrap64 (a2 - a1))))) = some r := h; clear h
 obtain ⟨ji4, hji4⟩ : ∃ j_ : Int, (mx (wrap64 (a1 - a2)) (wrap64 (a2 - a1))) = j_ := ⟨_, rfl⟩
 replace H : (if a0_1 = true then (some (mn (ji4) (wrap64 (a0_0 - (ji4))))) else (some ji4)) = some r := by first | (rw [hji4] at H; exact H) | (simp only [hji4] at H ⊢; exact H)
 have hji4_ : (if (wrap64 (a1 - a2)) < (wrap64 (a2 - a1)) then (wrap64 (a2 - a1)) else (wrap64 (a1 - a2))) = ji4 := hji4; by_cases c5 : a0_1 = true
 ·
  subst c5
  have H1 : (some (mn (ji4) (wrap64 (a0_0 - (ji4))))) = some r := by rw [if_pos rfl] at H; exact H
  clear H; have H := H1; clear H1
  obtain ⟨ji6, hji6⟩ : ∃ j_ : Int, (mn (ji4) (wrap64 (a0_0 - (ji4)))) = j_ := ⟨_, rfl⟩
  replace H : (some ji6) = some r := by first | (rw [hji6] at H; exact H) | (simp only [hji6] at H ⊢; exact H)
  have hji6_ : (if (wrap64 (a0_0 - (ji4))) < (ji4) then (wrap64 (a0_0 - (ji4))) else (ji4)) = ji6 := hji6; obtain rfl := Option.some.inj H; go_enter Try.func65, Try.ntmps65
  go_wp2_with (first | ((with_reducible refine gate_dst (N := 3) rfl ?_); refine bx (N := 3) #[.int .i64 a0_0, .bool true] 27 ?_; intro gb213 hg w7 hbox hb; have BK213 := A_ (hbox); have GW213 := A_ (bs hg (hq HB) : w.heap.size ≤ gb213); have GE213 := A_ (bs hg (hq HB) : w.heap.size ≤ gb213); replace HB := A_ (below_step (hq HB) hb); clear hb hbox hg; have hcz8_0 : w7.cell? ⟨gb213, 0, none⟩ = some (.int .i64 a0_0) := bc BK213 0; have hcz8_1 : w7.cell? ⟨gb213, 1, none⟩ = some (.bool true) := bc BK213 1; have hfz8_0 := blk_frozen BK213.out 0; have hfz8_1 := blk_frozen BK213.out 1))
  go_ret
  exact ⟨by first | rfl | (simp [errW_none, errW_some] <;> rfl) | (simp only [← hji4, ← hji6]; first | rfl | (simp [errW_none, errW_some] <;> rfl)) | (simp [*, errW_none, errW_some] <;> rfl), hq HB⟩
 ·
  replace c5 := Bool.eq_false_iff.mpr c5; subst c5
  have H1 : (some ji4) = some r := by rw [if_neg (show ¬ (false = true) by decide)] at H; exact H
  clear H; have H := H1; clear H1; obtain rfl := Option.some.inj H; go_enter Try.func65, Try.ntmps65
  go_wp2_with (first | ((with_reducible refine gate_dst (N := 3) rfl ?_); refine bx (N := 3) #[.int .i64 a0_0, .bool false] 27 ?_; intro gb213 hg w9 hbox hb; have BK213 := A_ (hbox); have GW213 := A_ (bs hg (hq HB) : w.heap.size ≤ gb213); have GE213 := A_ (bs hg (hq HB) : w.heap.size ≤ gb213); replace HB := A_ (below_step (hq HB) hb); clear hb hbox hg; have hcz10_0 : w9.cell? ⟨gb213, 0, none⟩ = some (.int .i64 a0_0) := bc BK213 0; have hcz10_1 : w9.cell? ⟨gb213, 1, none⟩ = some (.bool false) := bc BK213 1; have hfz10_0 := blk_frozen BK213.out 0; have hfz10_1 := blk_frozen BK213.out 1))
  go_ret
  exact ⟨by first | rfl | (simp [errW_none, errW_some] <;> rfl) | (simp only [← hji4]; first | rfl | (simp [errW_none, errW_some] <;> rfl)) | (simp [*, errW_none, errW_some] <;> rfl), hq HB⟩

/-! ### impl_Road_steps: function 41 -/
def impl_Road_steps.f (a0_0 : Int) (a0_1 : Bool) (a1_0 : Int) (a1_1 : Int) (a1_2 : Int) (a2 : Int) (a3 : Int) : Option (Int) := (impl_Road_gap.f a0_0 a0_1 a1_0 a2).bind fun t216 => ((impl_Road_gap.f a0_0 a0_1 a2 a3).bind fun t217 => (some (wrap64 (t216 + t217))))
def impl_Road_steps.T1 : Bool × List (List Nat × List Nat) := (true, [([], []), ([], []), ([1], [1]), ([], []), ([0, 2, 3], [0, 2, 3]), ([], []), ([], []), ([], []), ([5, 6, 7, 4], [5, 6, 7]), ([4, 8], [4, 8]), ([9, 8, 0, 1, 2, 3, 4, 5, 6, 7, 8, 9], [9])])
def impl_Road_steps.B1 : List Nat := [0, 0, 2, 0, 15, 0, 0, 0, 255, 511, 1023]
theorem impl_Road_steps.tab1 : rtab .any (opsOf Try.f41 1) = impl_Road_steps.T1 := by kernel_rfl
theorem impl_Road_steps.bits1 : waitsOk impl_Road_steps.T1.2 impl_Road_steps.B1 = true := by kernel_rfl
set_option maxHeartbeats 8000000 in
set_option maxRecDepth 100000 in
theorem impl_Road_steps.calls (a0_0 : Int) (a0_1 : Bool) (a1_0 : Int) (a1_1 : Int) (a1_2 : Int) (a2 : Int) (a3 : Int) (r : Int) (w : World) (h : impl_Road_steps.f a0_0 a0_1 a1_0 a1_1 a1_2 a2 a3 = some r) :
    Calls Try.prog 41 #[.agg #[.int .i64 a0_0, .bool a0_1], .agg #[.int .i64 a1_0, .int .i64 a1_1, .int .i64 a1_2], .int .i64 a2, .int .i64 a3] w fun e w' => e = .returned (.int .i64 r) ∧ Below w.heap.size w w' := by
 have hu27 := Try.underlying27; have hu61 := Try.underlying61; have HB := A_ (Below.refl w.heap.size w); have H : ((impl_Road_gap.f a0_0 a0_1 a1_0 a2).bind fun t216 => ((impl_Road_gap.f a0_0 a0_1 a2 a3).bind fun t217 => (some (wrap64 (t216 + t217))))) = some r := h; clear h; replace H := bm H; obtain ⟨t216, A5, H⟩ := H; replace H := bm H; obtain ⟨t217, A6, H⟩ := H; obtain rfl := Option.some.inj H; go_enter Try.func41, Try.ntmps41
 try go_wp2_with (first | ((with_reducible refine gate_dst (N := 4) rfl ?_); refine bx (N := 4) #[.int .i64 a0_0, .bool a0_1] 27 ?_; intro gb214 hg w7 hbox hb; have BK214 := A_ (hbox); have GW214 := A_ (bs hg (hq HB) : w.heap.size ≤ gb214); have GE214 := A_ (bs hg (hq HB) : w.heap.size ≤ gb214); replace HB := A_ (below_step (hq HB) hb); clear hb hbox hg) | ((with_reducible refine gate_dst (N := 5) rfl ?_); refine bx (N := 5) #[.int .i64 a1_0, .int .i64 a1_1, .int .i64 a1_2] 61 ?_; intro gb215 hg w8 hbox hb; have BK215 := A_ (hbox); have GW215 := A_ (bs hg (hq HB) : w.heap.size ≤ gb215); have GE215 := A_ (bs hg (hq HB) : w.heap.size ≤ gb215); replace HB := A_ (below_step (hq HB) hb); have NB214_215 := A_ ((by rw [hg]; exact Nat.ne_of_lt (blk_lt (bq BK214)) : gb214 ≠ gb215)); have NB215_214 := A_ ((by rw [hg]; exact Nat.ne_of_gt (blk_lt (bq BK214)) : gb215 ≠ gb214)); replace BK214 := A_ (blk_below (bq BK214) hb); clear hb hbox hg))
 replace BK214 := A_ (blk_drew BK214.out); replace BK215 := A_ (blk_drew BK215.out); replace HB := A_ (below_drew1 HB.out); refine start_ (n := 11) (S := fun w' => w'.cell? ⟨gb214, 0, none⟩ = some (.int .i64 a0_0) ∧ w'.cell? ⟨gb214, 1, none⟩ = some (.bool a0_1) ∧ w'.cell? ⟨gb215, 0, none⟩ = some (.int .i64 a1_0) ∧ w'.cell? ⟨gb215, 1, none⟩ = some (.int .i64 a1_1) ∧ w'.cell? ⟨gb215, 2, none⟩ = some (.int .i64 a1_2)) (ds := []) #[false, false, false, false, false, false, false, false, false, false, false] (by kernel_rfl) rfl rfl ⟨bc BK214 0, bc BK214 1, bc BK215 0, bc BK215 1, bc BK215 2⟩ (fun hHeld => ?_); refine with_tabW impl_Road_steps.tab1 impl_Road_steps.bits1 (fun HT_ HW_ => ?_); generalize w8.drew = w9 at BK214 BK215 HB hHeld ⊢; refine puT (i := 1) (N := some 10) HT_ #[false, true, false, false, false, false, false, false, false, false, false] ?_; refine puT (i := 3) (N := some 12) HT_ #[false, true, false, true, false, false, false, false, false, false, false] ?_; refine puT (i := 6) (N := some 15) HT_ #[false, true, false, true, false, false, true, false, false, false, false] ?_; refine puT (i := 7) (N := some 16) HT_ #[false, true, false, true, false, false, true, true, false, false, false] ?_; refine tkT (i := 0) (N := some 9) HT_ HW_ hHeld #[true, true, false, true, false, false, true, true, false, false, false] ?_; refine tkT (i := 2) (N := some 11) HT_ HW_ hHeld #[true, true, true, true, false, false, true, true, false, false, false] ?_; refine tkT (i := 5) (N := some 14) HT_ HW_ hHeld #[true, true, true, true, false, true, true, true, false, false, false] ?_; refine onT (i := 4) (N := some 13) HT_ #[true, true, true, true, true, true, true, true, false, false, false] (fun K hK => ?_); refine go_ Try.func65 #[.agg #[.int .i64 a0_0, .bool a0_1], .int .i64 a1_0, .int .i64 a2] ?_; with_reducible refine (impl_Road_gap.calls a0_0 a0_1 a1_0 a2 t216 _ A5.out).mono ?_
 rintro e w10 ⟨rfl, hb⟩; refine ⟨_, rfl, ?_⟩; replace BK214 := A_ (blk_below (bq BK214) hb); replace BK215 := A_ (blk_below (bq BK215) hb); replace HB := A_ (below_step (hq HB) hb); clear hb; refine hK.out _ _ ⟨bc BK214 0, bc BK214 1, bc BK215 0, bc BK215 1, bc BK215 2⟩ (fun hHeld => ?_); clear hK K; refine nq_ (some 13) ?_; refine onT (i := 8) (N := some 17) HT_ #[true, true, true, true, true, true, true, true, true, false, false] (fun K hK => ?_); refine go_ Try.func65 #[.agg #[.int .i64 a0_0, .bool a0_1], .int .i64 a2, .int .i64 a3] ?_; with_reducible refine (impl_Road_gap.calls a0_0 a0_1 a2 a3 t217 _ A6.out).mono ?_
 rintro e w11 ⟨rfl, hb⟩; refine ⟨_, rfl, ?_⟩; replace BK214 := A_ (blk_below (bq BK214) hb); replace BK215 := A_ (blk_below (bq BK215) hb); replace HB := A_ (below_step (hq HB) hb); clear hb; refine hK.out _ _ ⟨bc BK214 0, bc BK214 1, bc BK215 0, bc BK215 1, bc BK215 2⟩ (fun hHeld => ?_); clear hK K; refine nq_ (some 17) ?_; refine puT (i := 9) (N := some 18) HT_ #[true, true, true, true, true, true, true, true, true, true, false] ?_; refine puT (i := 10) (N := some 8) HT_ #[true, true, true, true, true, true, true, true, true, true, true] ?_; refine done_ (done_of HT_.out (by kernel_rfl)) ?_; try go_wp2
 go_ret
 exact ⟨rt, hq HB⟩

/-! ### impl_within: function 32 -/
def impl_within.f (a0 : Int) (a1 : Int) (a2 : Int) : Option (Bool) := if a0 ≥ a1 then (some (decide (a0 ≤ a2))) else (some false)
set_option maxHeartbeats 8000000 in
set_option maxRecDepth 100000 in
theorem impl_within.calls (a0 : Int) (a1 : Int) (a2 : Int) (r : Bool) (w : World) (h : impl_within.f a0 a1 a2 = some r) :
    Calls Try.prog 32 #[.int .i64 a0, .int .i64 a1, .int .i64 a2] w fun e w' => e = .returned (.bool r) ∧ Drawn0 w w' := by
 have H : (if a0 ≥ a1 then (some (decide (a0 ≤ a2))) else (some false)) = some r := h; clear h; by_cases c4 : a0 ≥ a1
 ·
  rw [if_pos c4] at H; have c4b0 : decide (a1 ≤ a0) = true := decide_eq_true c4; clear c4; obtain rfl := Option.some.inj H; go_enter Try.func32, Try.ntmps32
  go_wp2
  go_ret
  exact ⟨rf, by repeat (first | exact Drawn0.refl _ | apply Drawn0.step)⟩
 ·
  rw [if_neg c4] at H; have c4b0 : decide (a1 ≤ a0) = false := decide_eq_false c4; clear c4; obtain rfl := Option.some.inj H; go_enter Try.func32, Try.ntmps32
  go_wp2
  go_ret
  exact ⟨rf, by repeat (first | exact Drawn0.refl _ | apply Drawn0.step)⟩

/-! ### impl_IsRoad: function 31 -/
def impl_IsRoad.f (a0_0 : Int) (a0_1 : Bool) : Option (Bool) := (impl_within.f a0_0 2 24).bind fun t219 => (if t219 = true then (if a0_1 = true then (some (decide (a0_0 ≥ 3))) else (some true)) else (some false))
set_option maxHeartbeats 8000000 in
set_option maxRecDepth 100000 in
theorem impl_IsRoad.calls (a0_0 : Int) (a0_1 : Bool) (r : Bool) (w : World) (h : impl_IsRoad.f a0_0 a0_1 = some r) :
    Calls Try.prog 31 #[.agg #[.int .i64 a0_0, .bool a0_1]] w fun e w' => e = .returned (.bool r) ∧ Below w.heap.size w w' := by
 have hu27 := Try.underlying27; have HB := A_ (Below.refl w.heap.size w); have H : ((impl_within.f a0_0 2 24).bind fun t219 => (if t219 = true then (if a0_1 = true then (some (decide (a0_0 ≥ 3))) else (some true)) else (some false))) = some r := h; clear h; replace H := bm H; obtain ⟨t219, A2, H⟩ := H; by_cases c3 : t219 = true
 ·
  subst c3
  have H1 : (if a0_1 = true then (some (decide (a0_0 ≥ 3))) else (some true)) = some r := by rw [if_pos rfl] at H; exact H
  clear H; have H := H1; clear H1; by_cases c4 : a0_1 = true
  ·
   subst c4
   have H1 : (some (decide (a0_0 ≥ 3))) = some r := by rw [if_pos rfl] at H; exact H
   clear H; have H := H1; clear H1; obtain rfl := Option.some.inj H; go_enter Try.func31, Try.ntmps31
   go_wp2_with (first | ((with_reducible refine gate_dst (N := 1) rfl ?_); refine bx (N := 1) #[.int .i64 a0_0, .bool true] 27 ?_; intro gb218 hg w5 hbox hb; have BK218 := A_ (hbox); have GW218 := A_ (bs hg (hq HB) : w.heap.size ≤ gb218); have GE218 := A_ (bs hg (hq HB) : w.heap.size ≤ gb218); replace HB := A_ (below_step (hq HB) hb); clear hb hbox hg; have hcz6_0 : w5.cell? ⟨gb218, 0, none⟩ = some (.int .i64 a0_0) := bc BK218 0; have hcz6_1 : w5.cell? ⟨gb218, 1, none⟩ = some (.bool true) := bc BK218 1; have hfz6_0 := blk_frozen BK218.out 0; have hfz6_1 := blk_frozen BK218.out 1) | ((with_reducible refine gate_callee (f := 32) rfl ?_); refine gL (some 5) Try.func32 #[.int .i64 a0_0, .int .i64 2, .int .i64 24] ?_; (with_reducible refine (impl_within.calls a0_0 2 24 true _ A2.out).mono ?_); rintro e w' ⟨rfl, ⟨nd, rfl⟩⟩; refine ⟨_, rfl, ?_⟩))
   go_ret
   exact ⟨rt, hq HB⟩
  ·
   replace c4 := Bool.eq_false_iff.mpr c4; subst c4
   have H1 : (some true) = some r := by rw [if_neg (show ¬ (false = true) by decide)] at H; exact H
   clear H; have H := H1; clear H1; obtain rfl := Option.some.inj H; go_enter Try.func31, Try.ntmps31
   go_wp2_with (first | ((with_reducible refine gate_dst (N := 1) rfl ?_); refine bx (N := 1) #[.int .i64 a0_0, .bool false] 27 ?_; intro gb218 hg w7 hbox hb; have BK218 := A_ (hbox); have GW218 := A_ (bs hg (hq HB) : w.heap.size ≤ gb218); have GE218 := A_ (bs hg (hq HB) : w.heap.size ≤ gb218); replace HB := A_ (below_step (hq HB) hb); clear hb hbox hg; have hcz8_0 : w7.cell? ⟨gb218, 0, none⟩ = some (.int .i64 a0_0) := bc BK218 0; have hcz8_1 : w7.cell? ⟨gb218, 1, none⟩ = some (.bool false) := bc BK218 1; have hfz8_0 := blk_frozen BK218.out 0; have hfz8_1 := blk_frozen BK218.out 1) | ((with_reducible refine gate_callee (f := 32) rfl ?_); refine gL (some 5) Try.func32 #[.int .i64 a0_0, .int .i64 2, .int .i64 24] ?_; (with_reducible refine (impl_within.calls a0_0 2 24 true _ A2.out).mono ?_); rintro e w' ⟨rfl, ⟨nd, rfl⟩⟩; refine ⟨_, rfl, ?_⟩))
   go_ret
   exact ⟨rt, hq HB⟩
 ·
  replace c3 := Bool.eq_false_iff.mpr c3; subst c3
  have H1 : (some false) = some r := by rw [if_neg (show ¬ (false = true) by decide)] at H; exact H
  clear H; have H := H1; clear H1; obtain rfl := Option.some.inj H; go_enter Try.func31, Try.ntmps31
  go_wp2_with (first | ((with_reducible refine gate_dst (N := 1) rfl ?_); refine bx (N := 1) #[.int .i64 a0_0, .bool a0_1] 27 ?_; intro gb218 hg w9 hbox hb; have BK218 := A_ (hbox); have GW218 := A_ (bs hg (hq HB) : w.heap.size ≤ gb218); have GE218 := A_ (bs hg (hq HB) : w.heap.size ≤ gb218); replace HB := A_ (below_step (hq HB) hb); clear hb hbox hg; have hcz10_0 : w9.cell? ⟨gb218, 0, none⟩ = some (.int .i64 a0_0) := bc BK218 0; have hcz10_1 : w9.cell? ⟨gb218, 1, none⟩ = some (.bool a0_1) := bc BK218 1; have hfz10_0 := blk_frozen BK218.out 0; have hfz10_1 := blk_frozen BK218.out 1) | ((with_reducible refine gate_callee (f := 32) rfl ?_); refine gL (some 5) Try.func32 #[.int .i64 a0_0, .int .i64 2, .int .i64 24] ?_; (with_reducible refine (impl_within.calls a0_0 2 24 false _ A2.out).mono ?_); rintro e w' ⟨rfl, ⟨nd, rfl⟩⟩; refine ⟨_, rfl, ?_⟩))
  go_ret
  exact ⟨rt, hq HB⟩

/-! ### impl_isLine: function 67 -/
def impl_isLine.f (a0_0 : Int) (a0_1 : Bool) : Option (Bool) := (impl_IsRoad.f a0_0 a0_1).bind fun t221 => (if t221 = true then (some (!a0_1)) else (some false))
set_option maxHeartbeats 8000000 in
set_option maxRecDepth 100000 in
theorem impl_isLine.calls (a0_0 : Int) (a0_1 : Bool) (r : Bool) (w : World) (h : impl_isLine.f a0_0 a0_1 = some r) :
    Calls Try.prog 67 #[.agg #[.int .i64 a0_0, .bool a0_1]] w fun e w' => e = .returned (.bool r) ∧ Below w.heap.size w w' := by
 have hu27 := Try.underlying27; have HB := A_ (Below.refl w.heap.size w); have H : ((impl_IsRoad.f a0_0 a0_1).bind fun t221 => (if t221 = true then (some (!a0_1)) else (some false))) = some r := h; clear h; replace H := bm H; obtain ⟨t221, A2, H⟩ := H; by_cases c3 : t221 = true
 ·
  subst c3
  have H1 : (some (!a0_1)) = some r := by rw [if_pos rfl] at H; exact H
  clear H; have H := H1; clear H1; obtain rfl := Option.some.inj H; go_enter Try.func67, Try.ntmps67
  go_wp2_with (first | ((with_reducible refine gate_dst (N := 1) rfl ?_); refine bx (N := 1) #[.int .i64 a0_0, .bool a0_1] 27 ?_; intro gb220 hg w4 hbox hb; have BK220 := A_ (hbox); have GW220 := A_ (bs hg (hq HB) : w.heap.size ≤ gb220); have GE220 := A_ (bs hg (hq HB) : w.heap.size ≤ gb220); replace HB := A_ (below_step (hq HB) hb); clear hb hbox hg; have hcz5_0 : w4.cell? ⟨gb220, 0, none⟩ = some (.int .i64 a0_0) := bc BK220 0; have hcz5_1 : w4.cell? ⟨gb220, 1, none⟩ = some (.bool a0_1) := bc BK220 1; have hfz5_0 := blk_frozen BK220.out 0; have hfz5_1 := blk_frozen BK220.out 1) | ((with_reducible refine gate_callee (f := 31) rfl ?_); refine gL (some 4) Try.func31 #[.agg #[.int .i64 a0_0, .bool a0_1]] ?_; (with_reducible refine (impl_IsRoad.calls a0_0 a0_1 true _ A2.out).mono ?_); rintro e w6 ⟨rfl, hb⟩; refine ⟨_, rfl, ?_⟩; replace BK220 := A_ (blk_below (bq BK220) hb); replace HB := A_ (below_step (hq HB) hb); clear hb; have hcz7_0 : w6.cell? ⟨gb220, 0, none⟩ = some (.int .i64 a0_0) := bc BK220 0; have hcz7_1 : w6.cell? ⟨gb220, 1, none⟩ = some (.bool a0_1) := bc BK220 1; have hfz7_0 := blk_frozen BK220.out 0; have hfz7_1 := blk_frozen BK220.out 1))
  go_ret
  exact ⟨rt, hq HB⟩
 ·
  replace c3 := Bool.eq_false_iff.mpr c3; subst c3
  have H1 : (some false) = some r := by rw [if_neg (show ¬ (false = true) by decide)] at H; exact H
  clear H; have H := H1; clear H1; obtain rfl := Option.some.inj H; go_enter Try.func67, Try.ntmps67
  go_wp2_with (first | ((with_reducible refine gate_dst (N := 1) rfl ?_); refine bx (N := 1) #[.int .i64 a0_0, .bool a0_1] 27 ?_; intro gb220 hg w8 hbox hb; have BK220 := A_ (hbox); have GW220 := A_ (bs hg (hq HB) : w.heap.size ≤ gb220); have GE220 := A_ (bs hg (hq HB) : w.heap.size ≤ gb220); replace HB := A_ (below_step (hq HB) hb); clear hb hbox hg; have hcz9_0 : w8.cell? ⟨gb220, 0, none⟩ = some (.int .i64 a0_0) := bc BK220 0; have hcz9_1 : w8.cell? ⟨gb220, 1, none⟩ = some (.bool a0_1) := bc BK220 1; have hfz9_0 := blk_frozen BK220.out 0; have hfz9_1 := blk_frozen BK220.out 1) | ((with_reducible refine gate_callee (f := 31) rfl ?_); refine gL (some 4) Try.func31 #[.agg #[.int .i64 a0_0, .bool a0_1]] ?_; (with_reducible refine (impl_IsRoad.calls a0_0 a0_1 false _ A2.out).mono ?_); rintro e w10 ⟨rfl, hb⟩; refine ⟨_, rfl, ?_⟩; replace BK220 := A_ (blk_below (bq BK220) hb); replace HB := A_ (below_step (hq HB) hb); clear hb))
  go_ret
  exact ⟨rt, hq HB⟩

/-! ### impl_allWithin: function 79 -/
def impl_allWithin.l0 : Nat → Int → Int → List Int → Int → Int → Option (Bool)
  | 0, _, _, _, _, _ => none
  | k + 1, x1, x2, x9, x10, x11 => if x11 < x10 then (if 0 ≤ x11 then (if x11 < (x9.length : Int) then ((impl_within.f (rd x9 x11) x1 x2).bind fun t223 => (if t223 = true then (impl_allWithin.l0 k x1 x2 x9 x10 (wrap64 (x11 + 1))) else (some false))) else (none)) else (none)) else (some true)
def impl_allWithin.f (k : Nat) (l0 : List Int) (a1 : Int) (a2 : Int) : Option (Bool) := impl_allWithin.l0 k a1 a2 l0 (l0.length : Int) 0
theorem impl_allWithin.mono_l : ∀ k, (∀ y0 y1 y2 y3 y4, LeO (impl_allWithin.l0 k y0 y1 y2 y3 y4) (impl_allWithin.l0 (k + 1) y0 y1 y2 y3 y4))
  | 0 => fun _ _ _ _ _ r h => by simp [impl_allWithin.l0] at h
  | k + 1 => by
    have ih0 := impl_allWithin.mono_l k
    · intro y0 y1 y2 y3 y4
      unfold impl_allWithin.l0
      repeat' first
      | (with_reducible exact ih0 _ _ _ _ _)
      | (with_reducible exact LeO.refl _)
      | (with_reducible exact LeO.none _)
      | (with_reducible refine LeO.ite ?_ ?_)
      | (with_reducible refine LeO.bind ?_ (fun _ => ?_))
      | exact ih0 _ _ _ _ _
      | exact LeO.none _
      | refine LeO.ite ?_ ?_
      | refine LeO.bind ?_ (fun _ => ?_)
theorem impl_allWithin.mono : ∀ a0 a1 a2 k, LeO (impl_allWithin.f k a0 a1 a2) (impl_allWithin.f (k + 1) a0 a1 a2) := by
  intro a0 a1 a2 k
  have ih0 := impl_allWithin.mono_l k
  unfold impl_allWithin.f
  repeat' first
      | (with_reducible exact ih0 _ _ _ _ _)
      | (with_reducible exact LeO.refl _)
      | (with_reducible exact LeO.none _)
      | (with_reducible refine LeO.ite ?_ ?_)
      | (with_reducible refine LeO.bind ?_ (fun _ => ?_))
      | exact ih0 _ _ _ _ _
      | exact LeO.none _
      | refine LeO.ite ?_ ?_
      | refine LeO.bind ?_ (fun _ => ?_)
set_option maxHeartbeats 8000000 in
set_option maxRecDepth 100000 in
theorem impl_allWithin.calls (k : Nat) (A0 : Option Addr) (c0 : Nat) (l0 : List Int) (a1 : Int) (a2 : Int) (r : Bool) (w : World) (hr0 : Kd.C (Kd.int .i64) w A0 l0.length l0) (hc0 : l0.length ≤ c0) (h : impl_allWithin.f k l0 a1 a2 = some r) :
    Calls Try.prog 79 #[.slice A0 l0.length c0, .int .i64 a1, .int .i64 a2] w fun e w' => e = .returned (.bool r) ∧ Drawn0 w w' := by
 have HR0 := A_ hr0; have HC0 := A_ hc0; clear hr0 hc0; have H : (impl_allWithin.l0 k a1 a2 l0 (l0.length : Int) 0) = some r := h; clear h; have H' := A_ H; clear H; go_enter Try.func79, Try.ntmps79
 go_wp2
 go_loopg [11] k (fun kq v11 w' => ∃ (x11_1 : Int), v11 = .int .i64 x11_1 ∧ Aside0 (impl_allWithin.l0 kq a1 a2 l0 (l0.length : Int) x11_1 = some r) ∧ Aside0 (kq ≤ k) ∧ Drawn0 w w')
 case atStart => exact ⟨(0), rf, H', ⟨Nat.le_refl _⟩, by repeat (first | exact Drawn0.refl _ | apply Drawn0.step)⟩
 case round =>
  clear H'; obtain ⟨x11_1, rfl, HA, HK1, ⟨m1, rfl⟩⟩ := hrel
  cases gk with
  | zero => exact absurd HA.out (by simp [impl_allWithin.l0])
  | succ k1 =>
   have H := HA.out; clear HA; simp only [impl_allWithin.l0] at H
   by_cases c4 : x11_1 < (l0.length : Int)
   ·
    rw [if_pos c4] at H; have c4b0 := decide_eq_true c4; clear c4; by_cases c5 : 0 ≤ x11_1
    ·
     rw [if_pos c5] at H; have c5b0 := decide_eq_true c5; clear c5; by_cases c6 : x11_1 < (l0.length : Int)
     ·
      rw [if_pos c6] at H; have c6b0 := decide_eq_true c6; clear c6; replace H := bm H; obtain ⟨t223, A7, H⟩ := H; by_cases c8 : t223 = true
      ·
       subst c8
       have H1 : (impl_allWithin.l0 k1 a1 a2 l0 (l0.length : Int) (wrap64 (x11_1 + 1))) = some r := by rw [if_pos rfl] at H; exact H
       clear H; have H := H1; clear H1; have H' := A_ H; clear H; have p222 : 0 ≤ (x11_1 : Int) := dq; have q222 : x11_1 < (l0.length : Int) := dq; obtain ⟨ad222, e222, hx222_0⟩ := Kd.at_int HR0.out x11_1 p222 q222
       cases e222
       replace p222 := eq_true p222; replace q222 := eq_true q222; go_wp2_with (first | ((with_reducible refine gate_callee (f := 32) rfl ?_); refine gL (some 18) Try.func32 #[.int .i64 (rd l0 x11_1), .int .i64 a1, .int .i64 a2] ?_; (with_reducible refine (impl_within.calls (rd l0 x11_1) a1 a2 true _ A7.out).mono ?_); rintro e w' ⟨rfl, ⟨nd, rfl⟩⟩; refine ⟨_, rfl, ?_⟩))
       go_roundg k1
       case measure => have := HK1.out; omega
       case rel => exact ⟨(wrap64 (x11_1 + 1)), rf, H', ⟨by have := HK1.out; omega⟩, by repeat (first | exact Drawn0.refl _ | apply Drawn0.step)⟩
      ·
       replace c8 := Bool.eq_false_iff.mpr c8; subst c8
       have H1 : (some false) = some r := by rw [if_neg (show ¬ (false = true) by decide)] at H; exact H
       clear H; have H := H1; clear H1; obtain rfl := Option.some.inj H; have p222 : 0 ≤ (x11_1 : Int) := dq; have q222 : x11_1 < (l0.length : Int) := dq; obtain ⟨ad222, e222, hx222_0⟩ := Kd.at_int HR0.out x11_1 p222 q222
       cases e222
       replace p222 := eq_true p222; replace q222 := eq_true q222; go_wp2_with (first | ((with_reducible refine gate_callee (f := 32) rfl ?_); refine gL (some 18) Try.func32 #[.int .i64 (rd l0 x11_1), .int .i64 a1, .int .i64 a2] ?_; (with_reducible refine (impl_within.calls (rd l0 x11_1) a1 a2 false _ A7.out).mono ?_); rintro e w' ⟨rfl, ⟨nd, rfl⟩⟩; refine ⟨_, rfl, ?_⟩))
       go_ret
       exact ⟨rf, by repeat (first | exact Drawn0.refl _ | apply Drawn0.step)⟩
     ·
      rw [if_neg c6] at H; exact absurd H (by simp)
    ·
     rw [if_neg c5] at H; exact absurd H (by simp)
   ·
    rw [if_neg c4] at H; have c4b0 := decide_eq_false c4; clear c4; obtain rfl := Option.some.inj H; go_wp2
    go_ret
    exact ⟨rf, by repeat (first | exact Drawn0.refl _ | apply Drawn0.step)⟩

/-! ### impl_Road_has: function 69 -/
def impl_Road_has.f (k : Nat) (a0_0 : Int) (a0_1 : Bool) (l1 : List Int) : Option (Bool) := (impl_allWithin.f k l1 0 (wrap64 (a0_0 - 1))).bind fun t225 => (some t225)
theorem impl_Road_has.mono : ∀ a0 a1 a2 k, LeO (impl_Road_has.f k a0 a1 a2) (impl_Road_has.f (k + 1) a0 a1 a2) := by
  intro a0 a1 a2 k
  unfold impl_Road_has.f
  repeat' first
      | (with_reducible exact impl_allWithin.mono _ _ _ _)
      | (with_reducible exact LeO.refl _)
      | (with_reducible exact LeO.none _)
      | (with_reducible refine LeO.ite ?_ ?_)
      | (with_reducible refine LeO.bind ?_ (fun _ => ?_))
      | exact impl_allWithin.mono _ _ _ _
      | exact LeO.none _
      | refine LeO.ite ?_ ?_
      | refine LeO.bind ?_ (fun _ => ?_)
set_option maxHeartbeats 8000000 in
set_option maxRecDepth 100000 in
theorem impl_Road_has.calls (k : Nat) (a0_0 : Int) (a0_1 : Bool) (A1 : Option Addr) (c1 : Nat) (l1 : List Int) (r : Bool) (w : World) (hr1 : Kd.C (Kd.int .i64) w A1 l1.length l1) (hc1 : l1.length ≤ c1) (h : impl_Road_has.f k a0_0 a0_1 l1 = some r) :
    Calls Try.prog 69 #[.agg #[.int .i64 a0_0, .bool a0_1], .slice A1 l1.length c1] w fun e w' => e = .returned (.bool r) ∧ Below w.heap.size w w' := by
 have hu27 := Try.underlying27; have HR1 := A_ hr1; have HC1 := A_ hc1; clear hr1 hc1; have HB := A_ (Below.refl w.heap.size w); have H : ((impl_allWithin.f k l1 0 (wrap64 (a0_0 - 1))).bind fun t225 => (some t225)) = some r := h; clear h; replace H := bm H; obtain ⟨t225, A3, H⟩ := H; obtain rfl := Option.some.inj H; go_enter Try.func69, Try.ntmps69
 go_wp2_with (first | ((with_reducible refine gate_dst (N := 2) rfl ?_); refine bx (N := 2) #[.int .i64 a0_0, .bool a0_1] 27 ?_; intro gb224 hg w4 hbox hb; have BK224 := A_ (hbox); have GW224 := A_ (bs hg (hq HB) : w.heap.size ≤ gb224); have GE224 := A_ (bs hg (hq HB) : w.heap.size ≤ gb224); replace HB := A_ (below_step (hq HB) hb); clear hb hbox hg; have hcz5_0 : w4.cell? ⟨gb224, 0, none⟩ = some (.int .i64 a0_0) := bc BK224 0; have hcz5_1 : w4.cell? ⟨gb224, 1, none⟩ = some (.bool a0_1) := bc BK224 1; have hfz5_0 := blk_frozen BK224.out 0; have hfz5_1 := blk_frozen BK224.out 1) | ((with_reducible refine gate_callee (f := 79) rfl ?_); refine gL (some 9) Try.func79 #[.slice A1 l1.length c1, .int .i64 0, .int .i64 (wrap64 (a0_0 - 1))] ?_; (with_reducible refine (impl_allWithin.calls k _ _ l1 0 (wrap64 (a0_0 - 1)) t225 _ ?side1 ?side2 A3.out).mono ?_); (case side1 => exact cq (Kd.C_below HR1.out HB.out)); (case side2 => exact HC1.out); rintro e w' ⟨rfl, ⟨nd, rfl⟩⟩; refine ⟨_, rfl, ?_⟩))
 go_ret
 exact ⟨rt, hq HB⟩

/-! ### impl_Road_areCarriers: function 68 -/
def impl_Road_areCarriers.l0 : Nat → List (S61) → List (S61) → Int → Int → Int → Bool → Option (Bool)
  | 0, _, _, _, _, _, _ => none
  | k + 1, x1, x7, x8, x9, x227000, x227001 => if x9 < x8 then (if 0 ≤ x9 then (if x9 < (x7.length : Int) then ((impl_Road_has.f k x227000 x227001 (([(rd_T61 x7 x9).f0] : List Int))).bind fun t232 => (if t232 = true then ((impl_within.f ((rd_T61 x7 x9).f1) 0 48).bind fun t233 => (if t233 = true then ((impl_within.f ((rd_T61 x7 x9).f2) 0 20).bind fun t234 => (if t234 = true then (impl_Road_areCarriers.l0 k x1 x7 x8 (wrap64 (x9 + 1)) x227000 x227001) else (some false))) else (some false))) else (some false))) else (none)) else (none)) else (some (decide ((x1.length : Int) ≤ 6)))
def impl_Road_areCarriers.f (k : Nat) (a0_0 : Int) (a0_1 : Bool) (l1 : List (S61)) : Option (Bool) := impl_Road_areCarriers.l0 k l1 l1 (l1.length : Int) 0 a0_0 a0_1
theorem impl_Road_areCarriers.mono_l : ∀ k, (∀ y0 y1 y2 y3 y4 y5, LeO (impl_Road_areCarriers.l0 k y0 y1 y2 y3 y4 y5) (impl_Road_areCarriers.l0 (k + 1) y0 y1 y2 y3 y4 y5))
  | 0 => fun _ _ _ _ _ _ r h => by simp [impl_Road_areCarriers.l0] at h
  | k + 1 => by
    have ih0 := impl_Road_areCarriers.mono_l k
    · intro y0 y1 y2 y3 y4 y5
      unfold impl_Road_areCarriers.l0
      repeat' first
      | (with_reducible exact ih0 _ _ _ _ _ _)
      | (with_reducible exact impl_Road_has.mono _ _ _ _)
      | (with_reducible exact LeO.refl _)
      | (with_reducible exact LeO.none _)
      | (with_reducible refine LeO.ite ?_ ?_)
      | (with_reducible refine LeO.bind ?_ (fun _ => ?_))
      | exact ih0 _ _ _ _ _ _
      | exact impl_Road_has.mono _ _ _ _
      | exact LeO.none _
      | refine LeO.ite ?_ ?_
      | refine LeO.bind ?_ (fun _ => ?_)
theorem impl_Road_areCarriers.mono : ∀ a0 a1 a2 k, LeO (impl_Road_areCarriers.f k a0 a1 a2) (impl_Road_areCarriers.f (k + 1) a0 a1 a2) := by
  intro a0 a1 a2 k
  have ih0 := impl_Road_areCarriers.mono_l k
  unfold impl_Road_areCarriers.f
  repeat' first
      | (with_reducible exact ih0 _ _ _ _ _ _)
      | (with_reducible exact impl_Road_has.mono _ _ _ _)
      | (with_reducible exact LeO.refl _)
      | (with_reducible exact LeO.none _)
      | (with_reducible refine LeO.ite ?_ ?_)
      | (with_reducible refine LeO.bind ?_ (fun _ => ?_))
      | exact ih0 _ _ _ _ _ _
      | exact impl_Road_has.mono _ _ _ _
      | exact LeO.none _
      | refine LeO.ite ?_ ?_
      | refine LeO.bind ?_ (fun _ => ?_)
set_option maxHeartbeats 8000000 in
set_option maxRecDepth 100000 in
theorem impl_Road_areCarriers.calls (k : Nat) (a0_0 : Int) (a0_1 : Bool) (A1 : Option Addr) (c1 : Nat) (l1 : List (S61)) (r : Bool) (w : World) (hr1 : Kd.C k61 w A1 l1.length l1) (hc1 : l1.length ≤ c1) (h : impl_Road_areCarriers.f k a0_0 a0_1 l1 = some r) :
    Calls Try.prog 68 #[.agg #[.int .i64 a0_0, .bool a0_1], .slice A1 l1.length c1] w fun e w' => e = .returned (.bool r) ∧ Below w.heap.size w w' := by
 have hu27 := Try.underlying27; have hu61 := Try.underlying61; have HR1 := A_ hr1; have HC1 := A_ hc1; clear hr1 hc1; have HB := A_ (Below.refl w.heap.size w); have H : (impl_Road_areCarriers.l0 k l1 l1 (l1.length : Int) 0 a0_0 a0_1) = some r := h; clear h; have H' := A_ H; clear H; go_enter Try.func68, Try.ntmps68
 go_wp2_with (first | ((with_reducible refine gate_dst (N := 2) rfl ?_); refine bx (N := 2) #[.int .i64 a0_0, .bool a0_1] 27 ?_; intro gb226 hg w3 hbox hb; have BK226 := A_ (hbox); have GW226 := A_ (bs hg (hq HB) : w.heap.size ≤ gb226); have GE226 := A_ (bs hg (hq HB) : w.heap.size ≤ gb226); replace HB := A_ (below_step (hq HB) hb); clear hb hbox hg))
 go_loopg [9] k (fun kq v9 w' => ∃ (x9_1 : Int), v9 = .int .i64 x9_1 ∧ Aside0 (impl_Road_areCarriers.l0 kq l1 l1 (l1.length : Int) x9_1 a0_0 a0_1 = some r) ∧ Aside0 (kq ≤ k) ∧ Aside0 (w'.heap[gb226]? = some (.cells #[.int .i64 a0_0, .bool a0_1] 27 (0, 0))) ∧ Aside0 (Below w.heap.size w w'))
 case atStart => exact ⟨(0), rf, H', ⟨Nat.le_refl _⟩, ⟨bq BK226⟩, ⟨hq HB⟩⟩
 case round =>
  clear H'; obtain ⟨x9_1, rfl, HA, HK1, BK226, HB⟩ := hrel
  cases gk with
  | zero => exact absurd HA.out (by simp [impl_Road_areCarriers.l0])
  | succ k1 =>
   have H := HA.out; clear HA; simp only [impl_Road_areCarriers.l0] at H
   by_cases c4 : x9_1 < (l1.length : Int)
   ·
    rw [if_pos c4] at H; have c4b0 := decide_eq_true c4; clear c4; by_cases c5 : 0 ≤ x9_1
    ·
     rw [if_pos c5] at H; have c5b0 := decide_eq_true c5; clear c5; by_cases c6 : x9_1 < (l1.length : Int)
     ·
      rw [if_pos c6] at H; have c6b0 := decide_eq_true c6; clear c6
      obtain ⟨y229, hy229⟩ : ∃ y_ : List Int, y_ = (([(rd_T61 l1 x9_1).f0] : List Int)) := ⟨_, rfl⟩
      replace H : ((impl_Road_has.f k1 a0_0 a0_1 y229).bind fun t232 => (if t232 = true then ((impl_within.f ((rd_T61 l1 x9_1).f1) 0 48).bind fun t233 => (if t233 = true then ((impl_within.f ((rd_T61 l1 x9_1).f2) 0 20).bind fun t234 => (if t234 = true then (impl_Road_areCarriers.l0 k1 l1 l1 (l1.length : Int) (wrap64 (x9_1 + 1)) a0_0 a0_1) else (some false))) else (some false))) else (some false))) = some r := by first | (rw [hy229]; with_reducible exact H) | (have H2_ := (Option.bind_some _ _).symm.trans H; rw [hy229]; with_reducible exact H2_) | (have H2_ := (Option.bind_some _ _).symm.trans H; with_reducible exact H2_) | with_reducible exact H | (rw [hy229]; exact H) | exact H
      have Ny229 := A_ hy229; clear hy229; replace H := bm H; obtain ⟨t232, A7, H⟩ := H; by_cases c8 : t232 = true
      ·
       subst c8
       have H1 : ((impl_within.f ((rd_T61 l1 x9_1).f1) 0 48).bind fun t233 => (if t233 = true then ((impl_within.f ((rd_T61 l1 x9_1).f2) 0 20).bind fun t234 => (if t234 = true then (impl_Road_areCarriers.l0 k1 l1 l1 (l1.length : Int) (wrap64 (x9_1 + 1)) a0_0 a0_1) else (some false))) else (some false))) = some r := by rw [if_pos rfl] at H; exact H
       clear H; have H := H1; clear H1; replace H := bm H; obtain ⟨t233, A9, H⟩ := H; by_cases c10 : t233 = true
       ·
        subst c10
        have H1 : ((impl_within.f ((rd_T61 l1 x9_1).f2) 0 20).bind fun t234 => (if t234 = true then (impl_Road_areCarriers.l0 k1 l1 l1 (l1.length : Int) (wrap64 (x9_1 + 1)) a0_0 a0_1) else (some false))) = some r := by rw [if_pos rfl] at H; exact H
        clear H; have H := H1; clear H1; replace H := bm H; obtain ⟨t234, A11, H⟩ := H; by_cases c12 : t234 = true
        ·
         subst c12
         have H1 : (impl_Road_areCarriers.l0 k1 l1 l1 (l1.length : Int) (wrap64 (x9_1 + 1)) a0_0 a0_1) = some r := by rw [if_pos rfl] at H; exact H
         clear H; have H := H1; clear H1; have H' := A_ H; clear H; have p227 : 0 ≤ (x9_1 : Int) := dq; have q227 : x9_1 < (l1.length : Int) := dq; obtain ⟨ad227, e227, hx227_0, hx227_1, hx227_2⟩ := at_T61 HR1.out x9_1 p227 q227
         cases e227
         replace hx227_0 := (HB.out.cell (World.block_lt_of_cell? w _ hx227_0)).trans hx227_0; replace hx227_1 := (HB.out.cell (World.block_lt_of_cell? w _ hx227_1)).trans hx227_1; replace hx227_2 := (HB.out.cell (World.block_lt_of_cell? w _ hx227_2)).trans hx227_2; replace p227 := eq_true p227; replace q227 := eq_true q227; go_wp2_with (first | ((with_reducible refine gate_dst (N := 6) rfl ?_); refine bx (N := 6) #[.int .i64 0, .int .i64 0, .int .i64 0] 61 ?_; intro gb228 hg w13 hbox hb; have BK228 := A_ (hbox); have GW228 := A_ (bs hg (hq HB) : w.heap.size ≤ gb228); have GE228 := A_ (bs hg (hq HB) : w.heap.size ≤ gb228); replace HB := A_ (below_step (hq HB) hb); have NB226_228 := A_ ((by rw [hg]; exact Nat.ne_of_lt (blk_lt (bq BK226)) : gb226 ≠ gb228)); have NB228_226 := A_ ((by rw [hg]; exact Nat.ne_of_gt (blk_lt (bq BK226)) : gb228 ≠ gb226)); replace BK226 := A_ (blk_below (bq BK226) hb); clear hb hbox hg; have hnb14 := NB228_226.out; have hnc14 := NB226_228.out; have hcz15_0 : w13.cell? ⟨gb228, 0, none⟩ = some (.int .i64 0) := bc BK228 0; have hcz15_1 : w13.cell? ⟨gb228, 1, none⟩ = some (.int .i64 0) := bc BK228 1; have hcz15_2 : w13.cell? ⟨gb228, 2, none⟩ = some (.int .i64 0) := bc BK228 2; have hfz15_0 := blk_frozen BK228.out 0; have hfz15_1 := blk_frozen BK228.out 1; have hfz15_2 := blk_frozen BK228.out 2; have hcz16_0 : w13.cell? ⟨gb226, 0, none⟩ = some (.int .i64 a0_0) := bc BK226 0; have hcz16_1 : w13.cell? ⟨gb226, 1, none⟩ = some (.bool a0_1) := bc BK226 1; have hfz16_0 := blk_frozen BK226.out 0; have hfz16_1 := blk_frozen BK226.out 1) | ((with_reducible refine gate_dst (N := 16) rfl ?_); refine Kd.R_lit (Kd.int .i64) _ 3 ?hg (N := 16) ?hd (xs := ([(rd_T61 l1 x9_1).f0] : List Int)) (inner := [.int .i64 ((rd_T61 l1 x9_1).f0)]) (ok := fun _ => True) (okp := fun _ => True) ?hr ?hp (fun _ hk => hk) trivial (Below.refl _ _) (Nat.le_refl _) (by simp) ?_; (case hd => rfl); (case hg => rfl); (case hr => first | (go_simp; done) | (go_simp; rfl)); (case hp => exact (Reps.one (show Kd.M (Kd.int .i64) _ _ _ ((rd_T61 l1 x9_1).f0) [.int .i64 ((rd_T61 l1 x9_1).f0)] from rfl) (Reps.none _ _))); intro v230 w17 ho18 hb hg_ hnew_; clear hg_ hnew_; (first | rw [← Ny229.out] at ho18 | (simp only [Int.reduceToNat] at ho18; rw [← Ny229.out] at ho18)); have HO231 := A_ (Kd.R_lower ho18 (below_size (hq HB))); replace BK226 := A_ (blk_below (g := gb226) (o := .cells #[.int .i64 a0_0, .bool a0_1] 27 (0, 0)) (by (with_reducible repeat (first | refine blk_drewN ?_ _ | refine blk_drew ?_ | refine blk_alloc ?_ _)); refine blk_far ?_ NB226_228.out _; (with_reducible repeat (first | refine blk_drewN ?_ _ | refine blk_drew ?_ | refine blk_alloc ?_ _)); refine blk_far ?_ NB226_228.out _; (with_reducible repeat (first | refine blk_drewN ?_ _ | refine blk_drew ?_ | refine blk_alloc ?_ _)); refine blk_far ?_ NB226_228.out _; (with_reducible repeat (first | refine blk_drewN ?_ _ | refine blk_drew ?_ | refine blk_alloc ?_ _)); exact BK226.out) hb); replace BK228 := A_ (blk_below (g := gb228) (o := .cells #[.int .i64 ((rd_T61 l1 x9_1).f0), .int .i64 ((rd_T61 l1 x9_1).f1), .int .i64 ((rd_T61 l1 x9_1).f2)] 61 (0, 0)) (by (with_reducible repeat (first | refine blk_drewN ?_ _ | refine blk_drew ?_ | refine blk_alloc ?_ _)); refine blk_put (cs := #[.int .i64 ((rd_T61 l1 x9_1).f0), .int .i64 ((rd_T61 l1 x9_1).f1), .int .i64 0]) ?_ 2 _ rfl; (with_reducible repeat (first | refine blk_drewN ?_ _ | refine blk_drew ?_ | refine blk_alloc ?_ _)); refine blk_put (cs := #[.int .i64 ((rd_T61 l1 x9_1).f0), .int .i64 0, .int .i64 0]) ?_ 1 _ rfl; (with_reducible repeat (first | refine blk_drewN ?_ _ | refine blk_drew ?_ | refine blk_alloc ?_ _)); refine blk_put (cs := #[.int .i64 0, .int .i64 0, .int .i64 0]) ?_ 0 _ rfl; (with_reducible repeat (first | refine blk_drewN ?_ _ | refine blk_drew ?_ | refine blk_alloc ?_ _)); exact BK228.out) hb); replace HB := A_ (below_step (hq HB) hb); clear hb ho18; obtain ⟨Ao19, co19, eo19⟩ := Kd.R_slice HO231.out; subst eo19) | ((with_reducible refine gate_callee (f := 69) rfl ?_); refine gL (some 17) Try.func69 #[.agg #[.int .i64 a0_0, .bool a0_1], .slice Ao19 y229.length co19] ?_; (with_reducible refine (impl_Road_has.calls k1 a0_0 a0_1 _ _ y229 true _ ?side1 ?side2 A7.out).mono ?_); (case side1 => exact cq (Kd.R_reads' HO231.out).2.2); (case side2 => exact (Kd.R_reads' HO231.out).2.1); rintro e w20 ⟨rfl, hb⟩; refine ⟨_, rfl, ?_⟩; replace HO231 := A_ (Kd.R_below (rq HO231) hb); replace BK226 := A_ (blk_below (bq BK226) hb); replace BK228 := A_ (blk_below (bq BK228) hb); replace HB := A_ (below_step (hq HB) hb); clear hb; have hcz21_0 : w20.cell? ⟨gb228, 0, none⟩ = some (.int .i64 ((rd_T61 l1 x9_1).f0)) := bc BK228 0; have hcz21_1 : w20.cell? ⟨gb228, 1, none⟩ = some (.int .i64 ((rd_T61 l1 x9_1).f1)) := bc BK228 1; have hcz21_2 : w20.cell? ⟨gb228, 2, none⟩ = some (.int .i64 ((rd_T61 l1 x9_1).f2)) := bc BK228 2; have hfz21_0 := blk_frozen BK228.out 0; have hfz21_1 := blk_frozen BK228.out 1; have hfz21_2 := blk_frozen BK228.out 2) | (go_at_call 32; (with_reducible refine (impl_within.calls ((rd_T61 l1 x9_1).f1) 0 48 true _ A9.out).mono ?_); rintro e w' ⟨rfl, ⟨nd, rfl⟩⟩) | (go_at_call 32; (with_reducible refine (impl_within.calls ((rd_T61 l1 x9_1).f2) 0 20 true _ A11.out).mono ?_); rintro e w' ⟨rfl, ⟨nd, rfl⟩⟩))
         go_roundg k1
         case measure => have := HK1.out; omega
         case rel => exact ⟨(wrap64 (x9_1 + 1)), rf, H', ⟨by have := HK1.out; omega⟩, ⟨bq BK226⟩, ⟨hq HB⟩⟩
        ·
         replace c12 := Bool.eq_false_iff.mpr c12; subst c12
         have H1 : (some false) = some r := by rw [if_neg (show ¬ (false = true) by decide)] at H; exact H
         clear H; have H := H1; clear H1; obtain rfl := Option.some.inj H; have p227 : 0 ≤ (x9_1 : Int) := dq; have q227 : x9_1 < (l1.length : Int) := dq; obtain ⟨ad227, e227, hx227_0, hx227_1, hx227_2⟩ := at_T61 HR1.out x9_1 p227 q227
         cases e227
         replace hx227_0 := (HB.out.cell (World.block_lt_of_cell? w _ hx227_0)).trans hx227_0; replace hx227_1 := (HB.out.cell (World.block_lt_of_cell? w _ hx227_1)).trans hx227_1; replace hx227_2 := (HB.out.cell (World.block_lt_of_cell? w _ hx227_2)).trans hx227_2; replace p227 := eq_true p227; replace q227 := eq_true q227; go_wp2_with (first | ((with_reducible refine gate_dst (N := 6) rfl ?_); refine bx (N := 6) #[.int .i64 0, .int .i64 0, .int .i64 0] 61 ?_; intro gb228 hg w22 hbox hb; have BK228 := A_ (hbox); have GW228 := A_ (bs hg (hq HB) : w.heap.size ≤ gb228); have GE228 := A_ (bs hg (hq HB) : w.heap.size ≤ gb228); replace HB := A_ (below_step (hq HB) hb); have NB226_228 := A_ ((by rw [hg]; exact Nat.ne_of_lt (blk_lt (bq BK226)) : gb226 ≠ gb228)); have NB228_226 := A_ ((by rw [hg]; exact Nat.ne_of_gt (blk_lt (bq BK226)) : gb228 ≠ gb226)); replace BK226 := A_ (blk_below (bq BK226) hb); clear hb hbox hg; have hnb23 := NB228_226.out; have hnc23 := NB226_228.out; have hcz24_0 : w22.cell? ⟨gb228, 0, none⟩ = some (.int .i64 0) := bc BK228 0; have hcz24_1 : w22.cell? ⟨gb228, 1, none⟩ = some (.int .i64 0) := bc BK228 1; have hcz24_2 : w22.cell? ⟨gb228, 2, none⟩ = some (.int .i64 0) := bc BK228 2; have hfz24_0 := blk_frozen BK228.out 0; have hfz24_1 := blk_frozen BK228.out 1; have hfz24_2 := blk_frozen BK228.out 2; have hcz25_0 : w22.cell? ⟨gb226, 0, none⟩ = some (.int .i64 a0_0) := bc BK226 0; have hcz25_1 : w22.cell? ⟨gb226, 1, none⟩ = some (.bool a0_1) := bc BK226 1; have hfz25_0 := blk_frozen BK226.out 0; have hfz25_1 := blk_frozen BK226.out 1) | ((with_reducible refine gate_dst (N := 16) rfl ?_); refine Kd.R_lit (Kd.int .i64) _ 3 ?hg (N := 16) ?hd (xs := ([(rd_T61 l1 x9_1).f0] : List Int)) (inner := [.int .i64 ((rd_T61 l1 x9_1).f0)]) (ok := fun _ => True) (okp := fun _ => True) ?hr ?hp (fun _ hk => hk) trivial (Below.refl _ _) (Nat.le_refl _) (by simp) ?_; (case hd => rfl); (case hg => rfl); (case hr => first | (go_simp; done) | (go_simp; rfl)); (case hp => exact (Reps.one (show Kd.M (Kd.int .i64) _ _ _ ((rd_T61 l1 x9_1).f0) [.int .i64 ((rd_T61 l1 x9_1).f0)] from rfl) (Reps.none _ _))); intro v230 w26 ho27 hb hg_ hnew_; clear hg_ hnew_; (first | rw [← Ny229.out] at ho27 | (simp only [Int.reduceToNat] at ho27; rw [← Ny229.out] at ho27)); have HO231 := A_ (Kd.R_lower ho27 (below_size (hq HB))); replace BK226 := A_ (blk_below (g := gb226) (o := .cells #[.int .i64 a0_0, .bool a0_1] 27 (0, 0)) (by (with_reducible repeat (first | refine blk_drewN ?_ _ | refine blk_drew ?_ | refine blk_alloc ?_ _)); refine blk_far ?_ NB226_228.out _; (with_reducible repeat (first | refine blk_drewN ?_ _ | refine blk_drew ?_ | refine blk_alloc ?_ _)); refine blk_far ?_ NB226_228.out _; (with_reducible repeat (first | refine blk_drewN ?_ _ | refine blk_drew ?_ | refine blk_alloc ?_ _)); refine blk_far ?_ NB226_228.out _; (with_reducible repeat (first | refine blk_drewN ?_ _ | refine blk_drew ?_ | refine blk_alloc ?_ _)); exact BK226.out) hb); replace BK228 := A_ (blk_below (g := gb228) (o := .cells #[.int .i64 ((rd_T61 l1 x9_1).f0), .int .i64 ((rd_T61 l1 x9_1).f1), .int .i64 ((rd_T61 l1 x9_1).f2)] 61 (0, 0)) (by (with_reducible repeat (first | refine blk_drewN ?_ _ | refine blk_drew ?_ | refine blk_alloc ?_ _)); refine blk_put (cs := #[.int .i64 ((rd_T61 l1 x9_1).f0), .int .i64 ((rd_T61 l1 x9_1).f1), .int .i64 0]) ?_ 2 _ rfl; (with_reducible repeat (first | refine blk_drewN ?_ _ | refine blk_drew ?_ | refine blk_alloc ?_ _)); refine blk_put (cs := #[.int .i64 ((rd_T61 l1 x9_1).f0), .int .i64 0, .int .i64 0]) ?_ 1 _ rfl; (with_reducible repeat (first | refine blk_drewN ?_ _ | refine blk_drew ?_ | refine blk_alloc ?_ _)); refine blk_put (cs := #[.int .i64 0, .int .i64 0, .int .i64 0]) ?_ 0 _ rfl; (with_reducible repeat (first | refine blk_drewN ?_ _ | refine blk_drew ?_ | refine blk_alloc ?_ _)); exact BK228.out) hb); replace HB := A_ (below_step (hq HB) hb); clear hb ho27; obtain ⟨Ao28, co28, eo28⟩ := Kd.R_slice HO231.out; subst eo28) | ((with_reducible refine gate_callee (f := 69) rfl ?_); refine gL (some 17) Try.func69 #[.agg #[.int .i64 a0_0, .bool a0_1], .slice Ao28 y229.length co28] ?_; (with_reducible refine (impl_Road_has.calls k1 a0_0 a0_1 _ _ y229 true _ ?side1 ?side2 A7.out).mono ?_); (case side1 => exact cq (Kd.R_reads' HO231.out).2.2); (case side2 => exact (Kd.R_reads' HO231.out).2.1); rintro e w29 ⟨rfl, hb⟩; refine ⟨_, rfl, ?_⟩; replace HO231 := A_ (Kd.R_below (rq HO231) hb); replace BK226 := A_ (blk_below (bq BK226) hb); replace BK228 := A_ (blk_below (bq BK228) hb); replace HB := A_ (below_step (hq HB) hb); clear hb; have hcz30_0 : w29.cell? ⟨gb228, 0, none⟩ = some (.int .i64 ((rd_T61 l1 x9_1).f0)) := bc BK228 0; have hcz30_1 : w29.cell? ⟨gb228, 1, none⟩ = some (.int .i64 ((rd_T61 l1 x9_1).f1)) := bc BK228 1; have hcz30_2 : w29.cell? ⟨gb228, 2, none⟩ = some (.int .i64 ((rd_T61 l1 x9_1).f2)) := bc BK228 2; have hfz30_0 := blk_frozen BK228.out 0; have hfz30_1 := blk_frozen BK228.out 1; have hfz30_2 := blk_frozen BK228.out 2) | (go_at_call 32; (with_reducible refine (impl_within.calls ((rd_T61 l1 x9_1).f1) 0 48 true _ A9.out).mono ?_); rintro e w' ⟨rfl, ⟨nd, rfl⟩⟩) | (go_at_call 32; (with_reducible refine (impl_within.calls ((rd_T61 l1 x9_1).f2) 0 20 false _ A11.out).mono ?_); rintro e w' ⟨rfl, ⟨nd, rfl⟩⟩))
         go_ret
         exact ⟨rt, hq HB⟩
       ·
        replace c10 := Bool.eq_false_iff.mpr c10; subst c10
        have H1 : (some false) = some r := by rw [if_neg (show ¬ (false = true) by decide)] at H; exact H
        clear H; have H := H1; clear H1; obtain rfl := Option.some.inj H; have p227 : 0 ≤ (x9_1 : Int) := dq; have q227 : x9_1 < (l1.length : Int) := dq; obtain ⟨ad227, e227, hx227_0, hx227_1, hx227_2⟩ := at_T61 HR1.out x9_1 p227 q227
        cases e227
        replace hx227_0 := (HB.out.cell (World.block_lt_of_cell? w _ hx227_0)).trans hx227_0; replace hx227_1 := (HB.out.cell (World.block_lt_of_cell? w _ hx227_1)).trans hx227_1; replace hx227_2 := (HB.out.cell (World.block_lt_of_cell? w _ hx227_2)).trans hx227_2; replace p227 := eq_true p227; replace q227 := eq_true q227; go_wp2_with (first | ((with_reducible refine gate_dst (N := 6) rfl ?_); refine bx (N := 6) #[.int .i64 0, .int .i64 0, .int .i64 0] 61 ?_; intro gb228 hg w31 hbox hb; have BK228 := A_ (hbox); have GW228 := A_ (bs hg (hq HB) : w.heap.size ≤ gb228); have GE228 := A_ (bs hg (hq HB) : w.heap.size ≤ gb228); replace HB := A_ (below_step (hq HB) hb); have NB226_228 := A_ ((by rw [hg]; exact Nat.ne_of_lt (blk_lt (bq BK226)) : gb226 ≠ gb228)); have NB228_226 := A_ ((by rw [hg]; exact Nat.ne_of_gt (blk_lt (bq BK226)) : gb228 ≠ gb226)); replace BK226 := A_ (blk_below (bq BK226) hb); clear hb hbox hg; have hnb32 := NB228_226.out; have hnc32 := NB226_228.out; have hcz33_0 : w31.cell? ⟨gb228, 0, none⟩ = some (.int .i64 0) := bc BK228 0; have hcz33_1 : w31.cell? ⟨gb228, 1, none⟩ = some (.int .i64 0) := bc BK228 1; have hcz33_2 : w31.cell? ⟨gb228, 2, none⟩ = some (.int .i64 0) := bc BK228 2; have hfz33_0 := blk_frozen BK228.out 0; have hfz33_1 := blk_frozen BK228.out 1; have hfz33_2 := blk_frozen BK228.out 2; have hcz34_0 : w31.cell? ⟨gb226, 0, none⟩ = some (.int .i64 a0_0) := bc BK226 0; have hcz34_1 : w31.cell? ⟨gb226, 1, none⟩ = some (.bool a0_1) := bc BK226 1; have hfz34_0 := blk_frozen BK226.out 0; have hfz34_1 := blk_frozen BK226.out 1) | ((with_reducible refine gate_dst (N := 16) rfl ?_); refine Kd.R_lit (Kd.int .i64) _ 3 ?hg (N := 16) ?hd (xs := ([(rd_T61 l1 x9_1).f0] : List Int)) (inner := [.int .i64 ((rd_T61 l1 x9_1).f0)]) (ok := fun _ => True) (okp := fun _ => True) ?hr ?hp (fun _ hk => hk) trivial (Below.refl _ _) (Nat.le_refl _) (by simp) ?_; (case hd => rfl); (case hg => rfl); (case hr => first | (go_simp; done) | (go_simp; rfl)); (case hp => exact (Reps.one (show Kd.M (Kd.int .i64) _ _ _ ((rd_T61 l1 x9_1).f0) [.int .i64 ((rd_T61 l1 x9_1).f0)] from rfl) (Reps.none _ _))); intro v230 w35 ho36 hb hg_ hnew_; clear hg_ hnew_; (first | rw [← Ny229.out] at ho36 | (simp only [Int.reduceToNat] at ho36; rw [← Ny229.out] at ho36)); have HO231 := A_ (Kd.R_lower ho36 (below_size (hq HB))); replace BK226 := A_ (blk_below (g := gb226) (o := .cells #[.int .i64 a0_0, .bool a0_1] 27 (0, 0)) (by (with_reducible repeat (first | refine blk_drewN ?_ _ | refine blk_drew ?_ | refine blk_alloc ?_ _)); refine blk_far ?_ NB226_228.out _; (with_reducible repeat (first | refine blk_drewN ?_ _ | refine blk_drew ?_ | refine blk_alloc ?_ _)); refine blk_far ?_ NB226_228.out _; (with_reducible repeat (first | refine blk_drewN ?_ _ | refine blk_drew ?_ | refine blk_alloc ?_ _)); refine blk_far ?_ NB226_228.out _; (with_reducible repeat (first | refine blk_drewN ?_ _ | refine blk_drew ?_ | refine blk_alloc ?_ _)); exact BK226.out) hb); replace BK228 := A_ (blk_below (g := gb228) (o := .cells #[.int .i64 ((rd_T61 l1 x9_1).f0), .int .i64 ((rd_T61 l1 x9_1).f1), .int .i64 ((rd_T61 l1 x9_1).f2)] 61 (0, 0)) (by (with_reducible repeat (first | refine blk_drewN ?_ _ | refine blk_drew ?_ | refine blk_alloc ?_ _)); refine blk_put (cs := #[.int .i64 ((rd_T61 l1 x9_1).f0), .int .i64 ((rd_T61 l1 x9_1).f1), .int .i64 0]) ?_ 2 _ rfl; (with_reducible repeat (first | refine blk_drewN ?_ _ | refine blk_drew ?_ | refine blk_alloc ?_ _)); refine blk_put (cs := #[.int .i64 ((rd_T61 l1 x9_1).f0), .int .i64 0, .int .i64 0]) ?_ 1 _ rfl; (with_reducible repeat (first | refine blk_drewN ?_ _ | refine blk_drew ?_ | refine blk_alloc ?_ _)); refine blk_put (cs := #[.int .i64 0, .int .i64 0, .int .i64 0]) ?_ 0 _ rfl; (with_reducible repeat (first | refine blk_drewN ?_ _ | refine blk_drew ?_ | refine blk_alloc ?_ _)); exact BK228.out) hb); replace HB := A_ (below_step (hq HB) hb); clear hb ho36; obtain ⟨Ao37, co37, eo37⟩ := Kd.R_slice HO231.out; subst eo37) | ((with_reducible refine gate_callee (f := 69) rfl ?_); refine gL (some 17) Try.func69 #[.agg #[.int .i64 a0_0, .bool a0_1], .slice Ao37 y229.length co37] ?_; (with_reducible refine (impl_Road_has.calls k1 a0_0 a0_1 _ _ y229 true _ ?side1 ?side2 A7.out).mono ?_); (case side1 => exact cq (Kd.R_reads' HO231.out).2.2); (case side2 => exact (Kd.R_reads' HO231.out).2.1); rintro e w38 ⟨rfl, hb⟩; refine ⟨_, rfl, ?_⟩; replace HO231 := A_ (Kd.R_below (rq HO231) hb); replace BK226 := A_ (blk_below (bq BK226) hb); replace BK228 := A_ (blk_below (bq BK228) hb); replace HB := A_ (below_step (hq HB) hb); clear hb; have hcz39_0 : w38.cell? ⟨gb228, 0, none⟩ = some (.int .i64 ((rd_T61 l1 x9_1).f0)) := bc BK228 0; have hcz39_1 : w38.cell? ⟨gb228, 1, none⟩ = some (.int .i64 ((rd_T61 l1 x9_1).f1)) := bc BK228 1; have hcz39_2 : w38.cell? ⟨gb228, 2, none⟩ = some (.int .i64 ((rd_T61 l1 x9_1).f2)) := bc BK228 2; have hfz39_0 := blk_frozen BK228.out 0; have hfz39_1 := blk_frozen BK228.out 1; have hfz39_2 := blk_frozen BK228.out 2) | (go_at_call 32; (with_reducible refine (impl_within.calls ((rd_T61 l1 x9_1).f1) 0 48 false _ A9.out).mono ?_); rintro e w' ⟨rfl, ⟨nd, rfl⟩⟩))
        go_ret
        exact ⟨rt, hq HB⟩
      ·
       replace c8 := Bool.eq_false_iff.mpr c8; subst c8
       have H1 : (some false) = some r := by rw [if_neg (show ¬ (false = true) by decide)] at H; exact H
       clear H; have H := H1; clear H1; obtain rfl := Option.some.inj H; have p227 : 0 ≤ (x9_1 : Int) := dq; have q227 : x9_1 < (l1.length : Int) := dq; obtain ⟨ad227, e227, hx227_0, hx227_1, hx227_2⟩ := at_T61 HR1.out x9_1 p227 q227
       cases e227
       replace hx227_0 := (HB.out.cell (World.block_lt_of_cell? w _ hx227_0)).trans hx227_0; replace hx227_1 := (HB.out.cell (World.block_lt_of_cell? w _ hx227_1)).trans hx227_1; replace hx227_2 := (HB.out.cell (World.block_lt_of_cell? w _ hx227_2)).trans hx227_2; replace p227 := eq_true p227; replace q227 := eq_true q227; go_wp2_with (first | ((with_reducible refine gate_dst (N := 6) rfl ?_); refine bx (N := 6) #[.int .i64 0, .int .i64 0, .int .i64 0] 61 ?_; intro gb228 hg w40 hbox hb; have BK228 := A_ (hbox); have GW228 := A_ (bs hg (hq HB) : w.heap.size ≤ gb228); have GE228 := A_ (bs hg (hq HB) : w.heap.size ≤ gb228); replace HB := A_ (below_step (hq HB) hb); have NB226_228 := A_ ((by rw [hg]; exact Nat.ne_of_lt (blk_lt (bq BK226)) : gb226 ≠ gb228)); have NB228_226 := A_ ((by rw [hg]; exact Nat.ne_of_gt (blk_lt (bq BK226)) : gb228 ≠ gb226)); replace BK226 := A_ (blk_below (bq BK226) hb); clear hb hbox hg; have hnb41 := NB228_226.out; have hnc41 := NB226_228.out; have hcz42_0 : w40.cell? ⟨gb228, 0, none⟩ = some (.int .i64 0) := bc BK228 0; have hcz42_1 : w40.cell? ⟨gb228, 1, none⟩ = some (.int .i64 0) := bc BK228 1; have hcz42_2 : w40.cell? ⟨gb228, 2, none⟩ = some (.int .i64 0) := bc BK228 2; have hfz42_0 := blk_frozen BK228.out 0; have hfz42_1 := blk_frozen BK228.out 1; have hfz42_2 := blk_frozen BK228.out 2; have hcz43_0 : w40.cell? ⟨gb226, 0, none⟩ = some (.int .i64 a0_0) := bc BK226 0; have hcz43_1 : w40.cell? ⟨gb226, 1, none⟩ = some (.bool a0_1) := bc BK226 1; have hfz43_0 := blk_frozen BK226.out 0; have hfz43_1 := blk_frozen BK226.out 1) | ((with_reducible refine gate_dst (N := 16) rfl ?_); refine Kd.R_lit (Kd.int .i64) _ 3 ?hg (N := 16) ?hd (xs := ([(rd_T61 l1 x9_1).f0] : List Int)) (inner := [.int .i64 ((rd_T61 l1 x9_1).f0)]) (ok := fun _ => True) (okp := fun _ => True) ?hr ?hp (fun _ hk => hk) trivial (Below.refl _ _) (Nat.le_refl _) (by simp) ?_; (case hd => rfl); (case hg => rfl); (case hr => first | (go_simp; done) | (go_simp; rfl)); (case hp => exact (Reps.one (show Kd.M (Kd.int .i64) _ _ _ ((rd_T61 l1 x9_1).f0) [.int .i64 ((rd_T61 l1 x9_1).f0)] from rfl) (Reps.none _ _))); intro v230 w44 ho45 hb hg_ hnew_; clear hg_ hnew_; (first | rw [← Ny229.out] at ho45 | (simp only [Int.reduceToNat] at ho45; rw [← Ny229.out] at ho45)); have HO231 := A_ (Kd.R_lower ho45 (below_size (hq HB))); replace BK226 := A_ (blk_below (g := gb226) (o := .cells #[.int .i64 a0_0, .bool a0_1] 27 (0, 0)) (by (with_reducible repeat (first | refine blk_drewN ?_ _ | refine blk_drew ?_ | refine blk_alloc ?_ _)); refine blk_far ?_ NB226_228.out _; (with_reducible repeat (first | refine blk_drewN ?_ _ | refine blk_drew ?_ | refine blk_alloc ?_ _)); refine blk_far ?_ NB226_228.out _; (with_reducible repeat (first | refine blk_drewN ?_ _ | refine blk_drew ?_ | refine blk_alloc ?_ _)); refine blk_far ?_ NB226_228.out _; (with_reducible repeat (first | refine blk_drewN ?_ _ | refine blk_drew ?_ | refine blk_alloc ?_ _)); exact BK226.out) hb); replace BK228 := A_ (blk_below (g := gb228) (o := .cells #[.int .i64 ((rd_T61 l1 x9_1).f0), .int .i64 ((rd_T61 l1 x9_1).f1), .int .i64 ((rd_T61 l1 x9_1).f2)] 61 (0, 0)) (by (with_reducible repeat (first | refine blk_drewN ?_ _ | refine blk_drew ?_ | refine blk_alloc ?_ _)); refine blk_put (cs := #[.int .i64 ((rd_T61 l1 x9_1).f0), .int .i64 ((rd_T61 l1 x9_1).f1), .int .i64 0]) ?_ 2 _ rfl; (with_reducible repeat (first | refine blk_drewN ?_ _ | refine blk_drew ?_ | refine blk_alloc ?_ _)); refine blk_put (cs := #[.int .i64 ((rd_T61 l1 x9_1).f0), .int .i64 0, .int .i64 0]) ?_ 1 _ rfl; (with_reducible repeat (first | refine blk_drewN ?_ _ | refine blk_drew ?_ | refine blk_alloc ?_ _)); refine blk_put (cs := #[.int .i64 0, .int .i64 0, .int .i64 0]) ?_ 0 _ rfl; (with_reducible repeat (first | refine blk_drewN ?_ _ | refine blk_drew ?_ | refine blk_alloc ?_ _)); exact BK228.out) hb); replace HB := A_ (below_step (hq HB) hb); clear hb ho45; obtain ⟨Ao46, co46, eo46⟩ := Kd.R_slice HO231.out; subst eo46) | ((with_reducible refine gate_callee (f := 69) rfl ?_); refine gL (some 17) Try.func69 #[.agg #[.int .i64 a0_0, .bool a0_1], .slice Ao46 y229.length co46] ?_; (with_reducible refine (impl_Road_has.calls k1 a0_0 a0_1 _ _ y229 false _ ?side1 ?side2 A7.out).mono ?_); (case side1 => exact cq (Kd.R_reads' HO231.out).2.2); (case side2 => exact (Kd.R_reads' HO231.out).2.1); rintro e w47 ⟨rfl, hb⟩; refine ⟨_, rfl, ?_⟩; replace HO231 := A_ (Kd.R_below (rq HO231) hb); replace BK226 := A_ (blk_below (bq BK226) hb); replace BK228 := A_ (blk_below (bq BK228) hb); replace HB := A_ (below_step (hq HB) hb); clear hb))
       go_ret
       exact ⟨rt, hq HB⟩
     ·
      rw [if_neg c6] at H; exact absurd H (by simp)
    ·
     rw [if_neg c5] at H; exact absurd H (by simp)
   ·
    rw [if_neg c4] at H; have c4b0 := decide_eq_false c4; clear c4; obtain rfl := Option.some.inj H; go_wp2
    go_ret
    exact ⟨rt, hq HB⟩

/-! ### cmp_isNaN_int: function 84 -/
def cmp_isNaN_int.f (a0 : Int) : Option (Bool) := some (a0 != a0)
set_option maxHeartbeats 8000000 in
set_option maxRecDepth 100000 in
theorem cmp_isNaN_int.calls (a0 : Int) (r : Bool) (w : World) (h : cmp_isNaN_int.f a0 = some r) :
    Calls Try.prog 84 #[.int .i64 a0] w fun e w' => e = .returned (.bool r) ∧ Drawn0 w w' := by
 have H : (some (a0 != a0)) = some r := h; clear h; obtain rfl := Option.some.inj H; go_enter Try.func84, Try.ntmps84
 go_wp2
 go_ret
 exact ⟨rf, by repeat (first | exact Drawn0.refl _ | apply Drawn0.step)⟩

/-! ### cmp_Less_int: function 80 -/
def cmp_Less_int.f (a0 : Int) (a1 : Int) : Option (Bool) := (cmp_isNaN_int.f a0).bind fun t235 => (if t235 = true then ((cmp_isNaN_int.f a1).bind fun t236 => (if t236 = true then (some (decide (a0 < a1))) else (some true))) else (some (decide (a0 < a1))))
set_option maxHeartbeats 8000000 in
set_option maxRecDepth 100000 in
theorem cmp_Less_int.calls (a0 : Int) (a1 : Int) (r : Bool) (w : World) (h : cmp_Less_int.f a0 a1 = some r) :
    Calls Try.prog 80 #[.int .i64 a0, .int .i64 a1] w fun e w' => e = .returned (.bool r) ∧ Drawn0 w w' := by
 have H : ((cmp_isNaN_int.f a0).bind fun t235 => (if t235 = true then ((cmp_isNaN_int.f a1).bind fun t236 => (if t236 = true then (some (decide (a0 < a1))) else (some true))) else (some (decide (a0 < a1))))) = some r := h; clear h; replace H := bm H; obtain ⟨t235, A3, H⟩ := H; by_cases c4 : t235 = true
 ·
  subst c4
  have H1 : ((cmp_isNaN_int.f a1).bind fun t236 => (if t236 = true then (some (decide (a0 < a1))) else (some true))) = some r := by rw [if_pos rfl] at H; exact H
  clear H; have H := H1; clear H1; replace H := bm H; obtain ⟨t236, A5, H⟩ := H; by_cases c6 : t236 = true
  ·
   subst c6
   have H1 : (some (decide (a0 < a1))) = some r := by rw [if_pos rfl] at H; exact H
   clear H; have H := H1; clear H1; obtain rfl := Option.some.inj H; go_enter Try.func80, Try.ntmps80
   go_wp2_with (first | ((with_reducible refine gate_callee (f := 84) rfl ?_); refine gL (some 6) Try.func84 #[.int .i64 a0] ?_; (with_reducible refine (cmp_isNaN_int.calls a0 true _ A3.out).mono ?_); rintro e w' ⟨rfl, ⟨nd, rfl⟩⟩; refine ⟨_, rfl, ?_⟩) | (go_at_call 84; (with_reducible refine (cmp_isNaN_int.calls a1 true _ A5.out).mono ?_); rintro e w' ⟨rfl, ⟨nd, rfl⟩⟩))
   go_ret
   exact ⟨rf, by repeat (first | exact Drawn0.refl _ | apply Drawn0.step)⟩
  ·
   replace c6 := Bool.eq_false_iff.mpr c6; subst c6
   have H1 : (some true) = some r := by rw [if_neg (show ¬ (false = true) by decide)] at H; exact H
   clear H; have H := H1; clear H1; obtain rfl := Option.some.inj H; go_enter Try.func80, Try.ntmps80
   go_wp2_with (first | ((with_reducible refine gate_callee (f := 84) rfl ?_); refine gL (some 6) Try.func84 #[.int .i64 a0] ?_; (with_reducible refine (cmp_isNaN_int.calls a0 true _ A3.out).mono ?_); rintro e w' ⟨rfl, ⟨nd, rfl⟩⟩; refine ⟨_, rfl, ?_⟩) | (go_at_call 84; (with_reducible refine (cmp_isNaN_int.calls a1 false _ A5.out).mono ?_); rintro e w' ⟨rfl, ⟨nd, rfl⟩⟩))
   go_ret
   exact ⟨rf, by repeat (first | exact Drawn0.refl _ | apply Drawn0.step)⟩
 ·
  replace c4 := Bool.eq_false_iff.mpr c4; subst c4
  have H1 : (some (decide (a0 < a1))) = some r := by rw [if_neg (show ¬ (false = true) by decide)] at H; exact H
  clear H; have H := H1; clear H1; obtain rfl := Option.some.inj H; go_enter Try.func80, Try.ntmps80
  go_wp2_with (first | ((with_reducible refine gate_callee (f := 84) rfl ?_); refine gL (some 6) Try.func84 #[.int .i64 a0] ?_; (with_reducible refine (cmp_isNaN_int.calls a0 false _ A3.out).mono ?_); rintro e w' ⟨rfl, ⟨nd, rfl⟩⟩; refine ⟨_, rfl, ?_⟩))
  go_ret
  exact ⟨rf, by repeat (first | exact Drawn0.refl _ | apply Drawn0.step)⟩

end Go.Proofs.Ythgbkekfekcfaaa.PFnExactFirstArrival
