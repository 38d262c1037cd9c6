-- Told shorter still by shrink2.py.
-- Printed, and told shorter by this session's program shrink.py.
-- Printed by this session's program myprint.py.
import Derived.Test.YtbjpfnpleajhgaaPFnWalksx0
import Derived.Test.YtbjpfnpleajhgaaPFnWalksx1
import Derived.Test.YtbjpfnpleajhgaaPFnWalksx4
import Derived.Test.YtbjpfnpleajhgaaPFnWalksx6
namespace Go.Proofs.Ytbjpfnpleajhgaa.PFnWalks
open Go.RowKit Go.Proofs.Ytbjpfnpleajhgaa.Own Go.Proofs.YtbjpfnpleajhgaaW.PrintWords Go.Proofs.YtbjpfnpleajhgaaW.PrintLast Go.Proofs.YtbjpfnpleajhgaaW.PrintMore
attribute [local go_sem] max2_int min2_int max_two min_two max_three min_three max_four min_four   -- for this text's walks alone
set_option linter.unusedVariables false
set_option linter.unusedSimpArgs false

/-! ### spec_l2Way: function 37 -/
def Q57.f (a0_0 : Int) (a0_1 : Bool) (a1 : Int) (a2 : Int) : Option (Int) := if a2 = a1 then (some 0) else ((Q35.f a0_0 a0_1 a1 1).bind fun t339 => (if a2 = t339 then (some 1) else (some (-1))))
set_option maxHeartbeats 8000000 in
set_option maxRecDepth 100000 in
theorem Q57.calls (a0_0 : Int) (a0_1 : Bool) (a1 : Int) (a2 : Int) (r : Int) (w : World) (h : Q57.f a0_0 a0_1 a1 a2 = some r) :
    Calls Try.prog 37 #[.agg #[.int .i64 a0_0, .bool a0_1], .int .i64 a1, .int .i64 a2] w fun e w' => e = .returned (.int .i64 r) ∧ Below w.heap.size w w' := by
 have hu25 := Try.underlying25; have HB := A_ (Below.refl w.heap.size w); have H : (if a2 = a1 then (some 0) else ((Q35.f a0_0 a0_1 a1 1).bind fun t339 => (if a2 = t339 then (some 1) else (some (-1))))) = some r := h; clear h; by_cases c4 : a2 = a1
 ·
  rw [if_pos c4] at H; have c4b0 : (a2 == a1) = true := beq_iff_eq.mpr c4; have c4b1 : (a2 != a1) = false := bne_eq_false_iff_eq.mpr c4; clear c4; obtain rfl := Option.some.inj H; go_enter Try.func37, Try.ntmps37
  go_wp2_with (first | ((with_reducible refine gate_dst (N := 3) rfl ?_); refine bx (N := 3) #[.int .i64 a0_0, .bool a0_1] 25 ?_; intro gb338 hg w5 hbox hb; have BK338 := A_ (hbox); have GW338 := A_ (bs hg (hq HB) : w.heap.size ≤ gb338); have GE338 := A_ (bs hg (hq HB) : w.heap.size ≤ gb338); replace HB := A_ (below_step (hq HB) hb); clear hb hbox hg))
  go_ret
  exact ⟨rt, hq HB⟩
 ·
  rw [if_neg c4] at H; have c4b0 : (a2 == a1) = false := beq_eq_false_iff_ne.mpr c4; have c4b1 : (a2 != a1) = true := bne_iff_ne.mpr c4; replace H := bm H; obtain ⟨t339, A6, H⟩ := H; by_cases c7 : a2 = t339
  ·
   rw [if_pos c7] at H; have c7b0 : (a2 == t339) = true := beq_iff_eq.mpr c7; have c7b1 : (a2 != t339) = false := bne_eq_false_iff_eq.mpr c7; clear c7; obtain rfl := Option.some.inj H; go_enter Try.func37, Try.ntmps37
   go_wp2_with (first | ((with_reducible refine gate_dst (N := 3) rfl ?_); refine bx (N := 3) #[.int .i64 a0_0, .bool a0_1] 25 ?_; intro gb338 hg w8 hbox hb; have BK338 := A_ (hbox); have GW338 := A_ (bs hg (hq HB) : w.heap.size ≤ gb338); have GE338 := A_ (bs hg (hq HB) : w.heap.size ≤ gb338); replace HB := A_ (below_step (hq HB) hb); clear hb hbox hg; have hcz9_0 : w8.cell? ⟨gb338, 0, none⟩ = some (.int .i64 a0_0) := bc BK338 0; have hcz9_1 : w8.cell? ⟨gb338, 1, none⟩ = some (.bool a0_1) := bc BK338 1; have hfz9_0 := blk_frozen BK338.out 0; have hfz9_1 := blk_frozen BK338.out 1) | ((with_reducible refine gate_callee (f := 65) rfl ?_); refine gL (some 14) Try.func65 #[.agg #[.int .i64 a0_0, .bool a0_1], .int .i64 a1, .int .i64 1] ?_; (with_reducible refine (Q35.calls a0_0 a0_1 a1 1 t339 _ A6.out).mono ?_); rintro e w10 ⟨rfl, hb⟩; refine ⟨_, rfl, ?_⟩; replace BK338 := A_ (blk_below (bq BK338) hb); replace HB := A_ (below_step (hq HB) hb); clear hb))
   go_ret
   exact ⟨rt, hq HB⟩
  ·
   rw [if_neg c7] at H; have c7b0 : (a2 == t339) = false := beq_eq_false_iff_ne.mpr c7; have c7b1 : (a2 != t339) = true := bne_iff_ne.mpr c7; obtain rfl := Option.some.inj H; go_enter Try.func37, Try.ntmps37
   go_wp2_with (first | ((with_reducible refine gate_dst (N := 3) rfl ?_); refine bx (N := 3) #[.int .i64 a0_0, .bool a0_1] 25 ?_; intro gb338 hg w11 hbox hb; have BK338 := A_ (hbox); have GW338 := A_ (bs hg (hq HB) : w.heap.size ≤ gb338); have GE338 := A_ (bs hg (hq HB) : w.heap.size ≤ gb338); replace HB := A_ (below_step (hq HB) hb); clear hb hbox hg; have hcz12_0 : w11.cell? ⟨gb338, 0, none⟩ = some (.int .i64 a0_0) := bc BK338 0; have hcz12_1 : w11.cell? ⟨gb338, 1, none⟩ = some (.bool a0_1) := bc BK338 1; have hfz12_0 := blk_frozen BK338.out 0; have hfz12_1 := blk_frozen BK338.out 1) | ((with_reducible refine gate_callee (f := 65) rfl ?_); refine gL (some 14) Try.func65 #[.agg #[.int .i64 a0_0, .bool a0_1], .int .i64 a1, .int .i64 1] ?_; (with_reducible refine (Q35.calls a0_0 a0_1 a1 1 t339 _ A6.out).mono ?_); rintro e w13 ⟨rfl, hb⟩; refine ⟨_, rfl, ?_⟩; replace BK338 := A_ (blk_below (bq BK338) hb); replace HB := A_ (below_step (hq HB) hb); clear hb))
   go_ret
   exact ⟨rt, hq HB⟩

/-! ### spec_TurnTimes: function 14 -/
def Q9.l0 : Nat → List Int → List Int → Int → Int → Int → Bool → Option (List Int × Bool)
  | 0, _, _, _, _, _, _ => none
  | k + 1, x1, x6, x7, x8, x341000, x341001 => if x8 < (x1.length : Int) then (if 0 ≤ (wrap64 (x8 - 1)) then (if (wrap64 (x8 - 1)) < (x1.length : Int) then (if 0 ≤ x8 then ((Q57.f x341000 x341001 (rd x1 (wrap64 (x8 - 1))) (rd x1 x8)).bind fun t347 => (if t347 = 0 then (Q9.l0 k x1 x6 x7 (wrap64 (x8 + 1)) x341000 x341001) else (if x7 = (wrap64 (-t347)) then (if x6.length < 17592186044416 then (Q9.l0 k x1 (x6 ++ [wrap64 (x8 - 1)]) t347 (wrap64 (x8 + 1)) x341000 x341001) else (none)) else (Q9.l0 k x1 x6 t347 (wrap64 (x8 + 1)) x341000 x341001)))) else (none)) else (none)) else (none)) else (some (x6, true))
def Q9.f (k : Nat) (a0_0 : Int) (a0_1 : Bool) (l1 : List Int) : Option (List Int × Bool) := (some (([] : List Int) : List Int)).bind fun y341 => ((Q1.f k a0_0 a0_1 l1).bind fun t344 => (if t344 = true then (Q9.l0 k l1 y341 0 1 a0_0 a0_1) else (some (y341, false))))
def Q9.T8 : Bool × List (List Nat × List Nat) := (true, [([], []), ([], []), ([], []), ([2], [2]), ([1, 3], [1, 3]), ([4], [4]), ([], []), ([], []), ([6, 7], [6, 7]), ([8], [8]), ([0, 5, 9], [0, 5, 9]), ([10, 10, 0, 1, 2, 3, 4, 5, 6, 7, 8, 9, 10], [10])])
def Q9.B8 : List Nat := [0, 0, 0, 4, 14, 30, 0, 0, 192, 448, 1023, 2047]
theorem Q9.tab8 : rtab .any (opsOf Try.f14 8) = Q9.T8 := by kernel_rfl
theorem Q9.bits8 : waitsOk Q9.T8.2 Q9.B8 = true := by kernel_rfl
set_option maxHeartbeats 8000000 in
set_option maxRecDepth 100000 in
theorem Q9.calls (k : Nat) (a0_0 : Int) (a0_1 : Bool) (A1 : Option Addr) (c1 : Nat) (l1 : List Int) (r1 : List Int) (r2 : Bool) (w : World) (hr1 : Kd.C (Kd.int .i64) w A1 l1.length l1) (hc1 : l1.length ≤ c1) (h : Q9.f k a0_0 a0_1 l1 = some (r1, r2)) :
    Calls Try.prog 14 #[.agg #[.int .i64 a0_0, .bool a0_1], .slice A1 l1.length c1] w fun e w' => ∃ v0_ : Value, e = .returned (.tuple #[v0_, .bool r2]) ∧ Kd.R (Kd.int .i64) 3 w' w.heap.size (fun _ => True) v0_ r1 ∧ Below w.heap.size w w' := by
 have hu25 := Try.underlying25; have HR1 := A_ hr1; have HC1 := A_ hc1; clear hr1 hc1; have HB := A_ (Below.refl w.heap.size w); have H : ((some (([] : List Int) : List Int)).bind fun y341 => ((Q1.f k a0_0 a0_1 l1).bind fun t344 => (if t344 = true then (Q9.l0 k l1 y341 0 1 a0_0 a0_1) else (some (y341, false))))) = some (r1, r2) := h; clear h
 obtain ⟨y341, hy341⟩ : ∃ y_ : List Int, y_ = (([] : List Int)) := ⟨_, rfl⟩
 replace H : ((Q1.f k a0_0 a0_1 l1).bind fun t344 => (if t344 = true then (Q9.l0 k l1 y341 0 1 a0_0 a0_1) else (some (y341, false)))) = some (r1, r2) := by first | (rw [hy341]; with_reducible exact H) | (have H2_ := (Option.bind_some _ _).symm.trans H; rw [hy341]; with_reducible exact H2_) | (have H2_ := (Option.bind_some _ _).symm.trans H; with_reducible exact H2_) | with_reducible exact H | (rw [hy341]; exact H) | exact H
 have Ny341 := A_ hy341; clear hy341; replace H := bm H; obtain ⟨t344, A3, H⟩ := H; by_cases c4 : t344 = true
 ·
  subst c4
  have H1 : (Q9.l0 k l1 y341 0 1 a0_0 a0_1) = some (r1, r2) := by rw [if_pos rfl] at H; exact H
  clear H; have H := H1; clear H1; have H' := A_ H; clear H; go_enter Try.func14, Try.ntmps14
  go_wp2_with (first | ((with_reducible refine gate_dst (N := 2) rfl ?_); refine bx (N := 2) #[.int .i64 a0_0, .bool a0_1] 25 ?_; intro gb340 hg w5 hbox hb; have BK340 := A_ (hbox); have GW340 := A_ (bs hg (hq HB) : w.heap.size ≤ gb340); have GE340 := A_ (bs hg (hq HB) : w.heap.size ≤ gb340); replace HB := A_ (below_step (hq HB) hb); clear hb hbox hg) | ((with_reducible refine gate_dst (N := 10) rfl ?_); refine Kd.R_lit (Kd.int .i64) _ 3 ?hg (N := 10) ?hd (xs := ([] : List Int)) (inner := []) (ok := fun _ => True) (okp := fun _ => True) ?hr ?hp (fun _ hk => hk) trivial (Below.refl _ _) (Nat.le_refl _) (by simp) ?_; (case hd => rfl); (case hg => rfl); (case hr => first | (go_simp; done) | (go_simp; rfl)); (case hp => exact (Reps.none _ _)); intro v342 w6 ho7 hb hg_ hnew_; clear hg_ hnew_; (first | rw [← Ny341.out] at ho7 | (simp only [Int.reduceToNat] at ho7; rw [← Ny341.out] at ho7)); have HO343 := A_ (Kd.R_lower ho7 (below_size (hq HB))); replace BK340 := A_ (blk_below (bq BK340) hb); replace HB := A_ (below_step (hq HB) hb); clear hb ho7; have hcz8_0 : w6.cell? ⟨gb340, 0, none⟩ = some (.int .i64 a0_0) := bc BK340 0; have hcz8_1 : w6.cell? ⟨gb340, 1, none⟩ = some (.bool a0_1) := bc BK340 1; have hfz8_0 := blk_frozen BK340.out 0; have hfz8_1 := blk_frozen BK340.out 1) | ((with_reducible refine gate_callee (f := 31) rfl ?_); refine gL (some 13) Try.func31 #[.agg #[.int .i64 a0_0, .bool a0_1], .slice A1 l1.length c1] ?_; (with_reducible refine (Q1.calls k a0_0 a0_1 _ _ l1 true _ ?side1 ?side2 A3.out).mono ?_); (case side1 => exact cq (Kd.C_below HR1.out HB.out)); (case side2 => exact HC1.out); rintro e w9 ⟨rfl, hb⟩; refine ⟨_, rfl, ?_⟩; replace HO343 := A_ (Kd.R_below (rq HO343) hb); replace BK340 := A_ (blk_below (bq BK340) hb); replace HB := A_ (below_step (hq HB) hb); clear hb))
  go_loopg [6, 7, 8] k (fun kq v6 v7 v8 w' => ∃ (x6_1 : List Int) (x7_1 : Int) (x8_1 : Int), v7 = .int .i64 x7_1 ∧ v8 = .int .i64 x8_1 ∧ Aside0 (Q9.l0 kq l1 x6_1 x7_1 x8_1 a0_0 a0_1 = some (r1, r2)) ∧ Aside0 (kq ≤ k) ∧ Aside0 (Kd.R (Kd.int .i64) 3 w' w.heap.size (fun _ => True) v6 x6_1) ∧ Aside0 (w'.heap[gb340]? = some (.cells #[.int .i64 a0_0, .bool a0_1] 25 (0, 0))) ∧ Aside0 (Below w.heap.size w w'))
  case atStart => exact ⟨(y341), (0), (1), rf, rf, H', ⟨Nat.le_refl _⟩, ⟨rq HO343⟩, ⟨bq BK340⟩, ⟨hq HB⟩⟩
  case round =>
   clear H'; (try clear c4); (try clear hcz8_0); (try clear hcz8_1); (try clear hfz8_0); (try clear hfz8_1); obtain ⟨x6_1, x7_1, x8_1, rfl, rfl, HA, HK1, HO_6, BK340, HB⟩ := hrel
   cases gk with
   | zero => exact absurd HA.out (by simp [Q9.l0])
   | succ k1 =>
    have H := HA.out; clear HA; simp only [Q9.l0] at H
    by_cases c10 : x8_1 < (l1.length : Int)
    ·
     rw [if_pos c10] at H; have c10b0 := decide_eq_true c10; clear c10
     obtain ⟨ji11, hji11⟩ : ∃ j_ : Int, (wrap64 (x8_1 - 1)) = j_ := ⟨_, rfl⟩
     replace H : (if 0 ≤ (ji11) then (if (ji11) < (l1.length : Int) then (if 0 ≤ x8_1 then ((Q57.f a0_0 a0_1 (rd l1 (ji11)) (rd l1 x8_1)).bind fun t347 => (if t347 = 0 then (Q9.l0 k1 l1 x6_1 x7_1 (wrap64 (x8_1 + 1)) a0_0 a0_1) else (if x7_1 = (wrap64 (-t347)) then (if x6_1.length < 17592186044416 then (Q9.l0 k1 l1 (x6_1 ++ [ji11]) t347 (wrap64 (x8_1 + 1)) a0_0 a0_1) else (none)) else (Q9.l0 k1 l1 x6_1 t347 (wrap64 (x8_1 + 1)) a0_0 a0_1)))) else (none)) else (none)) else (none)) = some (r1, r2) := by first | (rw [hji11] at H; exact H) | (simp only [hji11] at H ⊢; exact H)
     have hji11w : (IntKind.i64.wrap (x8_1 - 1)) = ji11 := (i64_w _).trans hji11; by_cases c12 : 0 ≤ (ji11)
     ·
      rw [if_pos c12] at H; have c12b0 := decide_eq_true c12; clear c12; by_cases c13 : (ji11) < (l1.length : Int)
      ·
       rw [if_pos c13] at H; have c13b0 := decide_eq_true c13; clear c13; by_cases c14 : 0 ≤ x8_1
       ·
        rw [if_pos c14] at H; have c14b0 := decide_eq_true c14; clear c14; replace H := bm H; obtain ⟨t347, A15, H⟩ := H; by_cases c16 : t347 = 0
        ·
         rw [if_pos c16] at H; have c16b0 : (t347 == 0) = true := beq_iff_eq.mpr c16; have c16b1 : (t347 != 0) = false := bne_eq_false_iff_eq.mpr c16; clear c16; have H' := A_ H; clear H; try go_wp2
         replace HO_6 := A_ (Kd.R_drew HO_6.out); replace BK340 := A_ (blk_drew BK340.out); replace HB := A_ (below_drew1 HB.out); have p345 : 0 ≤ ((ji11) : Int) := dq; have q345 : (ji11) < (l1.length : Int) := dq; obtain ⟨ad345, e345, hx345_0⟩ := Kd.at_int HR1.out (ji11) p345 q345; have hw345_0 := hx345_0
         cases e345
         replace hx345_0 := (HB.out.cell (World.block_lt_of_cell? w _ hx345_0)).trans hx345_0; replace p345 := eq_true p345; replace q345 := eq_true q345; have p346 : 0 ≤ (x8_1 : Int) := dq; have q346 : x8_1 < (l1.length : Int) := dq; obtain ⟨ad346, e346, hx346_0⟩ := Kd.at_int HR1.out x8_1 p346 q346; have hw346_0 := hx346_0
         obtain rfl : ad345 = ad346 := (by injection e346)
         replace hx346_0 := (HB.out.cell (World.block_lt_of_cell? w _ hx346_0)).trans hx346_0; replace p346 := eq_true p346; replace q346 := eq_true q346; refine start_ (n := 12) (S := fun w' => w'.cell? ⟨gb340, 0, none⟩ = some (.int .i64 a0_0) ∧ w'.cell? ⟨gb340, 1, none⟩ = some (.bool a0_1) ∧ w'.cell? (ad345.add ((ji11)).toNat) = some (.int .i64 (rd l1 (ji11))) ∧ w'.cell? (ad345.add (x8_1).toNat) = some (.int .i64 (rd l1 x8_1))) (ds := []) #[false, false, false, false, false, false, false, false, false, false, false, false] (by kernel_rfl) rfl rfl ⟨bc BK340 0, bc BK340 1, ((HB.out.cell (World.block_lt_of_cell? w _ hw345_0)).trans hw345_0), ((HB.out.cell (World.block_lt_of_cell? w _ hw346_0)).trans hw346_0)⟩ (fun hHeld => ?_); refine with_tabW Q9.tab8 Q9.bits8 (fun HT_ HW_ => ?_); generalize wr.drew = w17 at HO_6 BK340 HB hx345_0 hx346_0 hHeld ⊢; refine puT (i := 1) (N := some 23) HT_ #[false, true, false, false, false, false, false, false, false, false, false, false] ?_; refine puT (i := 2) (N := some 24) HT_ #[false, true, true, false, false, false, false, false, false, false, false, false] ?_; refine puT (i := 3) (N := some 25) HT_ #[false, true, true, true, false, false, false, false, false, false, false, false] ?_; refine puT (i := 4) (N := some 26) HT_ #[false, true, true, true, true, false, false, false, false, false, false, false] ?_; refine puT (i := 6) (N := some 28) HT_ #[false, true, true, true, true, false, true, false, false, false, false, false] ?_; refine puT (i := 7) (N := some 29) HT_ #[false, true, true, true, true, false, true, true, false, false, false, false] ?_; refine puT (i := 8) (N := some 30) HT_ #[false, true, true, true, true, false, true, true, true, false, false, false] ?_; refine tkT (i := 0) (N := some 22) HT_ HW_ hHeld #[true, true, true, true, true, false, true, true, true, false, false, false] ?_; refine tkT (i := 5) (N := some 27) HT_ HW_ hHeld #[true, true, true, true, true, true, true, true, true, false, false, false] ?_; refine tkT (i := 9) (N := some 31) HT_ HW_ hHeld #[true, true, true, true, true, true, true, true, true, true, false, false] ?_; refine onT (i := 10) (N := some 32) HT_ #[true, true, true, true, true, true, true, true, true, true, true, false] (fun K hK => ?_); refine goes_ Try.func37 (by kernel_rfl) rfl #[.agg #[.int .i64 a0_0, .bool a0_1], .int .i64 (rd l1 (ji11)), .int .i64 (rd l1 x8_1)] (by rfl) rfl rfl (by (try simp only [List.map_toArray, List.map_cons, List.map_nil]); first | done | (simp only [hji11]; rfl) | rfl | (simp only [List.length_drop, List.length_take]; rfl)) ?_; with_reducible refine (Q57.calls a0_0 a0_1 (rd l1 (ji11)) (rd l1 x8_1) t347 _ A15.out).mono ?_
         rintro e w18 ⟨rfl, hb⟩; refine ⟨_, rfl, ?_⟩; replace HO_6 := A_ (Kd.R_below (rq HO_6) hb); replace BK340 := A_ (blk_below (bq BK340) hb); replace HB := A_ (below_step (hq HB) hb); clear hb; refine hK.out _ _ ⟨bc BK340 0, bc BK340 1, ((HB.out.cell (World.block_lt_of_cell? w _ hw345_0)).trans hw345_0), ((HB.out.cell (World.block_lt_of_cell? w _ hw346_0)).trans hw346_0)⟩ (fun hHeld => ?_); clear hK K; refine nq_ (some 32) ?_; refine puT (i := 11) (N := some 9) HT_ #[true, true, true, true, true, true, true, true, true, true, true, true] ?_; refine done_ (done_of HT_.out (by kernel_rfl)) ?_; try go_wp2
         go_roundg k1
         case measure => have := HK1.out; omega
         case rel => exact ⟨(x6_1), (x7_1), (wrap64 (x8_1 + 1)), rf, rf, H', ⟨by have := HK1.out; omega⟩, ⟨rq HO_6⟩, ⟨bq BK340⟩, ⟨hq HB⟩⟩
        ·
         rw [if_neg c16] at H; have c16b0 : (t347 == 0) = false := beq_eq_false_iff_ne.mpr c16; have c16b1 : (t347 != 0) = true := bne_iff_ne.mpr c16; by_cases c19 : x7_1 = (wrap64 (-t347))
         ·
          rw [if_pos c19] at H; have c19b0 : (x7_1 == (wrap64 (-t347))) = true := beq_iff_eq.mpr c19; have c19b1 : (x7_1 != (wrap64 (-t347))) = false := bne_eq_false_iff_eq.mpr c19; clear c19; by_cases c20 : x6_1.length < 17592186044416
          ·
           rw [if_pos c20] at H; have LMc20 := A_ c20; clear c20
           obtain ⟨y348, hy348⟩ : ∃ y_ : List Int, y_ = (x6_1 ++ [ji11]) := ⟨_, rfl⟩
           replace H : (Q9.l0 k1 l1 y348 t347 (wrap64 (x8_1 + 1)) a0_0 a0_1) = some (r1, r2) := by first | (rw [hy348]; with_reducible exact H) | (have H2_ := (Option.bind_some _ _).symm.trans H; rw [hy348]; with_reducible exact H2_) | (have H2_ := (Option.bind_some _ _).symm.trans H; with_reducible exact H2_) | with_reducible exact H | (rw [hy348]; exact H) | exact H
           have Ny348 := A_ hy348; clear hy348; have H' := A_ H; clear H; try go_wp2
           replace HO_6 := A_ (Kd.R_drew HO_6.out); replace BK340 := A_ (blk_drew BK340.out); replace HB := A_ (below_drew1 HB.out); have p345 : 0 ≤ ((ji11) : Int) := dq; have q345 : (ji11) < (l1.length : Int) := dq; obtain ⟨ad345, e345, hx345_0⟩ := Kd.at_int HR1.out (ji11) p345 q345; have hw345_0 := hx345_0
           cases e345
           replace hx345_0 := (HB.out.cell (World.block_lt_of_cell? w _ hx345_0)).trans hx345_0; replace p345 := eq_true p345; replace q345 := eq_true q345; have p346 : 0 ≤ (x8_1 : Int) := dq; have q346 : x8_1 < (l1.length : Int) := dq; obtain ⟨ad346, e346, hx346_0⟩ := Kd.at_int HR1.out x8_1 p346 q346; have hw346_0 := hx346_0
           obtain rfl : ad345 = ad346 := (by injection e346)
           replace hx346_0 := (HB.out.cell (World.block_lt_of_cell? w _ hx346_0)).trans hx346_0; replace p346 := eq_true p346; replace q346 := eq_true q346; refine start_ (n := 12) (S := fun w' => w'.cell? ⟨gb340, 0, none⟩ = some (.int .i64 a0_0) ∧ w'.cell? ⟨gb340, 1, none⟩ = some (.bool a0_1) ∧ w'.cell? (ad345.add ((ji11)).toNat) = some (.int .i64 (rd l1 (ji11))) ∧ w'.cell? (ad345.add (x8_1).toNat) = some (.int .i64 (rd l1 x8_1))) (ds := []) #[false, false, false, false, false, false, false, false, false, false, false, false] (by kernel_rfl) rfl rfl ⟨bc BK340 0, bc BK340 1, ((HB.out.cell (World.block_lt_of_cell? w _ hw345_0)).trans hw345_0), ((HB.out.cell (World.block_lt_of_cell? w _ hw346_0)).trans hw346_0)⟩ (fun hHeld => ?_); refine with_tabW Q9.tab8 Q9.bits8 (fun HT_ HW_ => ?_); generalize wr.drew = w21 at HO_6 BK340 HB hx345_0 hx346_0 hHeld ⊢; refine puT (i := 1) (N := some 23) HT_ #[false, true, false, false, false, false, false, false, false, false, false, false] ?_; refine puT (i := 2) (N := some 24) HT_ #[false, true, true, false, false, false, false, false, false, false, false, false] ?_; refine puT (i := 3) (N := some 25) HT_ #[false, true, true, true, false, false, false, false, false, false, false, false] ?_; refine puT (i := 4) (N := some 26) HT_ #[false, true, true, true, true, false, false, false, false, false, false, false] ?_; refine puT (i := 6) (N := some 28) HT_ #[false, true, true, true, true, false, true, false, false, false, false, false] ?_; refine puT (i := 7) (N := some 29) HT_ #[false, true, true, true, true, false, true, true, false, false, false, false] ?_; refine puT (i := 8) (N := some 30) HT_ #[false, true, true, true, true, false, true, true, true, false, false, false] ?_; refine tkT (i := 0) (N := some 22) HT_ HW_ hHeld #[true, true, true, true, true, false, true, true, true, false, false, false] ?_; refine tkT (i := 5) (N := some 27) HT_ HW_ hHeld #[true, true, true, true, true, true, true, true, true, false, false, false] ?_; refine tkT (i := 9) (N := some 31) HT_ HW_ hHeld #[true, true, true, true, true, true, true, true, true, true, false, false] ?_; refine onT (i := 10) (N := some 32) HT_ #[true, true, true, true, true, true, true, true, true, true, true, false] (fun K hK => ?_); refine goes_ Try.func37 (by kernel_rfl) rfl #[.agg #[.int .i64 a0_0, .bool a0_1], .int .i64 (rd l1 (ji11)), .int .i64 (rd l1 x8_1)] (by rfl) rfl rfl (by (try simp only [List.map_toArray, List.map_cons, List.map_nil]); first | done | (simp only [hji11]; rfl) | rfl | (simp only [List.length_drop, List.length_take]; rfl)) ?_; with_reducible refine (Q57.calls a0_0 a0_1 (rd l1 (ji11)) (rd l1 x8_1) t347 _ A15.out).mono ?_
           rintro e w22 ⟨rfl, hb⟩; refine ⟨_, rfl, ?_⟩; replace HO_6 := A_ (Kd.R_below (rq HO_6) hb); replace BK340 := A_ (blk_below (bq BK340) hb); replace HB := A_ (below_step (hq HB) hb); clear hb; refine hK.out _ _ ⟨bc BK340 0, bc BK340 1, ((HB.out.cell (World.block_lt_of_cell? w _ hw345_0)).trans hw345_0), ((HB.out.cell (World.block_lt_of_cell? w _ hw346_0)).trans hw346_0)⟩ (fun hHeld => ?_); clear hK K; refine nq_ (some 32) ?_; refine puT (i := 11) (N := some 9) HT_ #[true, true, true, true, true, true, true, true, true, true, true, true] ?_; refine done_ (done_of HT_.out (by kernel_rfl)) ?_; try go_wp2_with (first | ((with_reducible refine gate_builtin (b := .append) (xs := #[.tmp 39, .tmp 42]) rfl ?_); at_builtin; refine Kd.R_append (Kd.int .i64) (w0 := w) w.heap.size rfl (.tmp 39) (.tmp 42) 26 3 (.int .i64 0) 8 rfl Try.underlying26 info3 rfl (by decide) (by omega) u6 x6_1 ji11 [.int .i64 ji11] (fun _ => True) (fun _ => False) rfl rfl ?aP (fun _ hk => hk.elim) ?aF ?aO ?aB ?aS ?aL ?_; (case aP => exact rfl); (case aB => exact (hq HB)); (case aF => exact (fun _ _ => trivial)); (case aO => exact (rq HO_6)); (case aS => exact (below_size (hq HB))); (case aL => have := LMc20.out; omega); intro v349 w23 ho hb hg hat; rw [← Ny348.out] at ho; have n0_ := A_ (blk_grown (g := gb340) (o := .cells #[.int .i64 a0_0, .bool a0_1] 25 (0, 0)) (bq BK340) hg (Kd.R_ne HO_6.out BK340.out (by decide))); have n1_ := A_ (hb); have n2_ := A_ (ho); clear BK340; clear HB; clear HO_6; have BK340 := n0_; have HB := n1_; have HO350 := n2_; clear n0_ n1_ n2_; clear ho hb hg hat))
           go_roundg k1
           case measure => have := HK1.out; omega
           case rel => exact ⟨(y348), (t347), (wrap64 (x8_1 + 1)), rf, rf, H', ⟨by have := HK1.out; omega⟩, ⟨rq HO350⟩, ⟨bq BK340⟩, ⟨hq HB⟩⟩
          ·
           rw [if_neg c20] at H; exact absurd H (by simp)
         ·
          rw [if_neg c19] at H; have c19b0 : (x7_1 == (wrap64 (-t347))) = false := beq_eq_false_iff_ne.mpr c19; have c19b1 : (x7_1 != (wrap64 (-t347))) = true := bne_iff_ne.mpr c19; have H' := A_ H; clear H; try go_wp2
          replace HO_6 := A_ (Kd.R_drew HO_6.out); replace BK340 := A_ (blk_drew BK340.out); replace HB := A_ (below_drew1 HB.out); have p345 : 0 ≤ ((ji11) : Int) := dq; have q345 : (ji11) < (l1.length : Int) := dq; obtain ⟨ad345, e345, hx345_0⟩ := Kd.at_int HR1.out (ji11) p345 q345; have hw345_0 := hx345_0
          cases e345
          replace hx345_0 := (HB.out.cell (World.block_lt_of_cell? w _ hx345_0)).trans hx345_0; replace p345 := eq_true p345; replace q345 := eq_true q345; have p346 : 0 ≤ (x8_1 : Int) := dq; have q346 : x8_1 < (l1.length : Int) := dq; obtain ⟨ad346, e346, hx346_0⟩ := Kd.at_int HR1.out x8_1 p346 q346; have hw346_0 := hx346_0
          obtain rfl : ad345 = ad346 := (by injection e346)
          replace hx346_0 := (HB.out.cell (World.block_lt_of_cell? w _ hx346_0)).trans hx346_0; replace p346 := eq_true p346; replace q346 := eq_true q346; refine start_ (n := 12) (S := fun w' => w'.cell? ⟨gb340, 0, none⟩ = some (.int .i64 a0_0) ∧ w'.cell? ⟨gb340, 1, none⟩ = some (.bool a0_1) ∧ w'.cell? (ad345.add ((ji11)).toNat) = some (.int .i64 (rd l1 (ji11))) ∧ w'.cell? (ad345.add (x8_1).toNat) = some (.int .i64 (rd l1 x8_1))) (ds := []) #[false, false, false, false, false, false, false, false, false, false, false, false] (by kernel_rfl) rfl rfl ⟨bc BK340 0, bc BK340 1, ((HB.out.cell (World.block_lt_of_cell? w _ hw345_0)).trans hw345_0), ((HB.out.cell (World.block_lt_of_cell? w _ hw346_0)).trans hw346_0)⟩ (fun hHeld => ?_); refine with_tabW Q9.tab8 Q9.bits8 (fun HT_ HW_ => ?_); generalize wr.drew = w24 at HO_6 BK340 HB hx345_0 hx346_0 hHeld ⊢; refine puT (i := 1) (N := some 23) HT_ #[false, true, false, false, false, false, false, false, false, false, false, false] ?_; refine puT (i := 2) (N := some 24) HT_ #[false, true, true, false, false, false, false, false, false, false, false, false] ?_; refine puT (i := 3) (N := some 25) HT_ #[false, true, true, true, false, false, false, false, false, false, false, false] ?_; refine puT (i := 4) (N := some 26) HT_ #[false, true, true, true, true, false, false, false, false, false, false, false] ?_; refine puT (i := 6) (N := some 28) HT_ #[false, true, true, true, true, false, true, false, false, false, false, false] ?_; refine puT (i := 7) (N := some 29) HT_ #[false, true, true, true, true, false, true, true, false, false, false, false] ?_; refine puT (i := 8) (N := some 30) HT_ #[false, true, true, true, true, false, true, true, true, false, false, false] ?_; refine tkT (i := 0) (N := some 22) HT_ HW_ hHeld #[true, true, true, true, true, false, true, true, true, false, false, false] ?_; refine tkT (i := 5) (N := some 27) HT_ HW_ hHeld #[true, true, true, true, true, true, true, true, true, false, false, false] ?_; refine tkT (i := 9) (N := some 31) HT_ HW_ hHeld #[true, true, true, true, true, true, true, true, true, true, false, false] ?_; refine onT (i := 10) (N := some 32) HT_ #[true, true, true, true, true, true, true, true, true, true, true, false] (fun K hK => ?_); refine goes_ Try.func37 (by kernel_rfl) rfl #[.agg #[.int .i64 a0_0, .bool a0_1], .int .i64 (rd l1 (ji11)), .int .i64 (rd l1 x8_1)] (by rfl) rfl rfl (by (try simp only [List.map_toArray, List.map_cons, List.map_nil]); first | done | (simp only [hji11]; rfl) | rfl | (simp only [List.length_drop, List.length_take]; rfl)) ?_; with_reducible refine (Q57.calls a0_0 a0_1 (rd l1 (ji11)) (rd l1 x8_1) t347 _ A15.out).mono ?_
          rintro e w25 ⟨rfl, hb⟩; refine ⟨_, rfl, ?_⟩; replace HO_6 := A_ (Kd.R_below (rq HO_6) hb); replace BK340 := A_ (blk_below (bq BK340) hb); replace HB := A_ (below_step (hq HB) hb); clear hb; refine hK.out _ _ ⟨bc BK340 0, bc BK340 1, ((HB.out.cell (World.block_lt_of_cell? w _ hw345_0)).trans hw345_0), ((HB.out.cell (World.block_lt_of_cell? w _ hw346_0)).trans hw346_0)⟩ (fun hHeld => ?_); clear hK K; refine nq_ (some 32) ?_; refine puT (i := 11) (N := some 9) HT_ #[true, true, true, true, true, true, true, true, true, true, true, true] ?_; refine done_ (done_of HT_.out (by kernel_rfl)) ?_; try go_wp2
          go_roundg k1
          case measure => have := HK1.out; omega
          case rel => exact ⟨(x6_1), (t347), (wrap64 (x8_1 + 1)), rf, rf, H', ⟨by have := HK1.out; omega⟩, ⟨rq HO_6⟩, ⟨bq BK340⟩, ⟨hq HB⟩⟩
       ·
        rw [if_neg c14] at H; exact absurd H (by simp)
      ·
       rw [if_neg c13] at H; exact absurd H (by simp)
     ·
      rw [if_neg c12] at H; exact absurd H (by simp)
    ·
     rw [if_neg c10] at H; have c10b0 := decide_eq_false c10; clear c10; simp only [Option.some.injEq, Prod.mk.injEq] at H
     obtain ⟨rfl, rfl⟩ := H; go_wp2
     go_ret2
     exact ⟨_, rt, rq HO_6, hq HB⟩
 ·
  replace c4 := Bool.eq_false_iff.mpr c4; subst c4
  have H1 : (some (y341, false)) = some (r1, r2) := by rw [if_neg (show ¬ (false = true) by decide)] at H; exact H
  clear H; have H := H1; clear H1; simp only [Option.some.injEq, Prod.mk.injEq] at H
  obtain ⟨rfl, rfl⟩ := H; go_enter Try.func14, Try.ntmps14
  go_wp2_with (first | ((with_reducible refine gate_dst (N := 2) rfl ?_); refine bx (N := 2) #[.int .i64 a0_0, .bool a0_1] 25 ?_; intro gb340 hg w26 hbox hb; have BK340 := A_ (hbox); have GW340 := A_ (bs hg (hq HB) : w.heap.size ≤ gb340); have GE340 := A_ (bs hg (hq HB) : w.heap.size ≤ gb340); replace HB := A_ (below_step (hq HB) hb); clear hb hbox hg) | ((with_reducible refine gate_dst (N := 10) rfl ?_); refine Kd.R_lit (Kd.int .i64) _ 3 ?hg (N := 10) ?hd (xs := ([] : List Int)) (inner := []) (ok := fun _ => True) (okp := fun _ => True) ?hr ?hp (fun _ hk => hk) trivial (Below.refl _ _) (Nat.le_refl _) (by simp) ?_; (case hd => rfl); (case hg => rfl); (case hr => first | (go_simp; done) | (go_simp; rfl)); (case hp => exact (Reps.none _ _)); intro v342 w27 ho28 hb hg_ hnew_; clear hg_ hnew_; (first | rw [← Ny341.out] at ho28 | (simp only [Int.reduceToNat] at ho28; rw [← Ny341.out] at ho28)); have HO343 := A_ (Kd.R_lower ho28 (below_size (hq HB))); replace BK340 := A_ (blk_below (bq BK340) hb); replace HB := A_ (below_step (hq HB) hb); clear hb ho28; have hcz29_0 : w27.cell? ⟨gb340, 0, none⟩ = some (.int .i64 a0_0) := bc BK340 0; have hcz29_1 : w27.cell? ⟨gb340, 1, none⟩ = some (.bool a0_1) := bc BK340 1; have hfz29_0 := blk_frozen BK340.out 0; have hfz29_1 := blk_frozen BK340.out 1) | ((with_reducible refine gate_callee (f := 31) rfl ?_); refine gL (some 13) Try.func31 #[.agg #[.int .i64 a0_0, .bool a0_1], .slice A1 l1.length c1] ?_; (with_reducible refine (Q1.calls k a0_0 a0_1 _ _ l1 false _ ?side1 ?side2 A3.out).mono ?_); (case side1 => exact cq (Kd.C_below HR1.out HB.out)); (case side2 => exact HC1.out); rintro e w30 ⟨rfl, hb⟩; refine ⟨_, rfl, ?_⟩; replace HO343 := A_ (Kd.R_below (rq HO343) hb); replace BK340 := A_ (blk_below (bq BK340) hb); replace HB := A_ (below_step (hq HB) hb); clear hb))
  go_ret2
  exact ⟨_, rt, rq HO343, hq HB⟩

-- NOT PRINTED: function 38 (impl_mapped)

/-! ### impl_Road_mirror: function 39 -/
def Q67.f (a0_0 : Int) (a0_1 : Bool) (a1 : Int) : Option (Int) := some (wrap64 ((wrap64 (a0_0 - 1)) - a1))
set_option maxHeartbeats 8000000 in
set_option maxRecDepth 100000 in
theorem Q67.calls (a0_0 : Int) (a0_1 : Bool) (a1 : Int) (r : Int) (w : World) (h : Q67.f a0_0 a0_1 a1 = some r) :
    Calls Try.prog 39 #[.agg #[.int .i64 a0_0, .bool a0_1], .int .i64 a1] w fun e w' => e = .returned (.int .i64 r) ∧ Below w.heap.size w w' := by
 have hu25 := Try.underlying25; have HB := A_ (Below.refl w.heap.size w); have H : (some (wrap64 ((wrap64 (a0_0 - 1)) - a1))) = some r := h; clear h; obtain rfl := Option.some.inj H; go_enter Try.func39, Try.ntmps39
 go_wp2_with (first | ((with_reducible refine gate_dst (N := 2) rfl ?_); refine bx (N := 2) #[.int .i64 a0_0, .bool a0_1] 25 ?_; intro gb351 hg w3 hbox hb; have BK351 := A_ (hbox); have GW351 := A_ (bs hg (hq HB) : w.heap.size ≤ gb351); have GE351 := A_ (bs hg (hq HB) : w.heap.size ≤ gb351); replace HB := A_ (below_step (hq HB) hb); clear hb hbox hg; have hcz4_0 : w3.cell? ⟨gb351, 0, none⟩ = some (.int .i64 a0_0) := bc BK351 0; have hcz4_1 : w3.cell? ⟨gb351, 1, none⟩ = some (.bool a0_1) := bc BK351 1; have hfz4_0 := blk_frozen BK351.out 0; have hfz4_1 := blk_frozen BK351.out 1))
 go_ret
 exact ⟨rt, hq HB⟩

/-! ### impl_mapped__Road_mirror: function 38 -/
def Q31.l0 : Nat → List Int → List Int → Int → Int → Int → Bool → Option (List Int)
  | 0, _, _, _, _, _, _ => none
  | k + 1, x5, x9, x10, x11, x2000, x2001 => if x11 < x10 then (if 0 ≤ x11 then (if x11 < (x9.length : Int) then ((Q67.f x2000 x2001 (rd x9 x11)).bind fun t356 => (if x5.length < 17592186044416 then (Q31.l0 k (x5 ++ [t356]) x9 x10 (wrap64 (x11 + 1)) x2000 x2001) else (none))) else (none)) else (none)) else (some x5)
def Q31.f (k : Nat) (l0 : List Int) (a1_0 : Int) (a1_1 : Bool) : Option (List Int) := Q31.l0 k (([] : List Int)) l0 (l0.length : Int) 0 a1_0 a1_1
set_option maxHeartbeats 8000000 in
set_option maxRecDepth 100000 in
theorem Q31.calls (k : Nat) (A0 : Option Addr) (c0 : Nat) (l0 : List Int) (a1_0 : Int) (a1_1 : Bool) (r : List Int) (w : World) (hr0 : Kd.C (Kd.int .i64) w A0 l0.length l0) (hc0 : l0.length ≤ c0) (h : Q31.f k l0 a1_0 a1_1 = some r) :
    Calls Try.prog 38 #[.slice A0 l0.length c0, .func (.func 39) #[.agg #[.int .i64 a1_0, .bool a1_1]] #[]] w fun e w' => ∃ v0_ : Value, e = .returned (v0_) ∧ Kd.R (Kd.int .i64) 3 w' w.heap.size (fun _ => True) v0_ r ∧ Below w.heap.size w w' := by
 have HR0 := A_ hr0; have HC0 := A_ hc0; clear hr0 hc0; have HB := A_ (Below.refl w.heap.size w); have H : (Q31.l0 k (([] : List Int)) l0 (l0.length : Int) 0 a1_0 a1_1) = some r := h; clear h
 obtain ⟨y352, hy352⟩ : ∃ y_ : List Int, y_ = (([] : List Int)) := ⟨_, rfl⟩
 replace H : (Q31.l0 k y352 l0 (l0.length : Int) 0 a1_0 a1_1) = some r := by first | (rw [hy352]; with_reducible exact H) | (have H2_ := (Option.bind_some _ _).symm.trans H; rw [hy352]; with_reducible exact H2_) | (have H2_ := (Option.bind_some _ _).symm.trans H; with_reducible exact H2_) | with_reducible exact H | (rw [hy352]; exact H) | exact H
 have Ny352 := A_ hy352; clear hy352; have H' := A_ H; clear H; go_enter Try.func38, Try.ntmps38
 go_wp2_with (first | ((with_reducible refine gate_dst (N := 8) rfl ?_); refine Kd.R_lit (Kd.int .i64) _ 3 ?hg (N := 8) ?hd (xs := ([] : List Int)) (inner := []) (ok := fun _ => True) (okp := fun _ => True) ?hr ?hp (fun _ hk => hk) trivial (Below.refl _ _) (Nat.le_refl _) (by simp) ?_; (case hd => rfl); (case hg => rfl); (case hr => first | (go_simp; done) | (go_simp; rfl)); (case hp => exact (Reps.none _ _)); intro v353 w3 ho4 hb hg_ hnew_; clear hg_ hnew_; (first | rw [← Ny352.out] at ho4 | (simp only [Int.reduceToNat] at ho4; rw [← Ny352.out] at ho4)); have HO354 := A_ (Kd.R_lower ho4 (below_size (hq HB))); replace HB := A_ (below_step (hq HB) hb); clear hb ho4))
 go_loopg [5, 11] k (fun kq v5 v11 w' => ∃ (x5_1 : List Int) (x11_1 : Int), v11 = .int .i64 x11_1 ∧ Aside0 (Q31.l0 kq x5_1 l0 (l0.length : Int) x11_1 a1_0 a1_1 = some r) ∧ Aside0 (kq ≤ k) ∧ Aside0 (Kd.R (Kd.int .i64) 3 w' w.heap.size (fun _ => True) v5 x5_1) ∧ Aside0 (Below w.heap.size w w'))
 case atStart => exact ⟨(y352), (0), rf, H', ⟨Nat.le_refl _⟩, ⟨rq HO354⟩, ⟨hq HB⟩⟩
 case round =>
  clear H'; obtain ⟨x5_1, x11_1, rfl, HA, HK1, HO_5, HB⟩ := hrel
  cases gk with
  | zero => exact absurd HA.out (by simp [Q31.l0])
  | succ k1 =>
   have H := HA.out; clear HA; simp only [Q31.l0] at H
   by_cases c5 : x11_1 < (l0.length : Int)
   ·
    rw [if_pos c5] at H; have c5b0 := decide_eq_true c5; clear c5; by_cases c6 : 0 ≤ x11_1
    ·
     rw [if_pos c6] at H; have c6b0 := decide_eq_true c6; clear c6; by_cases c7 : x11_1 < (l0.length : Int)
     ·
      rw [if_pos c7] at H; have c7b0 := decide_eq_true c7; clear c7; replace H := bm H; obtain ⟨t356, A8, H⟩ := H; by_cases c9 : x5_1.length < 17592186044416
      ·
       rw [if_pos c9] at H; have LMc9 := A_ c9; clear c9
       obtain ⟨y357, hy357⟩ : ∃ y_ : List Int, y_ = (x5_1 ++ [t356]) := ⟨_, rfl⟩
       replace H : (Q31.l0 k1 y357 l0 (l0.length : Int) (wrap64 (x11_1 + 1)) a1_0 a1_1) = some r := by first | (rw [hy357]; with_reducible exact H) | (have H2_ := (Option.bind_some _ _).symm.trans H; rw [hy357]; with_reducible exact H2_) | (have H2_ := (Option.bind_some _ _).symm.trans H; with_reducible exact H2_) | with_reducible exact H | (rw [hy357]; exact H) | exact H
       have Ny357 := A_ hy357; clear hy357; have H' := A_ H; clear H; have p355 : 0 ≤ (x11_1 : Int) := dq; have q355 : x11_1 < (l0.length : Int) := dq; obtain ⟨ad355, e355, hx355_0⟩ := Kd.at_int HR0.out x11_1 p355 q355
       cases e355
       replace hx355_0 := (HB.out.cell (World.block_lt_of_cell? w _ hx355_0)).trans hx355_0; replace p355 := eq_true p355; replace q355 := eq_true q355; go_wp2_with (first | (go_at_call 39; (with_reducible refine (Q67.calls a1_0 a1_1 (rd l0 x11_1) t356 _ A8.out).mono ?_); rintro e w10 ⟨rfl, hb⟩; replace HO_5 := A_ (Kd.R_below (rq HO_5) hb); replace HB := A_ (below_step (hq HB) hb); clear hb) | ((with_reducible refine gate_builtin (b := .append) (xs := #[.tmp 15, .tmp 19]) rfl ?_); at_builtin; refine Kd.R_append (Kd.int .i64) (w0 := w) w.heap.size rfl (.tmp 15) (.tmp 19) 26 3 (.int .i64 0) 8 rfl Try.underlying26 info3 rfl (by decide) (by omega) u5 x5_1 t356 [.int .i64 t356] (fun _ => True) (fun _ => False) rfl rfl ?aP (fun _ hk => hk.elim) ?aF ?aO ?aB ?aS ?aL ?_; (case aP => exact rfl); (case aB => exact (hq HB)); (case aF => exact (fun _ _ => trivial)); (case aO => exact (rq HO_5)); (case aS => exact (below_size (hq HB))); (case aL => have := LMc9.out; omega); intro v358 w11 ho hb hg hat; rw [← Ny357.out] at ho; have n0_ := A_ (hb); have n1_ := A_ (ho); clear HB; clear HO_5; have HB := n0_; have HO359 := n1_; clear n0_ n1_; clear ho hb hg hat))
       go_roundg k1
       case measure => have := HK1.out; omega
       case rel => exact ⟨(y357), (wrap64 (x11_1 + 1)), rf, H', ⟨by have := HK1.out; omega⟩, ⟨rq HO359⟩, ⟨hq HB⟩⟩
      ·
       rw [if_neg c9] at H; exact absurd H (by simp)
     ·
      rw [if_neg c7] at H; exact absurd H (by simp)
    ·
     rw [if_neg c6] at H; exact absurd H (by simp)
   ·
    rw [if_neg c5] at H; have c5b0 := decide_eq_false c5; clear c5; obtain rfl := Option.some.inj H; go_wp2
    go_ret
    exact ⟨_, rt, rq HO_5, hq HB⟩

/-! ### impl_MirrorWalk: function 15 -/
def Q55.f (k : Nat) (a0_0 : Int) (a0_1 : Bool) (l1 : List Int) : Option (List Int × Bool) := (Q4.f k a0_0 a0_1 (([l1] : List (List Int)))).bind fun t364 => (if t364 = true then ((Q31.f k l1 a0_0 a0_1).bind fun t365 => (some (t365, true))) else (some (([] : List Int), false)))
set_option maxHeartbeats 8000000 in
set_option maxRecDepth 100000 in
theorem Q55.calls (k : Nat) (a0_0 : Int) (a0_1 : Bool) (A1 : Option Addr) (c1 : Nat) (l1 : List Int) (r1 : List Int) (r2 : Bool) (w : World) (hr1 : Kd.C (Kd.int .i64) w A1 l1.length l1) (hc1 : l1.length ≤ c1) (h : Q55.f k a0_0 a0_1 l1 = some (r1, r2)) :
    Calls Try.prog 15 #[.agg #[.int .i64 a0_0, .bool a0_1], .slice A1 l1.length c1] w fun e w' => ∃ v0_ : Value, e = .returned (.tuple #[v0_, .bool r2]) ∧ Kd.R (Kd.int .i64) 3 w' w.heap.size (fun _ => True) v0_ r1 ∧ Below w.heap.size w w' := by
 have hu25 := Try.underlying25; have HR1 := A_ hr1; have HC1 := A_ hc1; clear hr1 hc1; have HB := A_ (Below.refl w.heap.size w); have H : ((Q4.f k a0_0 a0_1 (([l1] : List (List Int)))).bind fun t364 => (if t364 = true then ((Q31.f k l1 a0_0 a0_1).bind fun t365 => (some (t365, true))) else (some (([] : List Int), false)))) = some (r1, r2) := h; clear h
 obtain ⟨y361, hy361⟩ : ∃ y_ : List (List Int), y_ = (([l1] : List (List Int))) := ⟨_, rfl⟩
 replace H : ((Q4.f k a0_0 a0_1 y361).bind fun t364 => (if t364 = true then ((Q31.f k l1 a0_0 a0_1).bind fun t365 => (some (t365, true))) else (some (([] : List Int), false)))) = some (r1, r2) := by first | (rw [hy361]; with_reducible exact H) | (have H2_ := (Option.bind_some _ _).symm.trans H; rw [hy361]; with_reducible exact H2_) | (have H2_ := (Option.bind_some _ _).symm.trans H; with_reducible exact H2_) | with_reducible exact H | (rw [hy361]; exact H) | exact H
 have Ny361 := A_ hy361; clear hy361; replace H := bm H; obtain ⟨t364, A3, H⟩ := H; by_cases c4 : t364 = true
 ·
  subst c4
  have H1 : ((Q31.f k l1 a0_0 a0_1).bind fun t365 => (some (t365, true))) = some (r1, r2) := by rw [if_pos rfl] at H; exact H
  clear H; have H := H1; clear H1; replace H := bm H; obtain ⟨t365, A5, H⟩ := H; simp only [Option.some.injEq, Prod.mk.injEq] at H
  obtain ⟨rfl, rfl⟩ := H; go_enter Try.func15, Try.ntmps15
  go_wp2_with (first | ((with_reducible refine gate_dst (N := 2) rfl ?_); refine bx (N := 2) #[.int .i64 a0_0, .bool a0_1] 25 ?_; intro gb360 hg w6 hbox hb; have BK360 := A_ (hbox); have GW360 := A_ (bs hg (hq HB) : w.heap.size ≤ gb360); have GE360 := A_ (bs hg (hq HB) : w.heap.size ≤ gb360); replace HB := A_ (below_step (hq HB) hb); clear hb hbox hg; have hcz7_0 : w6.cell? ⟨gb360, 0, none⟩ = some (.int .i64 a0_0) := bc BK360 0; have hcz7_1 : w6.cell? ⟨gb360, 1, none⟩ = some (.bool a0_1) := bc BK360 1; have hfz7_0 := blk_frozen BK360.out 0; have hfz7_1 := blk_frozen BK360.out 1) | ((with_reducible refine gate_dst (N := 8) rfl ?_); refine V_lit (Kd.slice 3 (Kd.int .i64)) 0 26 ?hg (N' := 8) ?hd (xs := ([l1] : List (List Int))) (inner := [.slice A1 l1.length c1]) ?hr ?hp (by simp) ?_; (case hd => rfl); (case hg => rfl); (case hr => first | (go_simp; done) | (go_simp; rfl)); (case hp => exact (Reps.one (show Kd.FK (Kd.slice 3 (Kd.int .i64)) _ _ l1 [.slice A1 l1.length c1] from (Kd.FK_slice_mk HC1.out (Kd.F_mono (Kd.F_below (Kd.C_F (Kd.heap_int .i64) HR1.out) (hq HB)) (fun _ _ => trivial)))) (Reps.none _ _))); intro v362 w8 ho9 hb; (first | rw [← Ny361.out] at ho9 | (simp only [Int.reduceToNat] at ho9; rw [← Ny361.out] at ho9)); replace BK360 := A_ (blk_below (bq BK360) hb); replace HB := A_ (below_step (hq HB) hb); have HO363 := A_ (ho9); clear hb ho9; obtain ⟨Ao10, co10, eo10⟩ := Kd.V_slice HO363.out; subst eo10) | ((with_reducible refine gate_callee (f := 29) rfl ?_); refine gL (some 9) Try.func29 #[.agg #[.int .i64 a0_0, .bool a0_1], .slice Ao10 y361.length co10] ?_; (with_reducible refine (Q4.calls k a0_0 a0_1 _ _ y361 true _ ?side1 ?side2 A3.out).mono ?_); (case side1 => exact cq (Kd.V_reads' HO363.out).2.2); (case side2 => exact (Kd.V_reads' HO363.out).2.1); rintro e w11 ⟨rfl, hb⟩; refine ⟨_, rfl, ?_⟩; replace HO363 := A_ (Kd.V_below (vq HO363) hb); replace BK360 := A_ (blk_below (bq BK360) hb); replace HB := A_ (below_step (hq HB) hb); clear hb; have hcz12_0 : w11.cell? ⟨gb360, 0, none⟩ = some (.int .i64 a0_0) := bc BK360 0; have hcz12_1 : w11.cell? ⟨gb360, 1, none⟩ = some (.bool a0_1) := bc BK360 1; have hfz12_0 := blk_frozen BK360.out 0; have hfz12_1 := blk_frozen BK360.out 1) | ((with_reducible refine gate_callee (f := 38) rfl ?_); refine gL (some 14) Try.func38 #[.slice A1 l1.length c1, .func (.func 39) #[.agg #[.int .i64 a0_0, .bool a0_1]] #[]] ?_; (with_reducible refine (Q31.calls k _ _ l1 a0_0 a0_1 t365 _ ?side1 ?side2 A5.out).mono ?_); (case side1 => exact cq (Kd.C_below HR1.out HB.out)); (case side2 => exact HC1.out); rintro e w13 ⟨v366, rfl, ho0, hb⟩; refine ⟨_, rfl, ?_⟩; replace HO363 := A_ (Kd.V_elder' (vq HO363) (Kd.R_base ho0) hb); have HO367 := A_ (Kd.R_lower ho0 (below_size (hq HB))); replace BK360 := A_ (blk_below (bq BK360) hb); replace HB := A_ (below_step (hq HB) hb); clear hb ho0))
  go_ret2
  exact ⟨_, rt, rq HO367, hq HB⟩
 ·
  replace c4 := Bool.eq_false_iff.mpr c4; subst c4
  have H1 : (some (([] : List Int), false)) = some (r1, r2) := by rw [if_neg (show ¬ (false = true) by decide)] at H; exact H
  clear H; have H := H1; clear H1; simp only [Option.some.injEq, Prod.mk.injEq] at H
  obtain ⟨rfl, rfl⟩ := H; go_enter Try.func15, Try.ntmps15
  go_wp2_with (first | ((with_reducible refine gate_dst (N := 2) rfl ?_); refine bx (N := 2) #[.int .i64 a0_0, .bool a0_1] 25 ?_; intro gb360 hg w14 hbox hb; have BK360 := A_ (hbox); have GW360 := A_ (bs hg (hq HB) : w.heap.size ≤ gb360); have GE360 := A_ (bs hg (hq HB) : w.heap.size ≤ gb360); replace HB := A_ (below_step (hq HB) hb); clear hb hbox hg; have hcz15_0 : w14.cell? ⟨gb360, 0, none⟩ = some (.int .i64 a0_0) := bc BK360 0; have hcz15_1 : w14.cell? ⟨gb360, 1, none⟩ = some (.bool a0_1) := bc BK360 1; have hfz15_0 := blk_frozen BK360.out 0; have hfz15_1 := blk_frozen BK360.out 1) | ((with_reducible refine gate_dst (N := 8) rfl ?_); refine V_lit (Kd.slice 3 (Kd.int .i64)) 0 26 ?hg (N' := 8) ?hd (xs := ([l1] : List (List Int))) (inner := [.slice A1 l1.length c1]) ?hr ?hp (by simp) ?_; (case hd => rfl); (case hg => rfl); (case hr => first | (go_simp; done) | (go_simp; rfl)); (case hp => exact (Reps.one (show Kd.FK (Kd.slice 3 (Kd.int .i64)) _ _ l1 [.slice A1 l1.length c1] from (Kd.FK_slice_mk HC1.out (Kd.F_mono (Kd.F_below (Kd.C_F (Kd.heap_int .i64) HR1.out) (hq HB)) (fun _ _ => trivial)))) (Reps.none _ _))); intro v362 w16 ho17 hb; (first | rw [← Ny361.out] at ho17 | (simp only [Int.reduceToNat] at ho17; rw [← Ny361.out] at ho17)); replace BK360 := A_ (blk_below (bq BK360) hb); replace HB := A_ (below_step (hq HB) hb); have HO363 := A_ (ho17); clear hb ho17; obtain ⟨Ao18, co18, eo18⟩ := Kd.V_slice HO363.out; subst eo18) | ((with_reducible refine gate_callee (f := 29) rfl ?_); refine gL (some 9) Try.func29 #[.agg #[.int .i64 a0_0, .bool a0_1], .slice Ao18 y361.length co18] ?_; (with_reducible refine (Q4.calls k a0_0 a0_1 _ _ y361 false _ ?side1 ?side2 A3.out).mono ?_); (case side1 => exact cq (Kd.V_reads' HO363.out).2.2); (case side2 => exact (Kd.V_reads' HO363.out).2.1); rintro e w19 ⟨rfl, hb⟩; refine ⟨_, rfl, ?_⟩; replace HO363 := A_ (Kd.V_below (vq HO363) hb); replace BK360 := A_ (blk_below (bq BK360) hb); replace HB := A_ (below_step (hq HB) hb); clear hb))
  go_ret2
  exact ⟨_, rt, by first | exact Kd.R_nil _ _ _ _ _ | exact Kd.N_nil _ _ _ _ _ | exact Kd.V_nil _ _ _ _ _ | exact Kd.Q_nil _ _ _ _ _ | exact Kd.S_nil _ _ _ _ _, hq HB⟩

end Go.Proofs.Ytbjpfnpleajhgaa.PFnWalks
