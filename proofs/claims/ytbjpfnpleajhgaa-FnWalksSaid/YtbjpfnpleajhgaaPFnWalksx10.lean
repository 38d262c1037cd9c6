-- Told shorter still by shrink2.py.
-- Printed, and told shorter by this session's program shrink.py.
-- Printed by this session's program myprint.py.
import Derived.Test.YtbjpfnpleajhgaaPFnWalksx0
import Derived.Test.YtbjpfnpleajhgaaPFnWalksx4
import Derived.Test.YtbjpfnpleajhgaaPFnWalksx6
namespace Go.Proofs.Ytbjpfnpleajhgaa.PFnWalks
open Go.RowKit Go.Proofs.Ytbjpfnpleajhgaa.Own Go.Proofs.YtbjpfnpleajhgaaW.PrintWords Go.Proofs.YtbjpfnpleajhgaaW.PrintLast Go.Proofs.YtbjpfnpleajhgaaW.PrintMore
attribute [local go_sem] max2_int min2_int max_two min_two max_three min_three max_four min_four   -- for this text's walks alone
set_option linter.unusedVariables false
set_option linter.unusedSimpArgs false

/-! ### spec_MirrorWalk: function 16 -/
def Q11.l0 : Nat → List Int → List Int → Int → Int → Bool → Option (List Int × Bool)
  | 0, _, _, _, _, _ => none
  | k + 1, x1, x6, x7, x369000, x369001 => if x7 < (x1.length : Int) then (if 0 ≤ x7 then (if x6.length < 17592186044416 then (Q11.l0 k x1 (x6 ++ [wrap64 ((wrap64 (x369000 - 1)) - (rd x1 x7))]) (wrap64 (x7 + 1)) x369000 x369001) else (none)) else (none)) else (some (x6, true))
def Q11.f (k : Nat) (a0_0 : Int) (a0_1 : Bool) (l1 : List Int) : Option (List Int × Bool) := (some (([] : List Int) : List Int)).bind fun y369 => ((Q1.f k a0_0 a0_1 l1).bind fun t372 => (if t372 = true then (Q11.l0 k l1 y369 0 a0_0 a0_1) else (some (y369, false))))
def Q11.T7 : Bool × List (List Nat × List Nat) := (true, [([], []), ([], []), ([1], [1]), ([2], [2]), ([], []), ([], []), ([4, 5], [4, 5]), ([6], [6]), ([3, 7], [3, 7]), ([8], [8]), ([0, 9], [0, 9]), ([10, 10, 0, 1, 2, 3, 4, 5, 6, 7, 8, 9, 10], [0, 10])])
def Q11.B7 : List Nat := [0, 0, 2, 6, 0, 0, 48, 112, 254, 510, 1023, 2047]
theorem Q11.tab7 : rtab .any (opsOf Try.f16 7) = Q11.T7 := by kernel_rfl
theorem Q11.bits7 : waitsOk Q11.T7.2 Q11.B7 = true := by kernel_rfl
set_option maxHeartbeats 8000000 in
set_option maxRecDepth 100000 in
theorem Q11.calls (k : Nat) (a0_0 : Int) (a0_1 : Bool) (A1 : Option Addr) (c1 : Nat) (l1 : List Int) (r1 : List Int) (r2 : Bool) (w : World) (hr1 : Kd.C (Kd.int .i64) w A1 l1.length l1) (hc1 : l1.length ≤ c1) (h : Q11.f k a0_0 a0_1 l1 = some (r1, r2)) :
    Calls Try.prog 16 #[.agg #[.int .i64 a0_0, .bool a0_1], .slice A1 l1.length c1] w fun e w' => ∃ v0_ : Value, e = .returned (.tuple #[v0_, .bool r2]) ∧ Kd.R (Kd.int .i64) 3 w' w.heap.size (fun _ => True) v0_ r1 ∧ Below w.heap.size w w' := by
 have hu25 := Try.underlying25; have HR1 := A_ hr1; have HC1 := A_ hc1; clear hr1 hc1; have HB := A_ (Below.refl w.heap.size w); have H : ((some (([] : List Int) : List Int)).bind fun y369 => ((Q1.f k a0_0 a0_1 l1).bind fun t372 => (if t372 = true then (Q11.l0 k l1 y369 0 a0_0 a0_1) else (some (y369, false))))) = some (r1, r2) := h; clear h
 obtain ⟨y369, hy369⟩ : ∃ y_ : List Int, y_ = (([] : List Int)) := ⟨_, rfl⟩
 replace H : ((Q1.f k a0_0 a0_1 l1).bind fun t372 => (if t372 = true then (Q11.l0 k l1 y369 0 a0_0 a0_1) else (some (y369, false)))) = some (r1, r2) := by first | (rw [hy369]; with_reducible exact H) | (have H2_ := (Option.bind_some _ _).symm.trans H; rw [hy369]; with_reducible exact H2_) | (have H2_ := (Option.bind_some _ _).symm.trans H; with_reducible exact H2_) | with_reducible exact H | (rw [hy369]; exact H) | exact H
 have Ny369 := A_ hy369; clear hy369; replace H := bm H; obtain ⟨t372, A3, H⟩ := H; by_cases c4 : t372 = true
 ·
  subst c4
  have H1 : (Q11.l0 k l1 y369 0 a0_0 a0_1) = some (r1, r2) := by rw [if_pos rfl] at H; exact H
  clear H; have H := H1; clear H1; have H' := A_ H; clear H; go_enter Try.func16, Try.ntmps16
  go_wp2_with (first | ((with_reducible refine gate_dst (N := 2) rfl ?_); refine bx (N := 2) #[.int .i64 a0_0, .bool a0_1] 25 ?_; intro gb368 hg w5 hbox hb; have BK368 := A_ (hbox); have GW368 := A_ (bs hg (hq HB) : w.heap.size ≤ gb368); have GE368 := A_ (bs hg (hq HB) : w.heap.size ≤ gb368); replace HB := A_ (below_step (hq HB) hb); clear hb hbox hg) | ((with_reducible refine gate_dst (N := 8) rfl ?_); refine Kd.R_lit (Kd.int .i64) _ 3 ?hg (N := 8) ?hd (xs := ([] : List Int)) (inner := []) (ok := fun _ => True) (okp := fun _ => True) ?hr ?hp (fun _ hk => hk) trivial (Below.refl _ _) (Nat.le_refl _) (by simp) ?_; (case hd => rfl); (case hg => rfl); (case hr => first | (go_simp; done) | (go_simp; rfl)); (case hp => exact (Reps.none _ _)); intro v370 w6 ho7 hb hg_ hnew_; clear hg_ hnew_; (first | rw [← Ny369.out] at ho7 | (simp only [Int.reduceToNat] at ho7; rw [← Ny369.out] at ho7)); have HO371 := A_ (Kd.R_lower ho7 (below_size (hq HB))); replace BK368 := A_ (blk_below (bq BK368) hb); replace HB := A_ (below_step (hq HB) hb); clear hb ho7; have hcz8_0 : w6.cell? ⟨gb368, 0, none⟩ = some (.int .i64 a0_0) := bc BK368 0; have hcz8_1 : w6.cell? ⟨gb368, 1, none⟩ = some (.bool a0_1) := bc BK368 1; have hfz8_0 := blk_frozen BK368.out 0; have hfz8_1 := blk_frozen BK368.out 1) | ((with_reducible refine gate_callee (f := 31) rfl ?_); refine gL (some 11) Try.func31 #[.agg #[.int .i64 a0_0, .bool a0_1], .slice A1 l1.length c1] ?_; (with_reducible refine (Q1.calls k a0_0 a0_1 _ _ l1 true _ ?side1 ?side2 A3.out).mono ?_); (case side1 => exact cq (Kd.C_below HR1.out HB.out)); (case side2 => exact HC1.out); rintro e w9 ⟨rfl, hb⟩; refine ⟨_, rfl, ?_⟩; replace HO371 := A_ (Kd.R_below (rq HO371) hb); replace BK368 := A_ (blk_below (bq BK368) hb); replace HB := A_ (below_step (hq HB) hb); clear hb))
  go_loopg [6, 7] k (fun kq v6 v7 w' => ∃ (x6_1 : List Int) (x7_1 : Int), v7 = .int .i64 x7_1 ∧ Aside0 (Q11.l0 kq l1 x6_1 x7_1 a0_0 a0_1 = some (r1, r2)) ∧ Aside0 (kq ≤ k) ∧ Aside0 (Kd.R (Kd.int .i64) 3 w' w.heap.size (fun _ => True) v6 x6_1) ∧ Aside0 (w'.heap[gb368]? = some (.cells #[.int .i64 a0_0, .bool a0_1] 25 (0, 0))) ∧ Aside0 (Below w.heap.size w w'))
  case atStart => exact ⟨(y369), (0), rf, H', ⟨Nat.le_refl _⟩, ⟨rq HO371⟩, ⟨bq BK368⟩, ⟨hq HB⟩⟩
  case round =>
   clear H'; (try clear c4); (try clear hcz8_0); (try clear hcz8_1); (try clear hfz8_0); (try clear hfz8_1); obtain ⟨x6_1, x7_1, rfl, HA, HK1, HO_6, BK368, HB⟩ := hrel
   cases gk with
   | zero => exact absurd HA.out (by simp [Q11.l0])
   | succ k1 =>
    have H := HA.out; clear HA; simp only [Q11.l0] at H
    by_cases c10 : x7_1 < (l1.length : Int)
    ·
     rw [if_pos c10] at H; have c10b0 := decide_eq_true c10; clear c10; by_cases c11 : 0 ≤ x7_1
     ·
      rw [if_pos c11] at H; have c11b0 := decide_eq_true c11; clear c11; by_cases c12 : x6_1.length < 17592186044416
      ·
       rw [if_pos c12] at H; have LMc12 := A_ c12; clear c12
       obtain ⟨y374, hy374⟩ : ∃ y_ : List Int, y_ = (x6_1 ++ [wrap64 ((wrap64 (a0_0 - 1)) - (rd l1 x7_1))]) := ⟨_, rfl⟩
       replace H : (Q11.l0 k1 l1 y374 (wrap64 (x7_1 + 1)) a0_0 a0_1) = some (r1, r2) := by first | (rw [hy374]; with_reducible exact H) | (have H2_ := (Option.bind_some _ _).symm.trans H; rw [hy374]; with_reducible exact H2_) | (have H2_ := (Option.bind_some _ _).symm.trans H; with_reducible exact H2_) | with_reducible exact H | (rw [hy374]; exact H) | exact H
       have Ny374 := A_ hy374; clear hy374; have H' := A_ H; clear H; try go_wp2
       replace HO_6 := A_ (Kd.R_drew HO_6.out); replace BK368 := A_ (blk_drew BK368.out); replace HB := A_ (below_drew1 HB.out); have p373 : 0 ≤ (x7_1 : Int) := dq; have q373 : x7_1 < (l1.length : Int) := dq; obtain ⟨ad373, e373, hx373_0⟩ := Kd.at_int HR1.out x7_1 p373 q373; have hw373_0 := hx373_0
       cases e373
       replace hx373_0 := (HB.out.cell (World.block_lt_of_cell? w _ hx373_0)).trans hx373_0; replace p373 := eq_true p373; replace q373 := eq_true q373; refine start_ (n := 12) (S := fun w' => w'.cell? ⟨gb368, 0, none⟩ = some (.int .i64 a0_0) ∧ w'.cell? ⟨gb368, 1, none⟩ = some (.bool a0_1) ∧ w'.cell? (ad373.add (x7_1).toNat) = some (.int .i64 (rd l1 x7_1))) (ds := []) #[false, false, false, false, false, false, false, false, false, false, false, false] (by kernel_rfl) rfl rfl ⟨bc BK368 0, bc BK368 1, ((HB.out.cell (World.block_lt_of_cell? w _ hw373_0)).trans hw373_0)⟩ (fun hHeld => ?_); refine with_tabW Q11.tab7 Q11.bits7 (fun HT_ HW_ => ?_); generalize wr.drew = w13 at HO_6 BK368 HB hx373_0 hHeld ⊢; refine puT (i := 0) (N := some 20) HT_ #[true, false, false, false, false, false, false, false, false, false, false, false] ?_; refine puT (i := 1) (N := some 21) HT_ #[true, true, false, false, false, false, false, false, false, false, false, false] ?_; refine puT (i := 4) (N := some 24) HT_ #[true, true, false, false, true, false, false, false, false, false, false, false] ?_; refine puT (i := 5) (N := some 25) HT_ #[true, true, false, false, true, true, false, false, false, false, false, false] ?_; refine puT (i := 6) (N := some 26) HT_ #[true, true, false, false, true, true, true, false, false, false, false, false] ?_; refine tkT (i := 2) (N := some 22) HT_ HW_ hHeld #[true, true, true, false, true, true, true, false, false, false, false, false] ?_; refine puT (i := 3) (N := some 23) HT_ #[true, true, true, true, true, true, true, false, false, false, false, false] ?_; refine tkT (i := 7) (N := some 27) HT_ HW_ hHeld #[true, true, true, true, true, true, true, true, false, false, false, false] ?_; refine puT (i := 8) (N := some 28) HT_ #[true, true, true, true, true, true, true, true, true, false, false, false] ?_; refine onT (i := 9) (N := some 29) HT_ #[true, true, true, true, true, true, true, true, true, true, false, false] (fun K hK => ?_); refine value_ (w1 := ?_) (v := ?_) (by rfl) rfl ?_ ?_
       rotate_left 2
       ·
        go_simp
        constructor
        ·
         rfl
        ·
         rfl
       refine hK.out _ _ ⟨(blk_cell (blk_alloc BK368.out _) 0).trans rfl, (blk_cell (blk_alloc BK368.out _) 1).trans rfl, (World.cell?_alloc_lt _ _ _ (World.block_lt_of_cell? _ _ (((HB.out.cell (World.block_lt_of_cell? w _ hw373_0)).trans hw373_0)))).trans (((HB.out.cell (World.block_lt_of_cell? w _ hw373_0)).trans hw373_0))⟩ (fun hHeld => ?_); clear hK K; refine nq_ (some 29) ?_; refine onT (i := 10) (N := some 30) HT_ #[true, true, true, true, true, true, true, true, true, true, true, false] (fun K hK => ?_); refine Kd.R_append_step (Kd.int .i64) (w0 := w) w.heap.size (by rfl) (.tmp 20) (.tmp 29) 26 3 (.int .i64 0) 8 rfl Try.underlying26 info3 rfl (by decide) (by omega) u6 x6_1 (wrap64 ((wrap64 (a0_0 - 1)) - (rd l1 x7_1))) [.int .i64 (wrap64 ((wrap64 (a0_0 - 1)) - (rd l1 x7_1)))] (fun _ => True) (fun _ => False) rfl rfl ?aP (fun _ hk => hk.elim) ?aF ?aO ?aB ?aS ?aL ?_; (case aP => exact rfl); (case aB => exact (hq HB)); (case aF => exact (fun _ _ => trivial)); (case aO => exact (rq HO_6)); (case aS => exact (below_size (hq HB))); (case aL => have := LMc12.out; omega); intro v375 w14 ho hb hg hat; rw [← Ny374.out] at ho; have n0_ := A_ (blk_grown (g := gb368) (o := .cells #[.int .i64 a0_0, .bool a0_1] 25 (0, 0)) (bq BK368) hg (Kd.R_ne HO_6.out BK368.out (by decide))); have n1_ := A_ (hb); have n2_ := A_ (ho); clear BK368 HB HO_6; have BK368 := n0_; have HB := n1_; have HO376 := n2_; clear n0_ n1_ n2_ ho hb hg hat; refine hK.out _ _ ⟨bc BK368 0, bc BK368 1, ((HB.out.cell (World.block_lt_of_cell? w _ hw373_0)).trans hw373_0)⟩ (fun hHeld => ?_); clear hK K; refine nq_ (some 30) ?_; refine puT (i := 11) (N := some 6) HT_ #[true, true, true, true, true, true, true, true, true, true, true, true] ?_; refine done_ (done_of HT_.out (by kernel_rfl)) ?_; try go_wp2
       go_roundg k1
       case measure => have := HK1.out; omega
       case rel => exact ⟨(y374), (wrap64 (x7_1 + 1)), rf, H', ⟨by have := HK1.out; omega⟩, ⟨rq HO376⟩, ⟨bq BK368⟩, ⟨hq HB⟩⟩
      ·
       rw [if_neg c12] at H; exact absurd H (by simp)
     ·
      rw [if_neg c11] at H; exact absurd H (by simp)
    ·
     rw [if_neg c10] at H; have c10b0 := decide_eq_false c10; clear c10; simp only [Option.some.injEq, Prod.mk.injEq] at H
     obtain ⟨rfl, rfl⟩ := H; go_wp2
     go_ret2
     exact ⟨_, rt, rq HO_6, hq HB⟩
 ·
  replace c4 := Bool.eq_false_iff.mpr c4; subst c4
  have H1 : (some (y369, false)) = some (r1, r2) := by rw [if_neg (show ¬ (false = true) by decide)] at H; exact H
  clear H; have H := H1; clear H1; simp only [Option.some.injEq, Prod.mk.injEq] at H
  obtain ⟨rfl, rfl⟩ := H; go_enter Try.func16, Try.ntmps16
  go_wp2_with (first | ((with_reducible refine gate_dst (N := 2) rfl ?_); refine bx (N := 2) #[.int .i64 a0_0, .bool a0_1] 25 ?_; intro gb368 hg w15 hbox hb; have BK368 := A_ (hbox); have GW368 := A_ (bs hg (hq HB) : w.heap.size ≤ gb368); have GE368 := A_ (bs hg (hq HB) : w.heap.size ≤ gb368); replace HB := A_ (below_step (hq HB) hb); clear hb hbox hg) | ((with_reducible refine gate_dst (N := 8) rfl ?_); refine Kd.R_lit (Kd.int .i64) _ 3 ?hg (N := 8) ?hd (xs := ([] : List Int)) (inner := []) (ok := fun _ => True) (okp := fun _ => True) ?hr ?hp (fun _ hk => hk) trivial (Below.refl _ _) (Nat.le_refl _) (by simp) ?_; (case hd => rfl); (case hg => rfl); (case hr => first | (go_simp; done) | (go_simp; rfl)); (case hp => exact (Reps.none _ _)); intro v370 w16 ho17 hb hg_ hnew_; clear hg_ hnew_; (first | rw [← Ny369.out] at ho17 | (simp only [Int.reduceToNat] at ho17; rw [← Ny369.out] at ho17)); have HO371 := A_ (Kd.R_lower ho17 (below_size (hq HB))); replace BK368 := A_ (blk_below (bq BK368) hb); replace HB := A_ (below_step (hq HB) hb); clear hb ho17; have hcz18_0 : w16.cell? ⟨gb368, 0, none⟩ = some (.int .i64 a0_0) := bc BK368 0; have hcz18_1 : w16.cell? ⟨gb368, 1, none⟩ = some (.bool a0_1) := bc BK368 1; have hfz18_0 := blk_frozen BK368.out 0; have hfz18_1 := blk_frozen BK368.out 1) | ((with_reducible refine gate_callee (f := 31) rfl ?_); refine gL (some 11) Try.func31 #[.agg #[.int .i64 a0_0, .bool a0_1], .slice A1 l1.length c1] ?_; (with_reducible refine (Q1.calls k a0_0 a0_1 _ _ l1 false _ ?side1 ?side2 A3.out).mono ?_); (case side1 => exact cq (Kd.C_below HR1.out HB.out)); (case side2 => exact HC1.out); rintro e w19 ⟨rfl, hb⟩; refine ⟨_, rfl, ?_⟩; replace HO371 := A_ (Kd.R_below (rq HO371) hb); replace BK368 := A_ (blk_below (bq BK368) hb); replace HB := A_ (below_step (hq HB) hb); clear hb))
  go_ret2
  exact ⟨_, rt, rq HO371, hq HB⟩

/-! ### impl_copied: function 40 -/
def Q58.f (l0 : List Int) : Option (List Int) := (some (([] : List Int) : List Int)).bind fun y377 => (if y377.length + l0.length < 17592186044416 then (some (y377 ++ l0)) else (none))
set_option maxHeartbeats 8000000 in
set_option maxRecDepth 100000 in
theorem Q58.calls (A0 : Option Addr) (c0 : Nat) (l0 : List Int) (r : List Int) (w : World) (hr0 : Kd.C (Kd.int .i64) w A0 l0.length l0) (hc0 : l0.length ≤ c0) (h : Q58.f l0 = some r) :
    Calls Try.prog 40 #[.slice A0 l0.length c0] w fun e w' => ∃ v0_ : Value, e = .returned (v0_) ∧ Kd.R (Kd.int .i64) 3 w' w.heap.size (fun _ => True) v0_ r ∧ Below w.heap.size w w' := by
 have HR0 := A_ hr0; have HC0 := A_ hc0; clear hr0 hc0; have HB := A_ (Below.refl w.heap.size w); have H : ((some (([] : List Int) : List Int)).bind fun y377 => (if y377.length + l0.length < 17592186044416 then (some (y377 ++ l0)) else (none))) = some r := h; clear h
 obtain ⟨y377, hy377⟩ : ∃ y_ : List Int, y_ = (([] : List Int)) := ⟨_, rfl⟩
 replace H : (if y377.length + l0.length < 17592186044416 then (some (y377 ++ l0)) else (none)) = some r := by first | (rw [hy377]; with_reducible exact H) | (have H2_ := (Option.bind_some _ _).symm.trans H; rw [hy377]; with_reducible exact H2_) | (have H2_ := (Option.bind_some _ _).symm.trans H; with_reducible exact H2_) | with_reducible exact H | (rw [hy377]; exact H) | exact H
 have Ny377 := A_ hy377; clear hy377; by_cases c2 : y377.length + l0.length < 17592186044416
 ·
  rw [if_pos c2] at H; have LMc2 := A_ c2; clear c2
  obtain ⟨y380, hy380⟩ : ∃ y_ : List Int, y_ = (y377 ++ l0) := ⟨_, rfl⟩
  replace H : (some y380) = some r := by first | (rw [hy380]; with_reducible exact H) | (have H2_ := (Option.bind_some _ _).symm.trans H; rw [hy380]; with_reducible exact H2_) | (have H2_ := (Option.bind_some _ _).symm.trans H; with_reducible exact H2_) | with_reducible exact H | (rw [hy380]; exact H) | exact H
  have Ny380 := A_ hy380; clear hy380; obtain rfl := Option.some.inj H; go_enter Try.func40, Try.ntmps40
  go_wp2_with (first | ((with_reducible refine gate_dst (N := 3) rfl ?_); refine Kd.R_lit (Kd.int .i64) _ 3 ?hg (N := 3) ?hd (xs := ([] : List Int)) (inner := []) (ok := fun _ => True) (okp := fun _ => True) ?hr ?hp (fun _ hk => hk) trivial (Below.refl _ _) (Nat.le_refl _) (by simp) ?_; (case hd => rfl); (case hg => rfl); (case hr => first | (go_simp; done) | (go_simp; rfl)); (case hp => exact (Reps.none _ _)); intro v378 w3 ho4 hb hg_ hnew_; clear hg_ hnew_; (first | rw [← Ny377.out] at ho4 | (simp only [Int.reduceToNat] at ho4; rw [← Ny377.out] at ho4)); have HO379 := A_ (Kd.R_lower ho4 (below_size (hq HB))); replace HB := A_ (below_step (hq HB) hb); clear hb ho4) | ((with_reducible refine gate_builtin (b := .append) (xs := #[.tmp 3, .tmp 4]) rfl ?_); at_builtin; refine Kd.R_append_rows (Kd.int .i64) (w0 := w) w.heap.size rfl (.tmp 3) (.tmp 4) 26 3 (.int .i64 0) 8 rfl Try.underlying26 info3 rfl (by decide) (by omega) v378 y377 l0 _ _ _ (fun _ => True) (fun _ => False) rfl rfl ?aO ?aR (fun _ _ h => h) (fun _ h => h.elim) ?aF ?aB ?aS ?aL ?_; (case aR => repeat (first | exact (Kd.C_below HR0.out HB.out) | (with_reducible refine Kd.C_alloc ?_ _) | (with_reducible refine Kd.C_drewN ?_ _) | (with_reducible refine Kd.C_drew ?_))); (case aB => exact (hq HB)); (case aF => exact (fun _ _ => trivial)); (case aO => exact (rq HO379)); (case aS => exact (below_size (hq HB))); (case aL => have := LMc2.out; omega); intro v381 w5 ho hb hg hat; rw [← Ny380.out] at ho; have n0_ := A_ (hb); have n1_ := A_ (ho); clear HB; clear HO379; have HB := n0_; have HO382 := n1_; clear n0_ n1_; clear ho hb hg hat))
  go_ret
  exact ⟨_, rt, rq HO382, hq HB⟩
 ·
  rw [if_neg c2] at H; exact absurd H (by simp)

/-! ### slices_Reverse_int_int: function 41 -/
def Q14.l0 : Nat → List Int → Int → Int → Option (List Int)
  | 0, _, _, _ => none
  | k + 1, x0, x2, x3 => if x2 < x3 then (if 0 ≤ x3 then (if x3 < (x0.length : Int) then (if 0 ≤ x2 then (if x2 < (x0.length : Int) then (Q14.l0 k ((x0.set (x2 : Int).toNat (rd x0 x3)).set (x3 : Int).toNat (rd x0 x2)) (wrap64 (x2 + 1)) (wrap64 (x3 - 1))) else (none)) else (none)) else (none)) else (none)) else (some x0)
def Q14.f (k : Nat) (l0 : List Int) : Option (List Int) := Q14.l0 k l0 0 (wrap64 ((l0.length : Int) - 1))
def Q14.T3 : Bool × List (List Nat × List Nat) := (true, [([], []), ([], []), ([], []), ([], []), ([], []), ([], []), ([4, 5], [4, 5]), ([6], [6]), ([], []), ([], []), ([8, 9], [8, 9]), ([10], [10]), ([0, 1, 0, 1, 4, 5, 6, 7, 11], [0, 1]), ([12, 7, 0, 1, 4, 5, 6, 7, 11], [7, 12]), ([2, 3, 0, 1, 2, 3, 4, 5, 6, 7, 8, 9, 10, 11, 12, 13], [2, 3]), ([14, 11, 13, 0, 1, 2, 3, 4, 5, 6, 7, 8, 9, 10, 11, 12, 13], [11, 14])])
def Q14.B3 : List Nat := [0, 0, 0, 0, 0, 0, 48, 112, 0, 0, 768, 1792, 4083, 8179, 16383, 32767]
theorem Q14.tab3 : rtab .any (opsOf Try.f41 3) = Q14.T3 := by kernel_rfl
theorem Q14.bits3 : waitsOk Q14.T3.2 Q14.B3 = true := by kernel_rfl
set_option maxHeartbeats 8000000 in
set_option maxRecDepth 100000 in
theorem Q14.calls (k : Nat) (P0_ : Nat → Prop) (u9000_ : Value) (l0 : List Int) (r : List Int) (w0 w : World) (hB : Below w0.heap.size w0 w) (ho0 : Kd.R (Kd.int .i64) 3 w w0.heap.size P0_ u9000_ l0) (h : Q14.f k l0 = some r) :
    Calls Try.prog 41 #[u9000_] w fun e w' => e = .returned (.tuple #[]) ∧ Kd.R (Kd.int .i64) 3 w' w0.heap.size (fun k_ => (P0_ k_ ∨ w.heap.size ≤ k_)) u9000_ r ∧ Below w0.heap.size w0 w' ∧ Kept w w' (fun k_ => P0_ k_) := by
 have HO0 := A_ (show Kd.R (Kd.int .i64) 3 w w0.heap.size (fun k_ => (P0_ k_ ∨ w.heap.size ≤ k_)) u9000_ l0 from Kd.R_mono ho0 (fun k_ hk => (.inl hk))); have HK := A_ (Kept.refl w (fun k_ => P0_ k_)); have HW0 := A_ hB.size; have HB := A_ hB; clear hB; have H : (Q14.l0 k l0 0 (wrap64 ((l0.length : Int) - 1))) = some r := h; clear h; have H' := A_ H; clear H; obtain ⟨Ao2, co2, eo2⟩ := Kd.R_slice HO0.out; subst eo2; go_enter Try.func41, Try.ntmps41
 go_wp2
 go_loopg [2, 3] k (fun kq v2 v3 w' => ∃ (x0_1 : List Int) (x2_1 : Int) (x3_1 : Int), v2 = .int .i64 x2_1 ∧ v3 = .int .i64 x3_1 ∧ Aside0 (Q14.l0 kq x0_1 x2_1 x3_1 = some r) ∧ Aside0 (kq ≤ k) ∧ Aside0 (Kd.R (Kd.int .i64) 3 w' w0.heap.size (fun k_ => (P0_ k_ ∨ w.heap.size ≤ k_)) (.slice Ao2 l0.length co2) x0_1) ∧ Aside0 (Kept w w' (fun k_ => P0_ k_)) ∧ Aside0 (Below w0.heap.size w0 w'))
 case atStart => exact ⟨(l0), (0), (wrap64 ((l0.length : Int) - 1)), rf, rf, H', ⟨Nat.le_refl _⟩, ⟨rq HO0⟩, ⟨by repeat (first | (with_reducible first | exact HK.out | apply Kept.alloc | apply Kept.drewN | apply Kept.drew) | exact HK.out)⟩, ⟨hq HB⟩⟩
 case round =>
  clear H'; obtain ⟨x0_1, x2_1, x3_1, rfl, rfl, HA, HK1, HO_0, HK, HB⟩ := hrel; have hl0_1 := (Kd.R_reads' HO_0.out).1; rw [hl0_1] at HO_0; (try simp only [hl0_1])
  cases gk with
  | zero => exact absurd HA.out (by simp [Q14.l0])
  | succ k1 =>
   have H := HA.out; clear HA; simp only [Q14.l0] at H
   by_cases c3 : x2_1 < x3_1
   ·
    rw [if_pos c3] at H; have c3b0 := decide_eq_true c3; clear c3; by_cases c4 : 0 ≤ x3_1
    ·
     rw [if_pos c4] at H; have c4b0 := decide_eq_true c4; clear c4; by_cases c5 : x3_1 < (x0_1.length : Int)
     ·
      rw [if_pos c5] at H; have c5b0 := decide_eq_true c5; clear c5; by_cases c6 : 0 ≤ x2_1
      ·
       rw [if_pos c6] at H; have c6b0 := decide_eq_true c6; clear c6; by_cases c7 : x2_1 < (x0_1.length : Int)
       ·
        rw [if_pos c7] at H; have c7b0 := decide_eq_true c7; clear c7
        obtain ⟨y385, hy385⟩ : ∃ y_ : List Int, y_ = (x0_1.set (x2_1 : Int).toNat (rd x0_1 x3_1)) := ⟨_, rfl⟩
        replace H : (Q14.l0 k1 (y385.set (x3_1 : Int).toNat (rd x0_1 x2_1)) (wrap64 (x2_1 + 1)) (wrap64 (x3_1 - 1))) = some r := by first | (rw [hy385]; with_reducible exact H) | (have H2_ := (Option.bind_some _ _).symm.trans H; rw [hy385]; with_reducible exact H2_) | (have H2_ := (Option.bind_some _ _).symm.trans H; with_reducible exact H2_) | with_reducible exact H | (rw [hy385]; exact H) | exact H
        have Ny385 := A_ hy385; clear hy385
        obtain ⟨y386, hy386⟩ : ∃ y_ : List Int, y_ = (y385.set (x3_1 : Int).toNat (rd x0_1 x2_1)) := ⟨_, rfl⟩
        replace H : (Q14.l0 k1 y386 (wrap64 (x2_1 + 1)) (wrap64 (x3_1 - 1))) = some r := by first | (rw [hy386]; with_reducible exact H) | (have H2_ := (Option.bind_some _ _).symm.trans H; rw [hy386]; with_reducible exact H2_) | (have H2_ := (Option.bind_some _ _).symm.trans H; with_reducible exact H2_) | with_reducible exact H | (rw [hy386]; exact H) | exact H
        have Ny386 := A_ hy386; clear hy386; have H' := A_ H; clear H; try go_wp2
        replace HO_0 := A_ (Kd.R_drew HO_0.out); replace HK := A_ (Kept.drew HK.out); replace HB := A_ (below_drew1 HB.out); have p383 : 0 ≤ (x3_1 : Int) := dq; have q383 : x3_1 < (x0_1.length : Int) := dq; obtain ⟨ad383, e383, hx383_0⟩ := Kd.at_int (Kd.R_reads' HO_0.out).2.2 x3_1 p383 q383
        cases e383
        replace p383 := eq_true p383; replace q383 := eq_true q383; have p384 : 0 ≤ (x2_1 : Int) := dq; have q384 : x2_1 < (x0_1.length : Int) := dq; obtain ⟨ad384, e384, hx384_0⟩ := Kd.at_int (Kd.R_reads' HO_0.out).2.2 x2_1 p384 q384
        obtain rfl : ad383 = ad384 := (by injection e384)
        replace p384 := eq_true p384; replace q384 := eq_true q384; have p8 : 0 ≤ (x2_1 : Int) := dq; have q8 : (x2_1 : Int) < ((x0_1.length : Int) : Int) := dq; obtain ⟨go8, co8, eo8, gb8, gl8, cl8, HG8⟩ := Kd.R_form HO_0.out (by omega); (first | cases eo8 | (injection eo8 with ea_ en_ ec_; (first | subst ea_ | (injection ea_ with ea_; subst ea_)); subst ec_; clear en_)); have GB8 := A_ gb8; have GG8 := A_ HG8; clear gb8 gl8 HG8; have HMgo8 := A_ (show (P0_ go8 ∨ w.heap.size ≤ go8) from (HO_0.out.1 _ rfl)); (first | simp only [add_plain] at hx383_0 | skip); (first | simp only [add_plain] at hx384_0 | skip); obtain ⟨hx8_0, hf8_0⟩ := Kd.R_celln 0 HO_0.out (x2_1 : Int) p8 q8; replace p8 := eq_true p8; replace q8 := eq_true q8; have HP11 := Kd.R_putn HO_0.out (x2_1 : Int) (rd x0_1 x3_1); rw [← Ny385.out] at HP11; have HQ11 := A_ HP11; clear HP11; have p9 : 0 ≤ (x3_1 : Int) := dq; have q9 : (x3_1 : Int) < ((x0_1.length : Int) : Int) := dq; obtain ⟨hx9_0, hf9_0⟩ := Kd.R_celln 0 HQ11.out (x3_1 : Int) p9 q9; replace p9 := eq_true p9; replace q9 := eq_true q9; have HP12 := Kd.R_putn HQ11.out (x3_1 : Int) (rd x0_1 x2_1); rw [← Ny386.out] at HP12; have HQ12 := A_ HP12; clear HP12; refine start_ (n := 16) (S := fun w' => w'.cell? ⟨go8, (x3_1).toNat, none⟩ = some (.int .i64 (rd x0_1 x3_1)) ∧ w'.cell? ⟨go8, (x2_1).toNat, none⟩ = some (.int .i64 (rd x0_1 x2_1))) (ds := [13, 15]) #[false, false, false, false, false, false, false, false, false, false, false, false, false, false, false, false] (by kernel_rfl) rfl rfl ⟨hx383_0, hx384_0⟩ (fun hHeld => ?_); refine with_tabW Q14.tab3 Q14.bits3 (fun HT_ HW_ => ?_); generalize wr.drew = w10 at HO_0 HK HB GG8 HQ11 HQ12 hf8_0 hf9_0 hx383_0 hx384_0 hx8_0 hx9_0 hHeld ⊢; refine puT (i := 0) (N := some 14) HT_ #[true, false, false, false, false, false, false, false, false, false, false, false, false, false, false, false] ?_; refine puT (i := 1) (N := some 15) HT_ #[true, true, false, false, false, false, false, false, false, false, false, false, false, false, false, false] ?_; refine puT (i := 2) (N := some 16) HT_ #[true, true, true, false, false, false, false, false, false, false, false, false, false, false, false, false] ?_; refine puT (i := 3) (N := some 17) HT_ #[true, true, true, true, false, false, false, false, false, false, false, false, false, false, false, false] ?_; refine puT (i := 4) (N := some 18) HT_ #[true, true, true, true, true, false, false, false, false, false, false, false, false, false, false, false] ?_; refine puT (i := 5) (N := some 19) HT_ #[true, true, true, true, true, true, false, false, false, false, false, false, false, false, false, false] ?_; refine puT (i := 6) (N := some 20) HT_ #[true, true, true, true, true, true, true, false, false, false, false, false, false, false, false, false] ?_; refine puT (i := 8) (N := some 22) HT_ #[true, true, true, true, true, true, true, false, true, false, false, false, false, false, false, false] ?_; refine puT (i := 9) (N := some 23) HT_ #[true, true, true, true, true, true, true, false, true, true, false, false, false, false, false, false] ?_; refine puT (i := 10) (N := some 24) HT_ #[true, true, true, true, true, true, true, false, true, true, true, false, false, false, false, false] ?_; refine tkT (i := 7) (N := some 21) HT_ HW_ hHeld #[true, true, true, true, true, true, true, true, true, true, true, false, false, false, false, false] ?_; refine tkT (i := 11) (N := some 25) HT_ HW_ hHeld #[true, true, true, true, true, true, true, true, true, true, true, true, false, false, false, false] ?_; refine puT (i := 12) (N := some 26) HT_ #[true, true, true, true, true, true, true, true, true, true, true, true, true, false, false, false] ?_; refine last_ (i := 13) (N := none) #[true, true, true, true, true, true, true, true, true, true, true, true, true, true, false, false] rfl rfl (one_of HT_.out (by kernel_rfl)) (by decide) (fun K hK => ?_); refine skip_ (w1 := ?_) (by rfl) rfl ?_ ?_
        rotate_left
        ·
         go_simp
         rfl
        refine hK.out _ _ ?_; clear hK K; refine puT (i := 14) (N := some 27) HT_ #[true, true, true, true, true, true, true, true, true, true, true, true, true, true, true, false] ?_; refine last_ (i := 15) (N := none) #[true, true, true, true, true, true, true, true, true, true, true, true, true, true, true, true] rfl rfl (one_of HT_.out (by kernel_rfl)) (by decide) (fun K hK => ?_); refine skip_ (w1 := ?_) (by rfl) rfl ?_ ?_
        rotate_left
        ·
         go_simp
         rfl
        refine hK.out _ _ ?_; clear hK K; refine done_ (done_of HT_.out (by kernel_rfl)) ?_; try go_wp2
        (try simp only [← hl0_1]); go_roundg k1
        case measure => have := HK1.out; omega
        case rel => exact ⟨(y386), (wrap64 (x2_1 + 1)), (wrap64 (x3_1 - 1)), rf, rf, H', ⟨by have := HK1.out; omega⟩, ⟨by (try simp only [hl0_1]); (with_reducible repeat (first | apply Kd.R_alloc | apply Kd.R_drewN | apply Kd.R_drew)); exact HQ12.out⟩, ⟨by repeat (first | (with_reducible first | exact HK.out | apply Kept.alloc | apply Kept.drewN | apply Kept.drew | refine Kept.setCell ?_ HMgo8.out _ | refine Kept.setCell ?_ HMgo8.out _) | exact HK.out)⟩, ⟨by repeat (first | (with_reducible first | exact HB.out | apply below_alloc | apply pw_below_drewN | apply below_drew1 | refine below_set ?_ GB8.out | refine below_set ?_ GB8.out) | exact HB.out)⟩⟩
       ·
        rw [if_neg c7] at H; exact absurd H (by simp)
      ·
       rw [if_neg c6] at H; exact absurd H (by simp)
     ·
      rw [if_neg c5] at H; exact absurd H (by simp)
    ·
     rw [if_neg c4] at H; exact absurd H (by simp)
   ·
    rw [if_neg c3] at H; have c3b0 := decide_eq_false c3; clear c3; obtain rfl := Option.some.inj H; go_wp2
    first | go_end0 | ((try simp only [Exit.inBlock, Exit.then]); refine bodyPost_ret (results_none rfl _ _ _) rfl ?_)
    exact ⟨rt, (by first | exact (rq HO_0) | (simp only [hl0_1]; exact (rq HO_0))), hq HB, by repeat (first | (with_reducible first | exact HK.out | apply Kept.alloc | apply Kept.drewN | apply Kept.drew) | exact HK.out)⟩

/-! ### impl_BackWalk: function 17 -/
def Q62.f (k : Nat) (a0_0 : Int) (a0_1 : Bool) (l1 : List Int) : Option (List Int × Bool) := (Q4.f k a0_0 a0_1 (([l1] : List (List Int)))).bind fun t391 => (if t391 = true then ((Q58.f l1).bind fun t392 => ((Q14.f k t392).bind fun t395 => (some (t395, true)))) else (some (([] : List Int), false)))
set_option maxHeartbeats 8000000 in
set_option maxRecDepth 100000 in
theorem Q62.calls (k : Nat) (a0_0 : Int) (a0_1 : Bool) (A1 : Option Addr) (c1 : Nat) (l1 : List Int) (r1 : List Int) (r2 : Bool) (w : World) (hr1 : Kd.C (Kd.int .i64) w A1 l1.length l1) (hc1 : l1.length ≤ c1) (h : Q62.f k a0_0 a0_1 l1 = some (r1, r2)) :
    Calls Try.prog 17 #[.agg #[.int .i64 a0_0, .bool a0_1], .slice A1 l1.length c1] w fun e w' => ∃ v0_ : Value, e = .returned (.tuple #[v0_, .bool r2]) ∧ Kd.R (Kd.int .i64) 3 w' w.heap.size (fun _ => True) v0_ r1 ∧ Below w.heap.size w w' := by
 have hu25 := Try.underlying25; have HR1 := A_ hr1; have HC1 := A_ hc1; clear hr1 hc1; have HB := A_ (Below.refl w.heap.size w); have H : ((Q4.f k a0_0 a0_1 (([l1] : List (List Int)))).bind fun t391 => (if t391 = true then ((Q58.f l1).bind fun t392 => ((Q14.f k t392).bind fun t395 => (some (t395, true)))) else (some (([] : List Int), false)))) = some (r1, r2) := h; clear h
 obtain ⟨y388, hy388⟩ : ∃ y_ : List (List Int), y_ = (([l1] : List (List Int))) := ⟨_, rfl⟩
 replace H : ((Q4.f k a0_0 a0_1 y388).bind fun t391 => (if t391 = true then ((Q58.f l1).bind fun t392 => ((Q14.f k t392).bind fun t395 => (some (t395, true)))) else (some (([] : List Int), false)))) = some (r1, r2) := by first | (rw [hy388]; with_reducible exact H) | (have H2_ := (Option.bind_some _ _).symm.trans H; rw [hy388]; with_reducible exact H2_) | (have H2_ := (Option.bind_some _ _).symm.trans H; with_reducible exact H2_) | with_reducible exact H | (rw [hy388]; exact H) | exact H
 have Ny388 := A_ hy388; clear hy388; replace H := bm H; obtain ⟨t391, A3, H⟩ := H; by_cases c4 : t391 = true
 ·
  subst c4
  have H1 : ((Q58.f l1).bind fun t392 => ((Q14.f k t392).bind fun t395 => (some (t395, true)))) = some (r1, r2) := by rw [if_pos rfl] at H; exact H
  clear H; have H := H1; clear H1; replace H := bm H; obtain ⟨t392, A5, H⟩ := H; replace H := bm H; obtain ⟨t395, A6, H⟩ := H; simp only [Option.some.injEq, Prod.mk.injEq] at H
  obtain ⟨rfl, rfl⟩ := H; go_enter Try.func17, Try.ntmps17
  go_wp2_with (first | ((with_reducible refine gate_dst (N := 2) rfl ?_); refine bx (N := 2) #[.int .i64 a0_0, .bool a0_1] 25 ?_; intro gb387 hg w7 hbox hb; have BK387 := A_ (hbox); have GW387 := A_ (bs hg (hq HB) : w.heap.size ≤ gb387); have GE387 := A_ (bs hg (hq HB) : w.heap.size ≤ gb387); replace HB := A_ (below_step (hq HB) hb); clear hb hbox hg; have hcz8_0 : w7.cell? ⟨gb387, 0, none⟩ = some (.int .i64 a0_0) := bc BK387 0; have hcz8_1 : w7.cell? ⟨gb387, 1, none⟩ = some (.bool a0_1) := bc BK387 1; have hfz8_0 := blk_frozen BK387.out 0; have hfz8_1 := blk_frozen BK387.out 1) | ((with_reducible refine gate_dst (N := 9) rfl ?_); refine V_lit (Kd.slice 3 (Kd.int .i64)) 0 26 ?hg (N' := 9) ?hd (xs := ([l1] : List (List Int))) (inner := [.slice A1 l1.length c1]) ?hr ?hp (by simp) ?_; (case hd => rfl); (case hg => rfl); (case hr => first | (go_simp; done) | (go_simp; rfl)); (case hp => exact (Reps.one (show Kd.FK (Kd.slice 3 (Kd.int .i64)) _ _ l1 [.slice A1 l1.length c1] from (Kd.FK_slice_mk HC1.out (Kd.F_mono (Kd.F_below (Kd.C_F (Kd.heap_int .i64) HR1.out) (hq HB)) (fun _ _ => trivial)))) (Reps.none _ _))); intro v389 w9 ho10 hb; (first | rw [← Ny388.out] at ho10 | (simp only [Int.reduceToNat] at ho10; rw [← Ny388.out] at ho10)); replace BK387 := A_ (blk_below (bq BK387) hb); replace HB := A_ (below_step (hq HB) hb); have HO390 := A_ (ho10); clear hb ho10; obtain ⟨Ao11, co11, eo11⟩ := Kd.V_slice HO390.out; subst eo11) | ((with_reducible refine gate_callee (f := 29) rfl ?_); refine gL (some 10) Try.func29 #[.agg #[.int .i64 a0_0, .bool a0_1], .slice Ao11 y388.length co11] ?_; (with_reducible refine (Q4.calls k a0_0 a0_1 _ _ y388 true _ ?side1 ?side2 A3.out).mono ?_); (case side1 => exact cq (Kd.V_reads' HO390.out).2.2); (case side2 => exact (Kd.V_reads' HO390.out).2.1); rintro e w12 ⟨rfl, hb⟩; refine ⟨_, rfl, ?_⟩; replace HO390 := A_ (Kd.V_below (vq HO390) hb); replace BK387 := A_ (blk_below (bq BK387) hb); replace HB := A_ (below_step (hq HB) hb); clear hb) | ((with_reducible refine gate_callee (f := 40) rfl ?_); refine gL (some 13) Try.func40 #[.slice A1 l1.length c1] ?_; (with_reducible refine (Q58.calls _ _ l1 t392 _ ?side1 ?side2 A5.out).mono ?_); (case side1 => exact cq (Kd.C_below HR1.out HB.out)); (case side2 => exact HC1.out); rintro e w13 ⟨v393, rfl, ho0, hb⟩; refine ⟨_, rfl, ?_⟩; replace HO390 := A_ (Kd.V_elder' (vq HO390) (Kd.R_base ho0) hb); have HO394 := A_ (Kd.R_lower ho0 (below_size (hq HB))); replace BK387 := A_ (blk_below (bq BK387) hb); replace HB := A_ (below_step (hq HB) hb); clear hb ho0; obtain ⟨Ao14, co14, eo14⟩ := Kd.R_slice HO394.out; subst eo14) | ((with_reducible refine gate_callee (f := 41) rfl ?_); refine gL (some 15) Try.func41 #[.slice Ao14 t392.length co14] ?_; (with_reducible refine (Q14.calls k (fun k_ => some k_ = (.slice Ao14 t392.length co14 : Value).ownBlock) (.slice Ao14 t392.length co14) t392 t395 w _ ?side1 ?side2 A6.out).mono ?_); (case side1 => repeat (first | (with_reducible first | exact HB.out | apply below_alloc | apply pw_below_drewN | apply below_drew1 | refine below_set ?_ GE387.out) | exact HB.out)); (case side2 => exact Kd.R_tight rfl HO394.out); rintro e w15 ⟨rfl, hy0, hb, hkp⟩; refine ⟨_, rfl, ?_⟩; replace BK387 := A_ (blk_kept (bq BK387) hkp (fun hs_ => (fun e_ => (Kd.R_ne HO394.out BK387.out (by decide)) e_) hs_)); replace HO390 := A_ (Kd.V_mono (ok' := fun k_ => some k_ ≠ (.slice Ao14 t392.length co14 : Value).ownBlock) (Kd.V_keptB (HO390.out) hkp (fun k_ hk_ hs_ => (hk_.2) hs_)) (fun k_ hk_ => hk_.1.2)); replace HO394 := A_ (Kd.R_reok rfl hy0 (fun k_ e_ => HO394.out.1 k_ e_)); replace HB := A_ (hb); clear hb hkp hy0))
  go_ret2
  exact ⟨_, rt, rq HO394, hq HB⟩
 ·
  replace c4 := Bool.eq_false_iff.mpr c4; subst c4
  have H1 : (some (([] : List Int), false)) = some (r1, r2) := by rw [if_neg (show ¬ (false = true) by decide)] at H; exact H
  clear H; have H := H1; clear H1; simp only [Option.some.injEq, Prod.mk.injEq] at H
  obtain ⟨rfl, rfl⟩ := H; go_enter Try.func17, Try.ntmps17
  go_wp2_with (first | ((with_reducible refine gate_dst (N := 2) rfl ?_); refine bx (N := 2) #[.int .i64 a0_0, .bool a0_1] 25 ?_; intro gb387 hg w16 hbox hb; have BK387 := A_ (hbox); have GW387 := A_ (bs hg (hq HB) : w.heap.size ≤ gb387); have GE387 := A_ (bs hg (hq HB) : w.heap.size ≤ gb387); replace HB := A_ (below_step (hq HB) hb); clear hb hbox hg; have hcz17_0 : w16.cell? ⟨gb387, 0, none⟩ = some (.int .i64 a0_0) := bc BK387 0; have hcz17_1 : w16.cell? ⟨gb387, 1, none⟩ = some (.bool a0_1) := bc BK387 1; have hfz17_0 := blk_frozen BK387.out 0; have hfz17_1 := blk_frozen BK387.out 1) | ((with_reducible refine gate_dst (N := 9) rfl ?_); refine V_lit (Kd.slice 3 (Kd.int .i64)) 0 26 ?hg (N' := 9) ?hd (xs := ([l1] : List (List Int))) (inner := [.slice A1 l1.length c1]) ?hr ?hp (by simp) ?_; (case hd => rfl); (case hg => rfl); (case hr => first | (go_simp; done) | (go_simp; rfl)); (case hp => exact (Reps.one (show Kd.FK (Kd.slice 3 (Kd.int .i64)) _ _ l1 [.slice A1 l1.length c1] from (Kd.FK_slice_mk HC1.out (Kd.F_mono (Kd.F_below (Kd.C_F (Kd.heap_int .i64) HR1.out) (hq HB)) (fun _ _ => trivial)))) (Reps.none _ _))); intro v389 w18 ho19 hb; (first | rw [← Ny388.out] at ho19 | (simp only [Int.reduceToNat] at ho19; rw [← Ny388.out] at ho19)); replace BK387 := A_ (blk_below (bq BK387) hb); replace HB := A_ (below_step (hq HB) hb); have HO390 := A_ (ho19); clear hb ho19; obtain ⟨Ao20, co20, eo20⟩ := Kd.V_slice HO390.out; subst eo20) | ((with_reducible refine gate_callee (f := 29) rfl ?_); refine gL (some 10) Try.func29 #[.agg #[.int .i64 a0_0, .bool a0_1], .slice Ao20 y388.length co20] ?_; (with_reducible refine (Q4.calls k a0_0 a0_1 _ _ y388 false _ ?side1 ?side2 A3.out).mono ?_); (case side1 => exact cq (Kd.V_reads' HO390.out).2.2); (case side2 => exact (Kd.V_reads' HO390.out).2.1); rintro e w21 ⟨rfl, hb⟩; refine ⟨_, rfl, ?_⟩; replace HO390 := A_ (Kd.V_below (vq HO390) hb); replace BK387 := A_ (blk_below (bq BK387) hb); replace HB := A_ (below_step (hq HB) hb); clear hb))
  go_ret2
  exact ⟨_, rt, by first | exact Kd.R_nil _ _ _ _ _ | exact Kd.N_nil _ _ _ _ _ | exact Kd.V_nil _ _ _ _ _ | exact Kd.Q_nil _ _ _ _ _ | exact Kd.S_nil _ _ _ _ _, hq HB⟩

/-! ### spec_BackWalk: function 18 -/
def Q25.l0 : Nat → List Int → List Int → Int → Option (List Int × Bool)
  | 0, _, _, _ => none
  | k + 1, x1, x6, x7 => if x7 ≥ 0 then (if 0 ≤ x7 then (if x7 < (x1.length : Int) then (if x6.length < 17592186044416 then (Q25.l0 k x1 (x6 ++ [rd x1 x7]) (wrap64 (x7 - 1))) else (none)) else (none)) else (none)) else (some (x6, true))
def Q25.f (k : Nat) (a0_0 : Int) (a0_1 : Bool) (l1 : List Int) : Option (List Int × Bool) := (some (([] : List Int) : List Int)).bind fun y397 => ((Q1.f k a0_0 a0_1 l1).bind fun t400 => (if t400 = true then (Q25.l0 k l1 y397 (wrap64 ((l1.length : Int) - 1))) else (some (y397, false))))
set_option maxHeartbeats 8000000 in
set_option maxRecDepth 100000 in
theorem Q25.calls (k : Nat) (a0_0 : Int) (a0_1 : Bool) (A1 : Option Addr) (c1 : Nat) (l1 : List Int) (r1 : List Int) (r2 : Bool) (w : World) (hr1 : Kd.C (Kd.int .i64) w A1 l1.length l1) (hc1 : l1.length ≤ c1) (h : Q25.f k a0_0 a0_1 l1 = some (r1, r2)) :
    Calls Try.prog 18 #[.agg #[.int .i64 a0_0, .bool a0_1], .slice A1 l1.length c1] w fun e w' => ∃ v0_ : Value, e = .returned (.tuple #[v0_, .bool r2]) ∧ Kd.R (Kd.int .i64) 3 w' w.heap.size (fun _ => True) v0_ r1 ∧ Below w.heap.size w w' := by
 have hu25 := Try.underlying25; have HR1 := A_ hr1; have HC1 := A_ hc1; clear hr1 hc1; have HB := A_ (Below.refl w.heap.size w); have H : ((some (([] : List Int) : List Int)).bind fun y397 => ((Q1.f k a0_0 a0_1 l1).bind fun t400 => (if t400 = true then (Q25.l0 k l1 y397 (wrap64 ((l1.length : Int) - 1))) else (some (y397, false))))) = some (r1, r2) := h; clear h
 obtain ⟨y397, hy397⟩ : ∃ y_ : List Int, y_ = (([] : List Int)) := ⟨_, rfl⟩
 replace H : ((Q1.f k a0_0 a0_1 l1).bind fun t400 => (if t400 = true then (Q25.l0 k l1 y397 (wrap64 ((l1.length : Int) - 1))) else (some (y397, false)))) = some (r1, r2) := by first | (rw [hy397]; with_reducible exact H) | (have H2_ := (Option.bind_some _ _).symm.trans H; rw [hy397]; with_reducible exact H2_) | (have H2_ := (Option.bind_some _ _).symm.trans H; with_reducible exact H2_) | with_reducible exact H | (rw [hy397]; exact H) | exact H
 have Ny397 := A_ hy397; clear hy397; replace H := bm H; obtain ⟨t400, A3, H⟩ := H; by_cases c4 : t400 = true
 ·
  subst c4
  have H1 : (Q25.l0 k l1 y397 (wrap64 ((l1.length : Int) - 1))) = some (r1, r2) := by rw [if_pos rfl] at H; exact H
  clear H; have H := H1; clear H1; have H' := A_ H; clear H; go_enter Try.func18, Try.ntmps18
  go_wp2_with (first | ((with_reducible refine gate_dst (N := 2) rfl ?_); refine bx (N := 2) #[.int .i64 a0_0, .bool a0_1] 25 ?_; intro gb396 hg w5 hbox hb; have BK396 := A_ (hbox); have GW396 := A_ (bs hg (hq HB) : w.heap.size ≤ gb396); have GE396 := A_ (bs hg (hq HB) : w.heap.size ≤ gb396); replace HB := A_ (below_step (hq HB) hb); clear hb hbox hg) | ((with_reducible refine gate_dst (N := 8) rfl ?_); refine Kd.R_lit (Kd.int .i64) _ 3 ?hg (N := 8) ?hd (xs := ([] : List Int)) (inner := []) (ok := fun _ => True) (okp := fun _ => True) ?hr ?hp (fun _ hk => hk) trivial (Below.refl _ _) (Nat.le_refl _) (by simp) ?_; (case hd => rfl); (case hg => rfl); (case hr => first | (go_simp; done) | (go_simp; rfl)); (case hp => exact (Reps.none _ _)); intro v398 w6 ho7 hb hg_ hnew_; clear hg_ hnew_; (first | rw [← Ny397.out] at ho7 | (simp only [Int.reduceToNat] at ho7; rw [← Ny397.out] at ho7)); have HO399 := A_ (Kd.R_lower ho7 (below_size (hq HB))); replace BK396 := A_ (blk_below (bq BK396) hb); replace HB := A_ (below_step (hq HB) hb); clear hb ho7; have hcz8_0 : w6.cell? ⟨gb396, 0, none⟩ = some (.int .i64 a0_0) := bc BK396 0; have hcz8_1 : w6.cell? ⟨gb396, 1, none⟩ = some (.bool a0_1) := bc BK396 1; have hfz8_0 := blk_frozen BK396.out 0; have hfz8_1 := blk_frozen BK396.out 1) | ((with_reducible refine gate_callee (f := 31) rfl ?_); refine gL (some 11) Try.func31 #[.agg #[.int .i64 a0_0, .bool a0_1], .slice A1 l1.length c1] ?_; (with_reducible refine (Q1.calls k a0_0 a0_1 _ _ l1 true _ ?side1 ?side2 A3.out).mono ?_); (case side1 => exact cq (Kd.C_below HR1.out HB.out)); (case side2 => exact HC1.out); rintro e w9 ⟨rfl, hb⟩; refine ⟨_, rfl, ?_⟩; replace HO399 := A_ (Kd.R_below (rq HO399) hb); replace BK396 := A_ (blk_below (bq BK396) hb); replace HB := A_ (below_step (hq HB) hb); clear hb))
  go_loopg [6, 7] k (fun kq v6 v7 w' => ∃ (x6_1 : List Int) (x7_1 : Int), v7 = .int .i64 x7_1 ∧ Aside0 (Q25.l0 kq l1 x6_1 x7_1 = some (r1, r2)) ∧ Aside0 (kq ≤ k) ∧ Aside0 (Kd.R (Kd.int .i64) 3 w' w.heap.size (fun _ => True) v6 x6_1) ∧ Aside0 (w'.heap[gb396]? = some (.cells #[.int .i64 a0_0, .bool a0_1] 25 (0, 0))) ∧ Aside0 (Below w.heap.size w w'))
  case atStart => exact ⟨(y397), (wrap64 ((l1.length : Int) - 1)), rf, H', ⟨Nat.le_refl _⟩, ⟨rq HO399⟩, ⟨bq BK396⟩, ⟨hq HB⟩⟩
  case round =>
   clear H'; (try clear c4); (try clear hcz8_0); (try clear hcz8_1); (try clear hfz8_0); (try clear hfz8_1); obtain ⟨x6_1, x7_1, rfl, HA, HK1, HO_6, BK396, HB⟩ := hrel
   cases gk with
   | zero => exact absurd HA.out (by simp [Q25.l0])
   | succ k1 =>
    have H := HA.out; clear HA; simp only [Q25.l0] at H
    by_cases c10 : x7_1 ≥ 0
    ·
     rw [if_pos c10] at H; have c10b0 : decide (0 ≤ x7_1) = true := decide_eq_true c10; clear c10; by_cases c11 : 0 ≤ x7_1
     ·
      rw [if_pos c11] at H; have c11b0 := decide_eq_true c11; clear c11; by_cases c12 : x7_1 < (l1.length : Int)
      ·
       rw [if_pos c12] at H; have c12b0 := decide_eq_true c12; clear c12; by_cases c13 : x6_1.length < 17592186044416
       ·
        rw [if_pos c13] at H; have LMc13 := A_ c13; clear c13
        obtain ⟨y402, hy402⟩ : ∃ y_ : List Int, y_ = (x6_1 ++ [rd l1 x7_1]) := ⟨_, rfl⟩
        replace H : (Q25.l0 k1 l1 y402 (wrap64 (x7_1 - 1))) = some (r1, r2) := by first | (rw [hy402]; with_reducible exact H) | (have H2_ := (Option.bind_some _ _).symm.trans H; rw [hy402]; with_reducible exact H2_) | (have H2_ := (Option.bind_some _ _).symm.trans H; with_reducible exact H2_) | with_reducible exact H | (rw [hy402]; exact H) | exact H
        have Ny402 := A_ hy402; clear hy402; have H' := A_ H; clear H; have p401 : 0 ≤ (x7_1 : Int) := dq; have q401 : x7_1 < (l1.length : Int) := dq; obtain ⟨ad401, e401, hx401_0⟩ := Kd.at_int HR1.out x7_1 p401 q401
        cases e401
        replace hx401_0 := (HB.out.cell (World.block_lt_of_cell? w _ hx401_0)).trans hx401_0; replace p401 := eq_true p401; replace q401 := eq_true q401; go_wp2_with (first | ((with_reducible refine gate_builtin (b := .append) (xs := #[.tmp 21, .tmp 26]) rfl ?_); at_builtin; refine Kd.R_append (Kd.int .i64) (w0 := w) w.heap.size rfl (.tmp 21) (.tmp 26) 26 3 (.int .i64 0) 8 rfl Try.underlying26 info3 rfl (by decide) (by omega) u6 x6_1 (rd l1 x7_1) [.int .i64 (rd l1 x7_1)] (fun _ => True) (fun _ => False) rfl rfl ?aP (fun _ hk => hk.elim) ?aF ?aO ?aB ?aS ?aL ?_; (case aP => exact rfl); (case aB => exact (hq HB)); (case aF => exact (fun _ _ => trivial)); (case aO => exact (rq HO_6)); (case aS => exact (below_size (hq HB))); (case aL => have := LMc13.out; omega); intro v403 w14 ho hb hg hat; rw [← Ny402.out] at ho; have n0_ := A_ (blk_grown (g := gb396) (o := .cells #[.int .i64 a0_0, .bool a0_1] 25 (0, 0)) (bq BK396) hg (Kd.R_ne HO_6.out BK396.out (by decide))); have n1_ := A_ (hb); have n2_ := A_ (ho); clear BK396; clear HB; clear HO_6; have BK396 := n0_; have HB := n1_; have HO404 := n2_; clear n0_ n1_ n2_; clear ho hb hg hat))
        go_roundg k1
        case measure => have := HK1.out; omega
        case rel => exact ⟨(y402), (wrap64 (x7_1 - 1)), rf, H', ⟨by have := HK1.out; omega⟩, ⟨rq HO404⟩, ⟨bq BK396⟩, ⟨hq HB⟩⟩
       ·
        rw [if_neg c13] at H; exact absurd H (by simp)
      ·
       rw [if_neg c12] at H; exact absurd H (by simp)
     ·
      rw [if_neg c11] at H; exact absurd H (by simp)
    ·
     rw [if_neg c10] at H; have c10b0 : decide (0 ≤ x7_1) = false := decide_eq_false c10; clear c10; simp only [Option.some.injEq, Prod.mk.injEq] at H
     obtain ⟨rfl, rfl⟩ := H; go_wp2
     go_ret2
     exact ⟨_, rt, rq HO_6, hq HB⟩
 ·
  replace c4 := Bool.eq_false_iff.mpr c4; subst c4
  have H1 : (some (y397, false)) = some (r1, r2) := by rw [if_neg (show ¬ (false = true) by decide)] at H; exact H
  clear H; have H := H1; clear H1; simp only [Option.some.injEq, Prod.mk.injEq] at H
  obtain ⟨rfl, rfl⟩ := H; go_enter Try.func18, Try.ntmps18
  go_wp2_with (first | ((with_reducible refine gate_dst (N := 2) rfl ?_); refine bx (N := 2) #[.int .i64 a0_0, .bool a0_1] 25 ?_; intro gb396 hg w15 hbox hb; have BK396 := A_ (hbox); have GW396 := A_ (bs hg (hq HB) : w.heap.size ≤ gb396); have GE396 := A_ (bs hg (hq HB) : w.heap.size ≤ gb396); replace HB := A_ (below_step (hq HB) hb); clear hb hbox hg) | ((with_reducible refine gate_dst (N := 8) rfl ?_); refine Kd.R_lit (Kd.int .i64) _ 3 ?hg (N := 8) ?hd (xs := ([] : List Int)) (inner := []) (ok := fun _ => True) (okp := fun _ => True) ?hr ?hp (fun _ hk => hk) trivial (Below.refl _ _) (Nat.le_refl _) (by simp) ?_; (case hd => rfl); (case hg => rfl); (case hr => first | (go_simp; done) | (go_simp; rfl)); (case hp => exact (Reps.none _ _)); intro v398 w16 ho17 hb hg_ hnew_; clear hg_ hnew_; (first | rw [← Ny397.out] at ho17 | (simp only [Int.reduceToNat] at ho17; rw [← Ny397.out] at ho17)); have HO399 := A_ (Kd.R_lower ho17 (below_size (hq HB))); replace BK396 := A_ (blk_below (bq BK396) hb); replace HB := A_ (below_step (hq HB) hb); clear hb ho17; have hcz18_0 : w16.cell? ⟨gb396, 0, none⟩ = some (.int .i64 a0_0) := bc BK396 0; have hcz18_1 : w16.cell? ⟨gb396, 1, none⟩ = some (.bool a0_1) := bc BK396 1; have hfz18_0 := blk_frozen BK396.out 0; have hfz18_1 := blk_frozen BK396.out 1) | ((with_reducible refine gate_callee (f := 31) rfl ?_); refine gL (some 11) Try.func31 #[.agg #[.int .i64 a0_0, .bool a0_1], .slice A1 l1.length c1] ?_; (with_reducible refine (Q1.calls k a0_0 a0_1 _ _ l1 false _ ?side1 ?side2 A3.out).mono ?_); (case side1 => exact cq (Kd.C_below HR1.out HB.out)); (case side2 => exact HC1.out); rintro e w19 ⟨rfl, hb⟩; refine ⟨_, rfl, ?_⟩; replace HO399 := A_ (Kd.R_below (rq HO399) hb); replace BK396 := A_ (blk_below (bq BK396) hb); replace HB := A_ (below_step (hq HB) hb); clear hb))
  go_ret2
  exact ⟨_, rt, rq HO399, hq HB⟩

end Go.Proofs.Ytbjpfnpleajhgaa.PFnWalks
