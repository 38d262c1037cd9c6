-- Told shorter still by shrink2.py.
-- Printed, and told shorter by this session's program shrink.py.
-- Printed by this session's program myprint.py.
import Derived.Test.YtjhppcpjobofbaaGreatPFnExplorersx0
import Derived.Test.YtjhppcpjobofbaaGreatPFnExplorersx8
import Derived.Test.YtjhppcpjobofbaaGreatPFnExplorersx9
import Derived.Test.YtjhppcpjobofbaaGreatPFnExplorersx14
namespace Go.Proofs.YtjhppcpjobofbaaGreat.PFnExplorers
open Go.RowKit Go.Proofs.YtjhppcpjobofbaaGreat.Own Go.Proofs.YtjhppcpjobofbaaGreatW.PrintWords Go.Proofs.YtjhppcpjobofbaaGreatW.PrintLast Go.Proofs.YtjhppcpjobofbaaGreatW.PrintMore
attribute [local go_sem] max2_int min2_int max_two min_two max_three min_three max_four min_four   -- for this text's walks alone
set_option linter.unusedVariables false
set_option linter.unusedSimpArgs false

/-! ### spec_l6All: function 41 -/
def Q40.l0 : Nat → List Int → Int → List Int → Int → Option (List Int)
  | 0, _, _, _, _ => none
  | k + 1, x0, x1, x5, x6 => if x6 < (x0.length : Int) then (if x5.length < 17592186044416 then (Q40.l0 k x0 x1 (x5 ++ [x1]) (wrap64 (x6 + 1))) else (none)) else (some x5)
def Q40.f (k : Nat) (l0 : List Int) (a1 : Int) : Option (List Int) := Q40.l0 k l0 a1 (([] : List Int)) 0
set_option maxHeartbeats 8000000 in
set_option maxRecDepth 100000 in
theorem Q40.calls (k : Nat) (A0 : Option Addr) (c0 : Nat) (l0 : List Int) (a1 : Int) (r : List Int) (w : World) (hr0 : Kd.C (Kd.int .i64) w A0 l0.length l0) (hc0 : l0.length ≤ c0) (h : Q40.f k l0 a1 = some r) :
    Calls Tryz.prog 41 #[.slice A0 l0.length c0, .int .i64 a1] w fun e w' => ∃ v0_ : Value, e = .returned (v0_) ∧ Kd.R (Kd.int .i64) 3 w' w.heap.size (fun _ => True) v0_ r ∧ Below w.heap.size w w' := by
 have HR0 := A_ hr0; have HC0 := A_ hc0; clear hr0 hc0; have HB := A_ (Below.refl w.heap.size w); have H : (Q40.l0 k l0 a1 (([] : List Int)) 0) = some r := h; clear h
 obtain ⟨y481, hy481⟩ : ∃ y_ : List Int, y_ = (([] : List Int)) := ⟨_, rfl⟩
 replace H : (Q40.l0 k l0 a1 y481 0) = some r := by first | (rw [hy481]; with_reducible exact H) | (have H2_ := (Option.bind_some _ _).symm.trans H; rw [hy481]; with_reducible exact H2_) | (have H2_ := (Option.bind_some _ _).symm.trans H; with_reducible exact H2_) | with_reducible exact H | (rw [hy481]; exact H) | exact H
 have Ny481 := A_ hy481; clear hy481; have H' := A_ H; clear H; go_enter Tryz.func41, Tryz.ntmps41
 go_wp2_with (first | ((with_reducible refine gate_dst (N := 7) rfl ?_); refine Kd.R_lit (Kd.int .i64) _ 3 ?hg (N := 7) ?hd (xs := ([] : List Int)) (inner := []) (ok := fun _ => True) (okp := fun _ => True) ?hr ?hp (fun _ hk => hk) trivial (Below.refl _ _) (Nat.le_refl _) (by simp) ?_; (case hd => rfl); (case hg => rfl); (case hr => first | (go_simp; done) | (go_simp; rfl)); (case hp => exact (Reps.none _ _)); intro v482 w3 ho4 hb hg_ hnew_; clear hg_ hnew_; (first | rw [← Ny481.out] at ho4 | (simp only [Int.reduceToNat] at ho4; rw [← Ny481.out] at ho4)); have HO483 := A_ (Kd.R_lower ho4 (below_size (hq HB))); replace HB := A_ (below_step (hq HB) hb); clear hb ho4))
 go_loopg [5, 6] k (fun kq v5 v6 w' => ∃ (x5_1 : List Int) (x6_1 : Int), v6 = .int .i64 x6_1 ∧ Aside0 (Q40.l0 kq l0 a1 x5_1 x6_1 = some r) ∧ Aside0 (kq ≤ k) ∧ Aside0 (Kd.R (Kd.int .i64) 3 w' w.heap.size (fun _ => True) v5 x5_1) ∧ Aside0 (Below w.heap.size w w'))
 case atStart => exact ⟨(y481), (0), rf, H', ⟨Nat.le_refl _⟩, ⟨rq HO483⟩, ⟨hq HB⟩⟩
 case round =>
  clear H'; obtain ⟨x5_1, x6_1, rfl, HA, HK1, HO_5, HB⟩ := hrel
  cases gk with
  | zero => exact absurd HA.out (by simp [Q40.l0])
  | succ k1 =>
   have H := HA.out; clear HA; simp only [Q40.l0] at H
   by_cases c5 : x6_1 < (l0.length : Int)
   ·
    rw [if_pos c5] at H; have c5b0 := decide_eq_true c5; clear c5; by_cases c6 : x5_1.length < 17592186044416
    ·
     rw [if_pos c6] at H; have LMc6 := A_ c6; clear c6
     obtain ⟨y484, hy484⟩ : ∃ y_ : List Int, y_ = (x5_1 ++ [a1]) := ⟨_, rfl⟩
     replace H : (Q40.l0 k1 l0 a1 y484 (wrap64 (x6_1 + 1))) = some r := by first | (rw [hy484]; with_reducible exact H) | (have H2_ := (Option.bind_some _ _).symm.trans H; rw [hy484]; with_reducible exact H2_) | (have H2_ := (Option.bind_some _ _).symm.trans H; with_reducible exact H2_) | with_reducible exact H | (rw [hy484]; exact H) | exact H
     have Ny484 := A_ hy484; clear hy484; have H' := A_ H; clear H; go_wp2_with (first | ((with_reducible refine gate_builtin (b := .append) (xs := #[.tmp 14, .tmp 16]) rfl ?_); at_builtin; refine Kd.R_append (Kd.int .i64) (w0 := w) w.heap.size rfl (.tmp 14) (.tmp 16) 26 3 (.int .i64 0) 8 rfl Tryz.underlying26 info3 rfl (by decide) (by omega) u5 x5_1 a1 [.int .i64 a1] (fun _ => True) (fun _ => False) rfl rfl ?aP (fun _ hk => hk.elim) ?aF ?aO ?aB ?aS ?aL ?_; (case aP => exact rfl); (case aB => exact (hq HB)); (case aF => exact (fun _ _ => trivial)); (case aO => exact (rq HO_5)); (case aS => exact (below_size (hq HB))); (case aL => have := LMc6.out; omega); intro v485 w7 ho hb hg hat; rw [← Ny484.out] at ho; have n0_ := A_ (hb); have n1_ := A_ (ho); clear HB; clear HO_5; have HB := n0_; have HO486 := n1_; clear n0_ n1_; clear ho hb hg hat))
     go_roundg k1
     case measure => have := HK1.out; omega
     case rel => exact ⟨(y484), (wrap64 (x6_1 + 1)), rf, H', ⟨by have := HK1.out; omega⟩, ⟨rq HO486⟩, ⟨hq HB⟩⟩
    ·
     rw [if_neg c6] at H; exact absurd H (by simp)
   ·
    rw [if_neg c5] at H; have c5b0 := decide_eq_false c5; clear c5; obtain rfl := Option.some.inj H; go_wp2
    go_ret
    exact ⟨_, rt, rq HO_5, hq HB⟩

/-! ### spec_l6Least: function 21 -/
def Q15.l0 : Nat → List Int → Bool → Int → Int → Bool → Option (Int)
  | 0, _, _, _, _, _ => none
  | k + 1, x1, x2, x7, x488000, x488001 => (Q40.f k x1 x7).bind fun t489 => ((Q2.f k x488000 x488001 x1 t489 x2).bind fun bt492 => (if bt492.1 ≥ 0 then (some x7) else (Q15.l0 k x1 x2 (wrap64 (x7 + 1)) x488000 x488001)))
def Q15.f (k : Nat) (a0_0 : Int) (a0_1 : Bool) (l1 : List Int) (a2 : Bool) : Option (Int) := (Q12.f k a0_0 a0_1 l1).bind fun t488 => (Q15.l0 k l1 a2 t488 a0_0 a0_1)
def Q15.T2 : Bool × List (List Nat × List Nat) := (true, [([], []), ([], []), ([], []), ([], []), ([2, 3], [2, 3]), ([], []), ([0, 1, 4, 5, 4], [0, 1, 4, 5]), ([6], [6]), ([7], [7]), ([7], [7]), ([8, 6, 0, 1, 2, 3, 4, 5, 6, 7, 8], [8]), ([9, 10, 0, 1, 2, 3, 4, 5, 6, 7, 8, 9, 10], [9])])
def Q15.B2 : List Nat := [0, 0, 0, 0, 12, 0, 63, 127, 255, 255, 511, 2047]
theorem Q15.tab2 : rtab .any (opsOf Tryz.f21 2) = Q15.T2 := by kernel_rfl
theorem Q15.bits2 : waitsOk Q15.T2.2 Q15.B2 = true := by kernel_rfl
set_option maxHeartbeats 8000000 in
set_option maxRecDepth 100000 in
theorem Q15.calls (k : Nat) (a0_0 : Int) (a0_1 : Bool) (A1 : Option Addr) (c1 : Nat) (l1 : List Int) (a2 : Bool) (r : Int) (w : World) (hr1 : Kd.C (Kd.int .i64) w A1 l1.length l1) (hc1 : l1.length ≤ c1) (h : Q15.f k a0_0 a0_1 l1 a2 = some r) :
    Calls Tryz.prog 21 #[.agg #[.int .i64 a0_0, .bool a0_1], .slice A1 l1.length c1, .bool a2] w fun e w' => e = .returned (.int .i64 r) ∧ Below w.heap.size w w' := by
 have hu25 := Tryz.underlying25; have HR1 := A_ hr1; have HC1 := A_ hc1; clear hr1 hc1; have HB := A_ (Below.refl w.heap.size w); have H : ((Q12.f k a0_0 a0_1 l1).bind fun t488 => (Q15.l0 k l1 a2 t488 a0_0 a0_1)) = some r := h; clear h; replace H := bm H; obtain ⟨t488, A4, H⟩ := H; have H' := A_ H; clear H; go_enter Tryz.func21, Tryz.ntmps21
 go_wp2_with (first | ((with_reducible refine gate_dst (N := 3) rfl ?_); refine bx (N := 3) #[.int .i64 a0_0, .bool a0_1] 25 ?_; intro gb487 hg w5 hbox hb; have BK487 := A_ (hbox); have GW487 := A_ (bs hg (hq HB) : w.heap.size ≤ gb487); have GE487 := A_ (bs hg (hq HB) : w.heap.size ≤ gb487); replace HB := A_ (below_step (hq HB) hb); clear hb hbox hg; have hcz6_0 : w5.cell? ⟨gb487, 0, none⟩ = some (.int .i64 a0_0) := bc BK487 0; have hcz6_1 : w5.cell? ⟨gb487, 1, none⟩ = some (.bool a0_1) := bc BK487 1; have hfz6_0 := blk_frozen BK487.out 0; have hfz6_1 := blk_frozen BK487.out 1) | ((with_reducible refine gate_callee (f := 25) rfl ?_); refine gL (some 12) Tryz.func25 #[.agg #[.int .i64 a0_0, .bool a0_1], .slice A1 l1.length c1] ?_; (with_reducible refine (Q12.calls k a0_0 a0_1 _ _ l1 t488 _ ?side1 ?side2 A4.out).mono ?_); (case side1 => exact cq (Kd.C_below HR1.out HB.out)); (case side2 => exact HC1.out); rintro e w7 ⟨rfl, hb⟩; refine ⟨_, rfl, ?_⟩; replace BK487 := A_ (blk_below (bq BK487) hb); replace HB := A_ (below_step (hq HB) hb); clear hb))
 go_loopg [7] k (fun kq v7 w' => ∃ (x7_1 : Int), v7 = .int .i64 x7_1 ∧ Aside0 (Q15.l0 kq l1 a2 x7_1 a0_0 a0_1 = some r) ∧ Aside0 (kq ≤ k) ∧ Aside0 (w'.heap[gb487]? = some (.cells #[.int .i64 a0_0, .bool a0_1] 25 (0, 0))) ∧ Aside0 (Below w.heap.size w w'))
 case atStart => exact ⟨(t488), rf, H', ⟨Nat.le_refl _⟩, ⟨bq BK487⟩, ⟨hq HB⟩⟩
 case round =>
  clear H'; (try clear hcz6_0); (try clear hcz6_1); (try clear hfz6_0); (try clear hfz6_1); obtain ⟨x7_1, rfl, HA, HK1, BK487, HB⟩ := hrel
  cases gk with
  | zero => exact absurd HA.out (by simp [Q15.l0])
  | succ k1 =>
   have H := HA.out; clear HA; simp only [Q15.l0] at H
   replace H := bm H; obtain ⟨t489, A8, H⟩ := H; replace H := bm H; obtain ⟨⟨t492, t493⟩, A9, H⟩ := H; (try dsimp only at H); by_cases c10 : t492 ≥ 0
   ·
    rw [if_pos c10] at H; have c10b0 : decide (0 ≤ t492) = true := decide_eq_true c10; clear c10; obtain rfl := Option.some.inj H; try go_wp2
    replace BK487 := A_ (blk_drew BK487.out); replace HB := A_ (below_drew1 HB.out); refine start_ (n := 12) (S := fun w' => w'.cell? ⟨gb487, 0, none⟩ = some (.int .i64 a0_0) ∧ w'.cell? ⟨gb487, 1, none⟩ = some (.bool a0_1)) (ds := []) #[false, false, false, false, false, false, false, false, false, false, false, false] (by kernel_rfl) rfl rfl ⟨bc BK487 0, bc BK487 1⟩ (fun hHeld => ?_); refine with_tabW Q15.tab2 Q15.bits2 (fun HT_ HW_ => ?_); generalize wr.drew = w11 at BK487 HB hHeld ⊢; refine puT (i := 1) (N := some 15) HT_ #[false, true, false, false, false, false, false, false, false, false, false, false] ?_; refine puT (i := 2) (N := some 16) HT_ #[false, true, true, false, false, false, false, false, false, false, false, false] ?_; refine puT (i := 3) (N := some 17) HT_ #[false, true, true, true, false, false, false, false, false, false, false, false] ?_; refine puT (i := 5) (N := some 19) HT_ #[false, true, true, true, false, true, false, false, false, false, false, false] ?_; refine tkT (i := 0) (N := some 14) HT_ HW_ hHeld #[true, true, true, true, false, true, false, false, false, false, false, false] ?_; refine onT (i := 4) (N := some 18) HT_ #[true, true, true, true, true, true, false, false, false, false, false, false] (fun K hK => ?_); refine go_ Tryz.func41 #[.slice A1 l1.length c1, .int .i64 x7_1] ?_; with_reducible refine (Q40.calls k1 _ _ l1 x7_1 t489 _ ?side1 ?side2 A8.out).mono ?_
    (case side1 => exact cq (Kd.C_below HR1.out HB.out)); (case side2 => exact HC1.out); rintro e w12 ⟨v490, rfl, ho0, hb⟩; refine ⟨_, rfl, ?_⟩; have HO491 := A_ (Kd.R_lower ho0 (below_size (hq HB))); replace BK487 := A_ (blk_below (bq BK487) hb); replace HB := A_ (below_step (hq HB) hb); clear hb ho0; obtain ⟨Ao13, co13, eo13⟩ := Kd.R_slice HO491.out; (first | subst eo13 | (injection eo13 with f1_ f2_ f3_; have f4_ := f1_.symm; have f5_ := f3_.symm; clear f1_ f2_ f3_; subst f4_; subst f5_)); refine hK.out _ _ ⟨bc BK487 0, bc BK487 1⟩ (fun hHeld => ?_); clear hK K; refine nq_ (some 18) ?_; refine onT (i := 6) (N := some 20) HT_ #[true, true, true, true, true, true, true, false, false, false, false, false] (fun K hK => ?_); refine go_ Tryz.func32 #[.agg #[.int .i64 a0_0, .bool a0_1], .slice A1 l1.length c1, .slice Ao13 t489.length co13, .bool a2] ?_; with_reducible refine (Q2.calls k1 a0_0 a0_1 _ _ l1 _ _ t489 a2 t492 t493 _ ?side1 ?side2 ?side3 ?side4 A9.out).mono ?_
    (case side1 => exact cq (Kd.C_below HR1.out HB.out)); (case side2 => exact HC1.out); (case side3 => exact cq (Kd.R_reads' HO491.out).2.2); (case side4 => exact (Kd.R_reads' HO491.out).2.1); rintro e w14 ⟨v494, rfl, ho0, hb⟩; refine ⟨_, rfl, ?_⟩; have HO495 := A_ (Kd.V_lower (Kd.V_mono (ok' := fun k_ => some k_ ≠ (.slice Ao13 t489.length co13 : Value).ownBlock ∧ k_ ≠ gb487) ho0 (fun k_ hk_ => ⟨(Kd.fresh' (Kd.R_lt (rq HO491)) k_ hk_), (Kd.freshB (g := gb487) (o := .cells #[.int .i64 a0_0, .bool a0_1] 25 (0, 0)) (bq BK487) k_ hk_)⟩)) (below_size (hq HB))); replace HO491 := A_ (Kd.R_below (rq HO491) hb); replace BK487 := A_ (blk_below (bq BK487) hb); replace HB := A_ (below_step (hq HB) hb); clear hb ho0; refine hK.out _ _ ⟨bc BK487 0, bc BK487 1⟩ (fun hHeld => ?_); clear hK K; refine nq_ (some 20) ?_; refine puT (i := 7) (N := some 13) HT_ #[true, true, true, true, true, true, true, true, false, false, false, false] ?_; refine puT (i := 8) (N := some 21) HT_ #[true, true, true, true, true, true, true, true, true, false, false, false] ?_; refine puT (i := 9) (N := some 22) HT_ #[true, true, true, true, true, true, true, true, true, true, false, false] ?_; refine puT (i := 10) (N := some 8) HT_ #[true, true, true, true, true, true, true, true, true, true, true, false] ?_; refine puT (i := 11) (N := some 9) HT_ #[true, true, true, true, true, true, true, true, true, true, true, true] ?_; refine done_ (done_of HT_.out (by kernel_rfl)) ?_; try go_wp2
    go_ret
    exact ⟨rt, hq HB⟩
   ·
    rw [if_neg c10] at H; have c10b0 : decide (0 ≤ t492) = false := decide_eq_false c10; clear c10; have H' := A_ H; clear H; try go_wp2
    replace BK487 := A_ (blk_drew BK487.out); replace HB := A_ (below_drew1 HB.out); refine start_ (n := 12) (S := fun w' => w'.cell? ⟨gb487, 0, none⟩ = some (.int .i64 a0_0) ∧ w'.cell? ⟨gb487, 1, none⟩ = some (.bool a0_1)) (ds := []) #[false, false, false, false, false, false, false, false, false, false, false, false] (by kernel_rfl) rfl rfl ⟨bc BK487 0, bc BK487 1⟩ (fun hHeld => ?_); refine with_tabW Q15.tab2 Q15.bits2 (fun HT_ HW_ => ?_); generalize wr.drew = w15 at BK487 HB hHeld ⊢; refine puT (i := 1) (N := some 15) HT_ #[false, true, false, false, false, false, false, false, false, false, false, false] ?_; refine puT (i := 2) (N := some 16) HT_ #[false, true, true, false, false, false, false, false, false, false, false, false] ?_; refine puT (i := 3) (N := some 17) HT_ #[false, true, true, true, false, false, false, false, false, false, false, false] ?_; refine puT (i := 5) (N := some 19) HT_ #[false, true, true, true, false, true, false, false, false, false, false, false] ?_; refine tkT (i := 0) (N := some 14) HT_ HW_ hHeld #[true, true, true, true, false, true, false, false, false, false, false, false] ?_; refine onT (i := 4) (N := some 18) HT_ #[true, true, true, true, true, true, false, false, false, false, false, false] (fun K hK => ?_); refine go_ Tryz.func41 #[.slice A1 l1.length c1, .int .i64 x7_1] ?_; with_reducible refine (Q40.calls k1 _ _ l1 x7_1 t489 _ ?side1 ?side2 A8.out).mono ?_
    (case side1 => exact cq (Kd.C_below HR1.out HB.out)); (case side2 => exact HC1.out); rintro e w16 ⟨v490, rfl, ho0, hb⟩; refine ⟨_, rfl, ?_⟩; have HO491 := A_ (Kd.R_lower ho0 (below_size (hq HB))); replace BK487 := A_ (blk_below (bq BK487) hb); replace HB := A_ (below_step (hq HB) hb); clear hb ho0; obtain ⟨Ao17, co17, eo17⟩ := Kd.R_slice HO491.out; (first | subst eo17 | (injection eo17 with f1_ f2_ f3_; have f4_ := f1_.symm; have f5_ := f3_.symm; clear f1_ f2_ f3_; subst f4_; subst f5_)); refine hK.out _ _ ⟨bc BK487 0, bc BK487 1⟩ (fun hHeld => ?_); clear hK K; refine nq_ (some 18) ?_; refine onT (i := 6) (N := some 20) HT_ #[true, true, true, true, true, true, true, false, false, false, false, false] (fun K hK => ?_); refine go_ Tryz.func32 #[.agg #[.int .i64 a0_0, .bool a0_1], .slice A1 l1.length c1, .slice Ao17 t489.length co17, .bool a2] ?_; with_reducible refine (Q2.calls k1 a0_0 a0_1 _ _ l1 _ _ t489 a2 t492 t493 _ ?side1 ?side2 ?side3 ?side4 A9.out).mono ?_
    (case side1 => exact cq (Kd.C_below HR1.out HB.out)); (case side2 => exact HC1.out); (case side3 => exact cq (Kd.R_reads' HO491.out).2.2); (case side4 => exact (Kd.R_reads' HO491.out).2.1); rintro e w18 ⟨v494, rfl, ho0, hb⟩; refine ⟨_, rfl, ?_⟩; have HO495 := A_ (Kd.V_lower (Kd.V_mono (ok' := fun k_ => some k_ ≠ (.slice Ao17 t489.length co17 : Value).ownBlock ∧ k_ ≠ gb487) ho0 (fun k_ hk_ => ⟨(Kd.fresh' (Kd.R_lt (rq HO491)) k_ hk_), (Kd.freshB (g := gb487) (o := .cells #[.int .i64 a0_0, .bool a0_1] 25 (0, 0)) (bq BK487) k_ hk_)⟩)) (below_size (hq HB))); replace HO491 := A_ (Kd.R_below (rq HO491) hb); replace BK487 := A_ (blk_below (bq BK487) hb); replace HB := A_ (below_step (hq HB) hb); clear hb ho0; refine hK.out _ _ ⟨bc BK487 0, bc BK487 1⟩ (fun hHeld => ?_); clear hK K; refine nq_ (some 20) ?_; refine puT (i := 7) (N := some 13) HT_ #[true, true, true, true, true, true, true, true, false, false, false, false] ?_; refine puT (i := 8) (N := some 21) HT_ #[true, true, true, true, true, true, true, true, true, false, false, false] ?_; refine puT (i := 9) (N := some 22) HT_ #[true, true, true, true, true, true, true, true, true, true, false, false] ?_; refine puT (i := 10) (N := some 8) HT_ #[true, true, true, true, true, true, true, true, true, true, true, false] ?_; refine puT (i := 11) (N := some 9) HT_ #[true, true, true, true, true, true, true, true, true, true, true, true] ?_; refine done_ (done_of HT_.out (by kernel_rfl)) ?_; try go_wp2
    go_roundg k1
    case measure => have := HK1.out; omega
    case rel => exact ⟨(wrap64 (x7_1 + 1)), rf, H', ⟨by have := HK1.out; omega⟩, ⟨bq BK487⟩, ⟨hq HB⟩⟩

/-! ### spec_ReachTime: function 7 -/
def Q59.f (k : Nat) (a0_0 : Int) (a0_1 : Bool) (l1 : List Int) : Option (Int × Bool) := (Q9.f k a0_0 a0_1 l1).bind fun t497 => (if t497 = true then ((Q15.f k a0_0 a0_1 l1 false).bind fun t498 => (some (t498, true))) else (some (0, false)))
set_option maxHeartbeats 8000000 in
set_option maxRecDepth 100000 in
theorem Q59.calls (k : Nat) (a0_0 : Int) (a0_1 : Bool) (A1 : Option Addr) (c1 : Nat) (l1 : List Int) (r1 : Int) (r2 : Bool) (w : World) (hr1 : Kd.C (Kd.int .i64) w A1 l1.length l1) (hc1 : l1.length ≤ c1) (h : Q59.f k a0_0 a0_1 l1 = some (r1, r2)) :
    Calls Tryz.prog 7 #[.agg #[.int .i64 a0_0, .bool a0_1], .slice A1 l1.length c1] w fun e w' => e = .returned (.tuple #[.int .i64 r1, .bool r2]) ∧ Below w.heap.size w w' := by
 have hu25 := Tryz.underlying25; have HR1 := A_ hr1; have HC1 := A_ hc1; clear hr1 hc1; have HB := A_ (Below.refl w.heap.size w); have H : ((Q9.f k a0_0 a0_1 l1).bind fun t497 => (if t497 = true then ((Q15.f k a0_0 a0_1 l1 false).bind fun t498 => (some (t498, true))) else (some (0, false)))) = some (r1, r2) := h; clear h; replace H := bm H; obtain ⟨t497, A3, H⟩ := H; by_cases c4 : t497 = true
 ·
  subst c4
  have H1 : ((Q15.f k a0_0 a0_1 l1 false).bind fun t498 => (some (t498, true))) = some (r1, r2) := by rw [if_pos rfl] at H; exact H
  clear H; have H := H1; clear H1; replace H := bm H; obtain ⟨t498, A5, H⟩ := H; simp only [Option.some.injEq, Prod.mk.injEq] at H
  obtain ⟨rfl, rfl⟩ := H; go_enter Tryz.func7, Tryz.ntmps7
  go_wp2_with (first | ((with_reducible refine gate_dst (N := 2) rfl ?_); refine bx (N := 2) #[.int .i64 a0_0, .bool a0_1] 25 ?_; intro gb496 hg w6 hbox hb; have BK496 := A_ (hbox); have GW496 := A_ (bs hg (hq HB) : w.heap.size ≤ gb496); have GE496 := A_ (bs hg (hq HB) : w.heap.size ≤ gb496); replace HB := A_ (below_step (hq HB) hb); clear hb hbox hg; have hcz7_0 : w6.cell? ⟨gb496, 0, none⟩ = some (.int .i64 a0_0) := bc BK496 0; have hcz7_1 : w6.cell? ⟨gb496, 1, none⟩ = some (.bool a0_1) := bc BK496 1; have hfz7_0 := blk_frozen BK496.out 0; have hfz7_1 := blk_frozen BK496.out 1) | ((with_reducible refine gate_callee (f := 20) rfl ?_); refine gL (some 8) Tryz.func20 #[.agg #[.int .i64 a0_0, .bool a0_1], .slice A1 l1.length c1] ?_; (with_reducible refine (Q9.calls k a0_0 a0_1 _ _ l1 true _ ?side1 ?side2 A3.out).mono ?_); (case side1 => exact cq (Kd.C_below HR1.out HB.out)); (case side2 => exact HC1.out); rintro e w8 ⟨rfl, hb⟩; refine ⟨_, rfl, ?_⟩; replace BK496 := A_ (blk_below (bq BK496) hb); replace HB := A_ (below_step (hq HB) hb); clear hb; have hcz9_0 : w8.cell? ⟨gb496, 0, none⟩ = some (.int .i64 a0_0) := bc BK496 0; have hcz9_1 : w8.cell? ⟨gb496, 1, none⟩ = some (.bool a0_1) := bc BK496 1; have hfz9_0 := blk_frozen BK496.out 0; have hfz9_1 := blk_frozen BK496.out 1) | ((with_reducible refine gate_callee (f := 21) rfl ?_); refine gL (some 12) Tryz.func21 #[.agg #[.int .i64 a0_0, .bool a0_1], .slice A1 l1.length c1, .bool false] ?_; (with_reducible refine (Q15.calls k a0_0 a0_1 _ _ l1 false t498 _ ?side1 ?side2 A5.out).mono ?_); (case side1 => exact cq (Kd.C_below HR1.out HB.out)); (case side2 => exact HC1.out); rintro e w10 ⟨rfl, hb⟩; refine ⟨_, rfl, ?_⟩; replace BK496 := A_ (blk_below (bq BK496) hb); replace HB := A_ (below_step (hq HB) hb); clear hb))
  go_ret2
  exact ⟨rt, hq HB⟩
 ·
  replace c4 := Bool.eq_false_iff.mpr c4; subst c4
  have H1 : (some (0, false)) = some (r1, r2) := by rw [if_neg (show ¬ (false = true) by decide)] at H; exact H
  clear H; have H := H1; clear H1; simp only [Option.some.injEq, Prod.mk.injEq] at H
  obtain ⟨rfl, rfl⟩ := H; go_enter Tryz.func7, Tryz.ntmps7
  go_wp2_with (first | ((with_reducible refine gate_dst (N := 2) rfl ?_); refine bx (N := 2) #[.int .i64 a0_0, .bool a0_1] 25 ?_; intro gb496 hg w11 hbox hb; have BK496 := A_ (hbox); have GW496 := A_ (bs hg (hq HB) : w.heap.size ≤ gb496); have GE496 := A_ (bs hg (hq HB) : w.heap.size ≤ gb496); replace HB := A_ (below_step (hq HB) hb); clear hb hbox hg; have hcz12_0 : w11.cell? ⟨gb496, 0, none⟩ = some (.int .i64 a0_0) := bc BK496 0; have hcz12_1 : w11.cell? ⟨gb496, 1, none⟩ = some (.bool a0_1) := bc BK496 1; have hfz12_0 := blk_frozen BK496.out 0; have hfz12_1 := blk_frozen BK496.out 1) | ((with_reducible refine gate_callee (f := 20) rfl ?_); refine gL (some 8) Tryz.func20 #[.agg #[.int .i64 a0_0, .bool a0_1], .slice A1 l1.length c1] ?_; (with_reducible refine (Q9.calls k a0_0 a0_1 _ _ l1 false _ ?side1 ?side2 A3.out).mono ?_); (case side1 => exact cq (Kd.C_below HR1.out HB.out)); (case side2 => exact HC1.out); rintro e w13 ⟨rfl, hb⟩; refine ⟨_, rfl, ?_⟩; replace BK496 := A_ (blk_below (bq BK496) hb); replace HB := A_ (below_step (hq HB) hb); clear hb))
  go_ret2
  exact ⟨rt, hq HB⟩

/-! ### impl_ReturnTime: function 8 -/
def Q75.f (k : Nat) (a0_0 : Int) (a0_1 : Bool) (l1 : List Int) : Option (Int × Bool) := (Q6.f k a0_0 a0_1 l1 true).bind fun bt500 => (some (bt500.1, bt500.2))
set_option maxHeartbeats 8000000 in
set_option maxRecDepth 100000 in
theorem Q75.calls (k : Nat) (a0_0 : Int) (a0_1 : Bool) (A1 : Option Addr) (c1 : Nat) (l1 : List Int) (r1 : Int) (r2 : Bool) (w : World) (hr1 : Kd.C (Kd.int .i64) w A1 l1.length l1) (hc1 : l1.length ≤ c1) (h : Q75.f k a0_0 a0_1 l1 = some (r1, r2)) :
    Calls Tryz.prog 8 #[.agg #[.int .i64 a0_0, .bool a0_1], .slice A1 l1.length c1] w fun e w' => e = .returned (.tuple #[.int .i64 r1, .bool r2]) ∧ Below w.heap.size w w' := by
 have hu25 := Tryz.underlying25; have HR1 := A_ hr1; have HC1 := A_ hc1; clear hr1 hc1; have HB := A_ (Below.refl w.heap.size w); have H : ((Q6.f k a0_0 a0_1 l1 true).bind fun bt500 => (some (bt500.1, bt500.2))) = some (r1, r2) := h; clear h; replace H := bm H; obtain ⟨⟨t500, t501⟩, A3, H⟩ := H; (try dsimp only at H); simp only [Option.some.injEq, Prod.mk.injEq] at H
 obtain ⟨rfl, rfl⟩ := H; go_enter Tryz.func8, Tryz.ntmps8
 go_wp2_with (first | ((with_reducible refine gate_dst (N := 2) rfl ?_); refine bx (N := 2) #[.int .i64 a0_0, .bool a0_1] 25 ?_; intro gb499 hg w4 hbox hb; have BK499 := A_ (hbox); have GW499 := A_ (bs hg (hq HB) : w.heap.size ≤ gb499); have GE499 := A_ (bs hg (hq HB) : w.heap.size ≤ gb499); replace HB := A_ (below_step (hq HB) hb); clear hb hbox hg; have hcz5_0 : w4.cell? ⟨gb499, 0, none⟩ = some (.int .i64 a0_0) := bc BK499 0; have hcz5_1 : w4.cell? ⟨gb499, 1, none⟩ = some (.bool a0_1) := bc BK499 1; have hfz5_0 := blk_frozen BK499.out 0; have hfz5_1 := blk_frozen BK499.out 1) | ((with_reducible refine gate_callee (f := 19) rfl ?_); refine gL (some 8) Tryz.func19 #[.agg #[.int .i64 a0_0, .bool a0_1], .slice A1 l1.length c1, .bool true] ?_; (with_reducible refine (Q6.calls k a0_0 a0_1 _ _ l1 true t500 t501 _ ?side1 ?side2 A3.out).mono ?_); (case side1 => exact cq (Kd.C_below HR1.out HB.out)); (case side2 => exact HC1.out); rintro e w6 ⟨rfl, hb⟩; refine ⟨_, rfl, ?_⟩; replace BK499 := A_ (blk_below (bq BK499) hb); replace HB := A_ (below_step (hq HB) hb); clear hb))
 go_ret2
 exact ⟨rt, hq HB⟩

/-! ### spec_ReturnTime: function 9 -/
def Q74.f (k : Nat) (a0_0 : Int) (a0_1 : Bool) (l1 : List Int) : Option (Int × Bool) := (Q9.f k a0_0 a0_1 l1).bind fun t503 => (if t503 = true then ((Q15.f k a0_0 a0_1 l1 true).bind fun t504 => (some (t504, true))) else (some (0, false)))
set_option maxHeartbeats 8000000 in
set_option maxRecDepth 100000 in
theorem Q74.calls (k : Nat) (a0_0 : Int) (a0_1 : Bool) (A1 : Option Addr) (c1 : Nat) (l1 : List Int) (r1 : Int) (r2 : Bool) (w : World) (hr1 : Kd.C (Kd.int .i64) w A1 l1.length l1) (hc1 : l1.length ≤ c1) (h : Q74.f k a0_0 a0_1 l1 = some (r1, r2)) :
    Calls Tryz.prog 9 #[.agg #[.int .i64 a0_0, .bool a0_1], .slice A1 l1.length c1] w fun e w' => e = .returned (.tuple #[.int .i64 r1, .bool r2]) ∧ Below w.heap.size w w' := by
 have hu25 := Tryz.underlying25; have HR1 := A_ hr1; have HC1 := A_ hc1; clear hr1 hc1; have HB := A_ (Below.refl w.heap.size w); have H : ((Q9.f k a0_0 a0_1 l1).bind fun t503 => (if t503 = true then ((Q15.f k a0_0 a0_1 l1 true).bind fun t504 => (some (t504, true))) else (some (0, false)))) = some (r1, r2) := h; clear h; replace H := bm H; obtain ⟨t503, A3, H⟩ := H; by_cases c4 : t503 = true
 ·
  subst c4
  have H1 : ((Q15.f k a0_0 a0_1 l1 true).bind fun t504 => (some (t504, true))) = some (r1, r2) := by rw [if_pos rfl] at H; exact H
  clear H; have H := H1; clear H1; replace H := bm H; obtain ⟨t504, A5, H⟩ := H; simp only [Option.some.injEq, Prod.mk.injEq] at H
  obtain ⟨rfl, rfl⟩ := H; go_enter Tryz.func9, Tryz.ntmps9
  go_wp2_with (first | ((with_reducible refine gate_dst (N := 2) rfl ?_); refine bx (N := 2) #[.int .i64 a0_0, .bool a0_1] 25 ?_; intro gb502 hg w6 hbox hb; have BK502 := A_ (hbox); have GW502 := A_ (bs hg (hq HB) : w.heap.size ≤ gb502); have GE502 := A_ (bs hg (hq HB) : w.heap.size ≤ gb502); replace HB := A_ (below_step (hq HB) hb); clear hb hbox hg; have hcz7_0 : w6.cell? ⟨gb502, 0, none⟩ = some (.int .i64 a0_0) := bc BK502 0; have hcz7_1 : w6.cell? ⟨gb502, 1, none⟩ = some (.bool a0_1) := bc BK502 1; have hfz7_0 := blk_frozen BK502.out 0; have hfz7_1 := blk_frozen BK502.out 1) | ((with_reducible refine gate_callee (f := 20) rfl ?_); refine gL (some 8) Tryz.func20 #[.agg #[.int .i64 a0_0, .bool a0_1], .slice A1 l1.length c1] ?_; (with_reducible refine (Q9.calls k a0_0 a0_1 _ _ l1 true _ ?side1 ?side2 A3.out).mono ?_); (case side1 => exact cq (Kd.C_below HR1.out HB.out)); (case side2 => exact HC1.out); rintro e w8 ⟨rfl, hb⟩; refine ⟨_, rfl, ?_⟩; replace BK502 := A_ (blk_below (bq BK502) hb); replace HB := A_ (below_step (hq HB) hb); clear hb; have hcz9_0 : w8.cell? ⟨gb502, 0, none⟩ = some (.int .i64 a0_0) := bc BK502 0; have hcz9_1 : w8.cell? ⟨gb502, 1, none⟩ = some (.bool a0_1) := bc BK502 1; have hfz9_0 := blk_frozen BK502.out 0; have hfz9_1 := blk_frozen BK502.out 1) | ((with_reducible refine gate_callee (f := 21) rfl ?_); refine gL (some 12) Tryz.func21 #[.agg #[.int .i64 a0_0, .bool a0_1], .slice A1 l1.length c1, .bool true] ?_; (with_reducible refine (Q15.calls k a0_0 a0_1 _ _ l1 true t504 _ ?side1 ?side2 A5.out).mono ?_); (case side1 => exact cq (Kd.C_below HR1.out HB.out)); (case side2 => exact HC1.out); rintro e w10 ⟨rfl, hb⟩; refine ⟨_, rfl, ?_⟩; replace BK502 := A_ (blk_below (bq BK502) hb); replace HB := A_ (below_step (hq HB) hb); clear hb))
  go_ret2
  exact ⟨rt, hq HB⟩
 ·
  replace c4 := Bool.eq_false_iff.mpr c4; subst c4
  have H1 : (some (0, false)) = some (r1, r2) := by rw [if_neg (show ¬ (false = true) by decide)] at H; exact H
  clear H; have H := H1; clear H1; simp only [Option.some.injEq, Prod.mk.injEq] at H
  obtain ⟨rfl, rfl⟩ := H; go_enter Tryz.func9, Tryz.ntmps9
  go_wp2_with (first | ((with_reducible refine gate_dst (N := 2) rfl ?_); refine bx (N := 2) #[.int .i64 a0_0, .bool a0_1] 25 ?_; intro gb502 hg w11 hbox hb; have BK502 := A_ (hbox); have GW502 := A_ (bs hg (hq HB) : w.heap.size ≤ gb502); have GE502 := A_ (bs hg (hq HB) : w.heap.size ≤ gb502); replace HB := A_ (below_step (hq HB) hb); clear hb hbox hg; have hcz12_0 : w11.cell? ⟨gb502, 0, none⟩ = some (.int .i64 a0_0) := bc BK502 0; have hcz12_1 : w11.cell? ⟨gb502, 1, none⟩ = some (.bool a0_1) := bc BK502 1; have hfz12_0 := blk_frozen BK502.out 0; have hfz12_1 := blk_frozen BK502.out 1) | ((with_reducible refine gate_callee (f := 20) rfl ?_); refine gL (some 8) Tryz.func20 #[.agg #[.int .i64 a0_0, .bool a0_1], .slice A1 l1.length c1] ?_; (with_reducible refine (Q9.calls k a0_0 a0_1 _ _ l1 false _ ?side1 ?side2 A3.out).mono ?_); (case side1 => exact cq (Kd.C_below HR1.out HB.out)); (case side2 => exact HC1.out); rintro e w13 ⟨rfl, hb⟩; refine ⟨_, rfl, ?_⟩; replace BK502 := A_ (blk_below (bq BK502) hb); replace HB := A_ (below_step (hq HB) hb); clear hb))
  go_ret2
  exact ⟨rt, hq HB⟩

/-! ### impl_Road_gap: function 24 -/
def Q80.f (a0_0 : Int) (a0_1 : Bool) (a1 : Int) (a2 : Int) : Option (Int) := if a0_1 = true then (some (mn (mx (wrap64 (a1 - a2)) (wrap64 (a2 - a1))) (wrap64 (a0_0 - (mx (wrap64 (a1 - a2)) (wrap64 (a2 - a1))))))) else (some (mx (wrap64 (a1 - a2)) (wrap64 (a2 - a1))))
set_option maxHeartbeats 8000000 in
set_option maxRecDepth 100000 in
theorem Q80.calls (a0_0 : Int) (a0_1 : Bool) (a1 : Int) (a2 : Int) (r : Int) (w : World) (h : Q80.f a0_0 a0_1 a1 a2 = some r) :
    Calls Tryz.prog 24 #[.agg #[.int .i64 a0_0, .bool a0_1], .int .i64 a1, .int .i64 a2] w fun e w' => e = .returned (.int .i64 r) ∧ Below w.heap.size w w' := by
 have hu25 := Tryz.underlying25; have HB := A_ (Below.refl w.heap.size w); have H : (if a0_1 = true then (some (mn (mx (wrap64 (a1 - a2)) (wrap64 (a2 - a1))) (wrap64 (a0_0 - (mx (wrap64 (a1 - a2)) (wrap64 (a2 - a1))))))) else (some (mx (wrap64 (a1 - a2)) (wrap64 (a2 - a1))))) = some r := h; clear h
 obtain ⟨ji4, hji4⟩ : ∃ j_ : Int, (mx (wrap64 (a1 - a2)) (wrap64 (a2 - a1))) = j_ := ⟨_, rfl⟩
 replace H : (if a0_1 = true then (some (mn (ji4) (wrap64 (a0_0 - (ji4))))) else (some ji4)) = some r := by first | (rw [hji4] at H; exact H) | (simp only [hji4] at H ⊢; exact H)
 have hji4_ : (if (wrap64 (a1 - a2)) < (wrap64 (a2 - a1)) then (wrap64 (a2 - a1)) else (wrap64 (a1 - a2))) = ji4 := hji4; by_cases c5 : a0_1 = true
 ·
  subst c5
  have H1 : (some (mn (ji4) (wrap64 (a0_0 - (ji4))))) = some r := by rw [if_pos rfl] at H; exact H
  clear H; have H := H1; clear H1
  obtain ⟨ji6, hji6⟩ : ∃ j_ : Int, (mn (ji4) (wrap64 (a0_0 - (ji4)))) = j_ := ⟨_, rfl⟩
  replace H : (some ji6) = some r := by first | (rw [hji6] at H; exact H) | (simp only [hji6] at H ⊢; exact H)
  have hji6_ : (if (wrap64 (a0_0 - (ji4))) < (ji4) then (wrap64 (a0_0 - (ji4))) else (ji4)) = ji6 := hji6; obtain rfl := Option.some.inj H; go_enter Tryz.func24, Tryz.ntmps24
  go_wp2_with (first | ((with_reducible refine gate_dst (N := 3) rfl ?_); refine bx (N := 3) #[.int .i64 a0_0, .bool true] 25 ?_; intro gb505 hg w7 hbox hb; have BK505 := A_ (hbox); have GW505 := A_ (bs hg (hq HB) : w.heap.size ≤ gb505); have GE505 := A_ (bs hg (hq HB) : w.heap.size ≤ gb505); replace HB := A_ (below_step (hq HB) hb); clear hb hbox hg; have hcz8_0 : w7.cell? ⟨gb505, 0, none⟩ = some (.int .i64 a0_0) := bc BK505 0; have hcz8_1 : w7.cell? ⟨gb505, 1, none⟩ = some (.bool true) := bc BK505 1; have hfz8_0 := blk_frozen BK505.out 0; have hfz8_1 := blk_frozen BK505.out 1))
  go_ret
  exact ⟨by first | rfl | (simp [errW_none, errW_some] <;> rfl) | (simp only [← hji4, ← hji6]; first | rfl | (simp [errW_none, errW_some] <;> rfl)) | (simp [*, errW_none, errW_some] <;> rfl), hq HB⟩
 ·
  replace c5 := Bool.eq_false_iff.mpr c5; subst c5
  have H1 : (some ji4) = some r := by rw [if_neg (show ¬ (false = true) by decide)] at H; exact H
  clear H; have H := H1; clear H1; obtain rfl := Option.some.inj H; go_enter Tryz.func24, Tryz.ntmps24
  go_wp2_with (first | ((with_reducible refine gate_dst (N := 3) rfl ?_); refine bx (N := 3) #[.int .i64 a0_0, .bool false] 25 ?_; intro gb505 hg w9 hbox hb; have BK505 := A_ (hbox); have GW505 := A_ (bs hg (hq HB) : w.heap.size ≤ gb505); have GE505 := A_ (bs hg (hq HB) : w.heap.size ≤ gb505); replace HB := A_ (below_step (hq HB) hb); clear hb hbox hg; have hcz10_0 : w9.cell? ⟨gb505, 0, none⟩ = some (.int .i64 a0_0) := bc BK505 0; have hcz10_1 : w9.cell? ⟨gb505, 1, none⟩ = some (.bool false) := bc BK505 1; have hfz10_0 := blk_frozen BK505.out 0; have hfz10_1 := blk_frozen BK505.out 1))
  go_ret
  exact ⟨by first | rfl | (simp [errW_none, errW_some] <;> rfl) | (simp only [← hji4]; first | rfl | (simp [errW_none, errW_some] <;> rfl)) | (simp [*, errW_none, errW_some] <;> rfl), hq HB⟩

end Go.Proofs.YtjhppcpjobofbaaGreat.PFnExplorers
