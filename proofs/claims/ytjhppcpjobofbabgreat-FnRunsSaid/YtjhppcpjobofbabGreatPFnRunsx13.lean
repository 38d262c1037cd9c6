-- Told shorter still by shrink2.py.
-- Printed, and told shorter by this session's program shrink.py.
-- Printed by this session's program myprint.py.
import Derived.Test.YtjhppcpjobofbabGreatPFnRunsx0
import Derived.Test.YtjhppcpjobofbabGreatPFnRunsx11
import Derived.Test.YtjhppcpjobofbabGreatPFnRunsx12
namespace Go.Proofs.YtjhppcpjobofbabGreat.PFnRuns
open Go.RowKit Go.Proofs.YtjhppcpjobofbabGreat.Own Go.Proofs.YtjhppcpjobofbabGreatW.PrintWords Go.Proofs.YtjhppcpjobofbabGreatW.PrintLast Go.Proofs.YtjhppcpjobofbabGreatW.PrintMore
attribute [local go_sem] max2_int min2_int max_two min_two max_three min_three max_four min_four   -- for this text's walks alone
set_option linter.unusedVariables false
set_option linter.unusedSimpArgs false

/-! ### spec_l6Time: function 49 -/
def Q16.f (k : Nat) (a0_0 : Int) (a0_1 : Bool) (a1 : Int) (a2 : Int) (a3 : Int) (a4 : Bool) : Option (Int) := if a4 = true then ((Q27.f k a0_0 a0_1 a2 a3).bind fun t502 => ((Q10.f k a0_0 a0_1 a1 t502).bind fun t505 => (some t505))) else ((Q27.f k a0_0 a0_1 a2 a3).bind fun t506 => ((Q5.f k a0_0 a0_1 a1 t506).bind fun bt509 => (some bt509.1)))
def Q16.T2 : Bool × List (List Nat × List Nat) := (true, [([], []), ([], []), ([], []), ([], []), ([], []), ([2, 3, 4], [2, 3, 4]), ([0, 1, 5, 5], [0, 1, 5]), ([6, 6, 0, 1, 2, 3, 4, 5, 6], [6])])
def Q16.B2 : List Nat := [0, 0, 0, 0, 0, 28, 63, 127]
theorem Q16.tab2 : rtab .any (opsOf Tryz.f49 2) = Q16.T2 := by kernel_rfl
theorem Q16.bits2 : waitsOk Q16.T2.2 Q16.B2 = true := by kernel_rfl
def Q16.T3 : Bool × List (List Nat × List Nat) := (true, [([], []), ([], []), ([], []), ([], []), ([], []), ([2, 3, 4], [2, 3, 4]), ([0, 1, 5, 5], [0, 1, 5]), ([6], [6]), ([7], [7]), ([7], [7]), ([8, 6, 0, 1, 2, 3, 4, 5, 6, 7, 8], [8]), ([9, 10, 0, 1, 2, 3, 4, 5, 6, 7, 8, 9, 10], [9])])
def Q16.B3 : List Nat := [0, 0, 0, 0, 0, 28, 63, 127, 255, 255, 511, 2047]
theorem Q16.tab3 : rtab .any (opsOf Tryz.f49 3) = Q16.T3 := by kernel_rfl
theorem Q16.bits3 : waitsOk Q16.T3.2 Q16.B3 = true := by kernel_rfl
set_option maxHeartbeats 8000000 in
set_option maxRecDepth 100000 in
theorem Q16.calls (k : Nat) (a0_0 : Int) (a0_1 : Bool) (a1 : Int) (a2 : Int) (a3 : Int) (a4 : Bool) (r : Int) (w : World) (h : Q16.f k a0_0 a0_1 a1 a2 a3 a4 = some r) :
    Calls Tryz.prog 49 #[.agg #[.int .i64 a0_0, .bool a0_1], .int .i64 a1, .int .i64 a2, .int .i64 a3, .bool a4] w fun e w' => e = .returned (.int .i64 r) ∧ Below w.heap.size w w' := by
 have hu25 := Tryz.underlying25; have HB := A_ (Below.refl w.heap.size w); have H : (if a4 = true then ((Q27.f k a0_0 a0_1 a2 a3).bind fun t502 => ((Q10.f k a0_0 a0_1 a1 t502).bind fun t505 => (some t505))) else ((Q27.f k a0_0 a0_1 a2 a3).bind fun t506 => ((Q5.f k a0_0 a0_1 a1 t506).bind fun bt509 => (some bt509.1)))) = some r := h; clear h; by_cases c6 : a4 = true
 ·
  subst c6
  rw [if_pos rfl] at H; replace H := bm H; obtain ⟨t502, A7, H⟩ := H; replace H := bm H; obtain ⟨t505, A8, H⟩ := H; obtain rfl := Option.some.inj H; go_enter Tryz.func49, Tryz.ntmps49
  try go_wp2_with (first | ((with_reducible refine gate_dst (N := 5) rfl ?_); refine bx (N := 5) #[.int .i64 a0_0, .bool a0_1] 25 ?_; intro gb501 hg w9 hbox hb; have BK501 := A_ (hbox); have GW501 := A_ (bs hg (hq HB) : w.heap.size ≤ gb501); have GE501 := A_ (bs hg (hq HB) : w.heap.size ≤ gb501); replace HB := A_ (below_step (hq HB) hb); clear hb hbox hg))
  replace BK501 := A_ (blk_drew BK501.out); replace HB := A_ (below_drew1 HB.out); refine start_ (n := 8) (S := fun w' => w'.cell? ⟨gb501, 0, none⟩ = some (.int .i64 a0_0) ∧ w'.cell? ⟨gb501, 1, none⟩ = some (.bool a0_1)) (ds := []) (bA 8 0) (by kernel_rfl) rfl rfl ⟨bc BK501 0, bc BK501 1⟩ (fun hHeld => ?_); refine with_tabW Q16.tab2 Q16.bits2 (fun HT_ HW_ => ?_); generalize w9.drew = w10 at BK501 HB hHeld ⊢; refine puT (i := 1) (N := some 15) HT_ (bA 8 2) ?_; refine puT (i := 3) (N := some 17) HT_ (bA 8 10) ?_; refine puT (i := 4) (N := some 18) HT_ (bA 8 26) ?_; refine tkT (i := 0) (N := some 14) HT_ HW_ hHeld (bA 8 27) ?_; refine tkT (i := 2) (N := some 16) HT_ HW_ hHeld (bA 8 31) ?_; refine onT (i := 5) (N := some 19) HT_ (bA 8 63) (fun K hK => ?_); refine go_ Tryz.func46 #[.agg #[.int .i64 a0_0, .bool a0_1], .int .i64 a2, .int .i64 a3] ?_; with_reducible refine (Q27.calls k a0_0 a0_1 a2 a3 t502 _ A7.out).mono ?_
  rintro e w11 ⟨v503, rfl, ho0, hb⟩; refine ⟨_, rfl, ?_⟩; have HO504 := A_ (Kd.R_lower ho0 (below_size (hq HB))); replace BK501 := A_ (blk_below (bq BK501) hb); replace HB := A_ (below_step (hq HB) hb); clear hb ho0; obtain ⟨Ao12, co12, eo12⟩ := Kd.R_slice HO504.out; (first | subst eo12 | (injection eo12 with f1_ f2_ f3_; have f4_ := f1_.symm; have f5_ := f3_.symm; clear f1_ f2_ f3_; subst f4_; subst f5_)); refine hK.out _ _ ⟨bc BK501 0, bc BK501 1⟩ (fun hHeld => ?_); clear hK K; refine nq_ (some 19) ?_; refine onT (i := 6) (N := some 20) HT_ (bA 8 127) (fun K hK => ?_); refine go_ Tryz.func70 #[.agg #[.int .i64 a0_0, .bool a0_1], .int .i64 a1, .slice Ao12 t502.length co12] ?_; with_reducible refine (Q10.calls k a0_0 a0_1 a1 _ _ t502 t505 _ ?side1 ?side2 A8.out).mono ?_
  (case side1 => exact cq (Kd.R_reads' HO504.out).2.2); (case side2 => exact (Kd.R_reads' HO504.out).2.1); rintro e w13 ⟨rfl, hb⟩; refine ⟨_, rfl, ?_⟩; replace HO504 := A_ (Kd.R_below (rq HO504) hb); replace BK501 := A_ (blk_below (bq BK501) hb); replace HB := A_ (below_step (hq HB) hb); clear hb; refine hK.out _ _ ⟨bc BK501 0, bc BK501 1⟩ (fun hHeld => ?_); clear hK K; refine nq_ (some 20) ?_; refine puT (i := 7) (N := some 10) HT_ (bA 8 255) ?_; refine done_ (done_of HT_.out (by kernel_rfl)) ?_; try go_wp2
  go_ret
  exact ⟨rt, hq HB⟩
 ·
  replace c6 := Bool.eq_false_iff.mpr c6; subst c6
  rw [if_neg nf] at H; replace H := bm H; obtain ⟨t506, A14, H⟩ := H; replace H := bm H; obtain ⟨⟨t509, t510⟩, A15, H⟩ := H; (try dsimp only at H); obtain rfl := Option.some.inj H; go_enter Tryz.func49, Tryz.ntmps49
  try go_wp2_with (first | ((with_reducible refine gate_dst (N := 5) rfl ?_); refine bx (N := 5) #[.int .i64 a0_0, .bool a0_1] 25 ?_; intro gb501 hg w16 hbox hb; have BK501 := A_ (hbox); have GW501 := A_ (bs hg (hq HB) : w.heap.size ≤ gb501); have GE501 := A_ (bs hg (hq HB) : w.heap.size ≤ gb501); replace HB := A_ (below_step (hq HB) hb); clear hb hbox hg))
  replace BK501 := A_ (blk_drew BK501.out); replace HB := A_ (below_drew1 HB.out); refine start_ (n := 12) (S := fun w' => w'.cell? ⟨gb501, 0, none⟩ = some (.int .i64 a0_0) ∧ w'.cell? ⟨gb501, 1, none⟩ = some (.bool a0_1)) (ds := []) (bA 12 0) (by kernel_rfl) rfl rfl ⟨bc BK501 0, bc BK501 1⟩ (fun hHeld => ?_); refine with_tabW Q16.tab3 Q16.bits3 (fun HT_ HW_ => ?_); generalize w16.drew = w17 at BK501 HB hHeld ⊢; refine puT (i := 1) (N := some 23) HT_ (bA 12 2) ?_; refine puT (i := 3) (N := some 25) HT_ (bA 12 10) ?_; refine puT (i := 4) (N := some 26) HT_ (bA 12 26) ?_; refine tkT (i := 0) (N := some 22) HT_ HW_ hHeld (bA 12 27) ?_; refine tkT (i := 2) (N := some 24) HT_ HW_ hHeld (bA 12 31) ?_; refine onT (i := 5) (N := some 27) HT_ (bA 12 63) (fun K hK => ?_); refine go_ Tryz.func46 #[.agg #[.int .i64 a0_0, .bool a0_1], .int .i64 a2, .int .i64 a3] ?_; with_reducible refine (Q27.calls k a0_0 a0_1 a2 a3 t506 _ A14.out).mono ?_
  rintro e w18 ⟨v507, rfl, ho0, hb⟩; refine ⟨_, rfl, ?_⟩; have HO508 := A_ (Kd.R_lower ho0 (below_size (hq HB))); replace BK501 := A_ (blk_below (bq BK501) hb); replace HB := A_ (below_step (hq HB) hb); clear hb ho0; obtain ⟨Ao19, co19, eo19⟩ := Kd.R_slice HO508.out; (first | subst eo19 | (injection eo19 with f1_ f2_ f3_; have f4_ := f1_.symm; have f5_ := f3_.symm; clear f1_ f2_ f3_; subst f4_; subst f5_)); refine hK.out _ _ ⟨bc BK501 0, bc BK501 1⟩ (fun hHeld => ?_); clear hK K; refine nq_ (some 27) ?_; refine onT (i := 6) (N := some 28) HT_ (bA 12 127) (fun K hK => ?_); refine go_ Tryz.func71 #[.agg #[.int .i64 a0_0, .bool a0_1], .int .i64 a1, .slice Ao19 t506.length co19] ?_; with_reducible refine (Q5.calls k a0_0 a0_1 a1 _ _ t506 t509 t510 _ ?side1 ?side2 A15.out).mono ?_
  (case side1 => exact cq (Kd.R_reads' HO508.out).2.2); (case side2 => exact (Kd.R_reads' HO508.out).2.1); rintro e w20 ⟨rfl, hb⟩; refine ⟨_, rfl, ?_⟩; replace HO508 := A_ (Kd.R_below (rq HO508) hb); replace BK501 := A_ (blk_below (bq BK501) hb); replace HB := A_ (below_step (hq HB) hb); clear hb; refine hK.out _ _ ⟨bc BK501 0, bc BK501 1⟩ (fun hHeld => ?_); clear hK K; refine nq_ (some 28) ?_; refine puT (i := 7) (N := some 21) HT_ (bA 12 255) ?_; refine puT (i := 8) (N := some 29) HT_ (bA 12 511) ?_; refine puT (i := 9) (N := some 30) HT_ (bA 12 1023) ?_; refine puT (i := 10) (N := some 11) HT_ (bA 12 2047) ?_; refine puT (i := 11) (N := some 12) HT_ (bA 12 4095) ?_; refine done_ (done_of HT_.out (by kernel_rfl)) ?_; try go_wp2
  go_ret
  exact ⟨rt, hq HB⟩

end Go.Proofs.YtjhppcpjobofbabGreat.PFnRuns
