-- Printed, and told shorter by this session's program shrink.py.
-- Printed by this session's program myprint.py.
import Derived.Test.YtmamhnbhahafgaaPFnLeavingx0
import Derived.Test.YtmamhnbhahafgaaPFnLeavingx1
import Derived.Test.YtmamhnbhahafgaaPFnLeavingx2
import Derived.Test.YtmamhnbhahafgaaPFnLeavingx4
import Derived.Test.YtmamhnbhahafgaaPFnLeavingx7
import Derived.Test.YtmamhnbhahafgaaPFnLeavingx10
import Derived.Test.YtmamhnbhahafgaaPFnLeavingx11
import Derived.Test.YtmamhnbhahafgaaPFnLeavingx12
import Derived.Test.YtmamhnbhahafgaaPFnLeavingx13
namespace Go.Proofs.Ytmamhnbhahafgaa.PFnLeaving
open Go.RowKit Go.Proofs.Ytmamhnbhahafgaa.Own Go.Proofs.YtmamhnbhahafgaaW.PrintWords Go.Proofs.YtmamhnbhahafgaaW.PrintLast Go.Proofs.YtmamhnbhahafgaaW.PrintMore
attribute [local go_sem] max2_int min2_int max_two min_two max_three min_three max_four min_four   -- for this text's walks alone
set_option linter.unusedVariables false
set_option linter.unusedSimpArgs false

/-! ### laws_FnLeaving: function 4 -/
mutual
def laws_FnLeaving.j0 : Nat → List Int → List (List Int) → List Int → Bool → Bool → Int → Bool → Option (Bool)
  | 0, _, _, _, _, _, _, _ => none
  | k + 1, x0, x4, x5, x6, x61, x507000, x507001 => if x61 = true then (some false) else ((impl_WorstLeave.f k x507000 x507001 x4).bind fun bt516 => ((spec_WorstLeave.f k x507000 x507001 x4).bind fun bt518 => (if bt516.1 = bt518.1 then (if (bt516.2 != bt518.2) = true then (laws_FnLeaving.j1 k x0 x4 x5 x6 bt516.1 bt516.2 true x507000 x507001) else (if bt516.2 = true then (laws_FnLeaving.j1 k x0 x4 x5 x6 bt516.1 bt516.2 (!x6) x507000 x507001) else (laws_FnLeaving.j1 k x0 x4 x5 x6 bt516.1 bt516.2 false x507000 x507001))) else (laws_FnLeaving.j1 k x0 x4 x5 x6 bt516.1 bt516.2 true x507000 x507001))))
def laws_FnLeaving.j1 : Nat → List Int → List (List Int) → List Int → Bool → Int → Bool → Bool → Int → Bool → Option (Bool)
  | 0, _, _, _, _, _, _, _, _, _ => none
  | k + 1, x0, x4, x5, x6, x9, x10, x88, x507000, x507001 => if x88 = true then (some false) else ((spec_DrawSplitWalks.f x0).bind fun bt520 => ((impl_SplitWalks.f k bt520.1 bt520.2.1 bt520.2.2).bind fun bt524 => ((spec_SplitWalks.f k bt520.1 bt520.2.1 bt520.2.2).bind fun bt528 => (if (bt524.2 != bt528.2) = true then (laws_FnLeaving.j2 k x4 x5 x6 x9 x10 bt524.1 bt524.2 true x507000 x507001 bt520.1 bt520.2.1) else ((laws_rTable.f k bt524.1 bt528.1).bind fun t532 => (laws_FnLeaving.j2 k x4 x5 x6 x9 x10 bt524.1 bt524.2 (!t532) x507000 x507001 bt520.1 bt520.2.1))))))
def laws_FnLeaving.j2 : Nat → List (List Int) → List Int → Bool → Int → Bool → List (List Int) → Bool → Bool → Int → Bool → Int → Bool → Option (Bool)
  | 0, _, _, _, _, _, _, _, _, _, _, _, _ => none
  | k + 1, x4, x5, x6, x9, x10, x15, x16, x114, x507000, x507001, x524000, x524001 => if x114 = true then (some false) else (if x16 = true then ((impl_WorstLeave.f k x524000 x524001 x15).bind fun bt533 => ((spec_WorstLeave.f k x524000 x524001 x15).bind fun bt535 => (if bt533.2 = true then (if bt535.2 = true then (if bt533.1 = bt535.1 then (laws_FnLeaving.j3 k x4 x5 x6 x9 x10 x507000 x507001) else (some false)) else (some false)) else (some false)))) else (laws_FnLeaving.j3 k x4 x5 x6 x9 x10 x507000 x507001))
def laws_FnLeaving.j3 : Nat → List (List Int) → List Int → Bool → Int → Bool → Int → Bool → Option (Bool)
  | 0, _, _, _, _, _, _, _ => none
  | k + 1, x4, x5, x6, x9, x10, x507000, x507001 => if x6 = true then (laws_FnLeaving.l0 k x4 x5 x9 x10 0 false 0 x507000 x507001) else (some true)
def laws_FnLeaving.l0 : Nat → List (List Int) → List Int → Int → Bool → Int → Bool → Int → Int → Bool → Option (Bool)
  | 0, _, _, _, _, _, _, _, _, _ => none
  | k + 1, x4, x5, x9, x10, x23, x24, x25, x507000, x507001 => if x25 < x507000 then (if x24 = true then (laws_FnLeaving.j5 k x4 x5 x9 x10 x23 true x25 x507000 x507001) else (if 0 ≤ x25 then (if x25 < (x5.length : Int) then (laws_FnLeaving.j5 k x4 x5 x9 x10 x23 (decide ((rd x5 x25) < 0)) x25 x507000 x507001) else (none)) else (none))) else (if (x10 == x24) = true then (laws_FnLeaving.j9 k x4 true x507000 x507001) else (if x10 = true then (laws_FnLeaving.j9 k x4 (x9 != x23) x507000 x507001) else (laws_FnLeaving.j9 k x4 false x507000 x507001)))
def laws_FnLeaving.j5 : Nat → List (List Int) → List Int → Int → Bool → Int → Bool → Int → Int → Bool → Option (Bool)
  | 0, _, _, _, _, _, _, _, _, _ => none
  | k + 1, x4, x5, x9, x10, x23, x24, x25, x507000, x507001 => if 0 ≤ x25 then (if x25 < (x5.length : Int) then (if (rd x5 x25) > x23 then (laws_FnLeaving.j6 k x4 x5 x9 x10 (rd x5 x25) x24 x25 x507000 x507001) else (laws_FnLeaving.j6 k x4 x5 x9 x10 x23 x24 x25 x507000 x507001)) else (none)) else (none)
def laws_FnLeaving.j6 : Nat → List (List Int) → List Int → Int → Bool → Int → Bool → Int → Int → Bool → Option (Bool)
  | 0, _, _, _, _, _, _, _, _, _ => none
  | k + 1, x4, x5, x9, x10, x23, x24, x25, x507000, x507001 => laws_FnLeaving.l1 k x4 x5 x9 x10 x23 x24 x25 (-1) 0 x507000 x507001
def laws_FnLeaving.l1 : Nat → List (List Int) → List Int → Int → Bool → Int → Bool → Int → Int → Int → Int → Bool → Option (Bool)
  | 0, _, _, _, _, _, _, _, _, _, _, _ => none
  | k + 1, x4, x5, x9, x10, x23, x24, x25, x26, x27, x507000, x507001 => if x27 < (x4.length : Int) then (if 0 ≤ x27 then ((impl_FirstVisits.f k x507000 x507001 (rd_L2 x4 x27)).bind fun bt543 => (if bt543.2 = true then (laws_FnLeaving.j8 k x4 x5 x9 x10 x23 x24 x25 x26 x27 bt543.1 ((bt543.1.length : Int) != x507000) x507000 x507001) else (laws_FnLeaving.j8 k x4 x5 x9 x10 x23 x24 x25 x26 x27 bt543.1 true x507000 x507001))) else (none)) else (if 0 ≤ x25 then (if x25 < (x5.length : Int) then (if ((decide (x26 < 0)) != (decide ((rd x5 x25) < 0))) = true then (some false) else (if (rd x5 x25) < x26 then (some false) else (laws_FnLeaving.l0 k x4 x5 x9 x10 x23 x24 (wrap64 (x25 + 1)) x507000 x507001))) else (none)) else (none))
def laws_FnLeaving.j8 : Nat → List (List Int) → List Int → Int → Bool → Int → Bool → Int → Int → Int → List Int → Bool → Int → Bool → Option (Bool)
  | 0, _, _, _, _, _, _, _, _, _, _, _, _, _ => none
  | k + 1, x4, x5, x9, x10, x23, x24, x25, x26, x27, x28, x188, x507000, x507001 => if x188 = true then (some false) else (if 0 ≤ x25 then (if x25 < (x28.length : Int) then (if (rd x28 x25) ≥ 0 then (if x26 < 0 then (laws_FnLeaving.l1 k x4 x5 x9 x10 x23 x24 x25 (rd x28 x25) (wrap64 (x27 + 1)) x507000 x507001) else (if (rd x28 x25) < x26 then (laws_FnLeaving.l1 k x4 x5 x9 x10 x23 x24 x25 (rd x28 x25) (wrap64 (x27 + 1)) x507000 x507001) else (laws_FnLeaving.l1 k x4 x5 x9 x10 x23 x24 x25 x26 (wrap64 (x27 + 1)) x507000 x507001))) else (laws_FnLeaving.l1 k x4 x5 x9 x10 x23 x24 x25 x26 (wrap64 (x27 + 1)) x507000 x507001)) else (none)) else (none))
def laws_FnLeaving.j9 : Nat → List (List Int) → Bool → Int → Bool → Option (Bool)
  | 0, _, _, _, _ => none
  | k + 1, x4, x236, x507000, x507001 => if x236 = true then (some false) else (if 0 < (x4.length : Int) then ((impl_CoverTime.f k x507000 x507001 (rd_L2 x4 0)).bind fun bt552 => (if 1 ≤ (x4.length : Int) then ((impl_WorstLeave.f k x507000 x507001 (x4.take 1)).bind fun bt558 => (if (bt552.2 == bt558.2) = true then (if bt552.2 = true then (some (bt552.1 == bt558.1)) else (some true)) else (some false))) else (none))) else (none))
end
def laws_FnLeaving.f (k : Nat) (l0 : List Int) : Option (Bool) := (laws_rBig.f l0).bind fun t500 => (if t500 = true then (some true) else ((spec_DrawLeaveTimes.f k l0).bind fun bt501 => ((impl_LeaveTimes.f k bt501.1 bt501.2.1 bt501.2.2).bind fun bt507 => ((spec_LeaveTimes.f k bt501.1 bt501.2.1 bt501.2.2).bind fun bt511 => (if (bt507.2 != bt511.2) = true then (laws_FnLeaving.j0 k l0 bt501.2.2 bt507.1 bt507.2 true bt501.1 bt501.2.1) else ((laws_rInts.f k bt507.1 bt511.1).bind fun t515 => (laws_FnLeaving.j0 k l0 bt501.2.2 bt507.1 bt507.2 (!t515) bt501.1 bt501.2.1)))))))
def laws_FnLeaving.T35 : Bool × List (List Nat × List Nat) := (true, [([], []), ([], []), ([], []), ([1, 2], [1, 2]), ([3], [3]), ([0, 4], [0, 4]), ([5], [5]), ([6], [6]), ([6], [6]), ([7, 5, 0, 1, 2, 3, 4, 5, 6, 7], [7]), ([8, 9, 0, 1, 2, 3, 4, 5, 6, 7, 8, 9], [8])])
def laws_FnLeaving.B35 : List Nat := [0, 0, 0, 6, 14, 31, 63, 127, 127, 255, 1023]
theorem laws_FnLeaving.tab35 : rtab .any (opsOf Try.f4 35) = laws_FnLeaving.T35 := by kernel_rfl
theorem laws_FnLeaving.bits35 : waitsOk laws_FnLeaving.T35.2 laws_FnLeaving.B35 = true := by kernel_rfl
def laws_FnLeaving.T44 : Bool × List (List Nat × List Nat) := (true, [([], []), ([], []), ([1], [1]), ([2], [2]), ([0, 3], [0, 3]), ([4], [4]), ([5], [5]), ([5], [5]), ([6, 4, 0, 1, 2, 3, 4, 5, 6], [6]), ([7, 8, 0, 1, 2, 3, 4, 5, 6, 7, 8], [7])])
def laws_FnLeaving.B44 : List Nat := [0, 0, 2, 6, 15, 31, 63, 63, 127, 511]
theorem laws_FnLeaving.tab44 : rtab .any (opsOf Try.f4 44) = laws_FnLeaving.T44 := by kernel_rfl
theorem laws_FnLeaving.bits44 : waitsOk laws_FnLeaving.T44.2 laws_FnLeaving.B44 = true := by kernel_rfl
def laws_FnLeaving.T45 : Bool × List (List Nat × List Nat) := (true, [([], []), ([], []), ([1], [1]), ([0, 2], [0, 2]), ([3], [3]), ([4], [4]), ([4], [4]), ([5, 3, 0, 1, 2, 3, 4, 5], [5]), ([6, 7, 0, 1, 2, 3, 4, 5, 6, 7], [6])])
def laws_FnLeaving.B45 : List Nat := [0, 0, 2, 7, 15, 31, 31, 63, 255]
theorem laws_FnLeaving.tab45 : rtab .any (opsOf Try.f4 45) = laws_FnLeaving.T45 := by kernel_rfl
theorem laws_FnLeaving.bits45 : waitsOk laws_FnLeaving.T45.2 laws_FnLeaving.B45 = true := by kernel_rfl
set_option maxHeartbeats 8000000 in
set_option maxRecDepth 100000 in
theorem laws_FnLeaving.calls (k : Nat) (A0 : Option Addr) (c0 : Nat) (l0 : List Int) (r : Bool) (hr_ : r = true) (w : World) (hr0 : Kd.C (Kd.int .u8) w A0 l0.length l0) (hc0 : l0.length ≤ c0) (h : laws_FnLeaving.f k l0 = some r) :
    Calls Try.prog 4 #[.slice A0 l0.length c0] w fun e w' => e = .returned (.bool r) ∧ Below w.heap.size w w' := by
 have hu25 := Try.underlying25
 have HR0 := A_ hr0
 have HC0 := A_ hc0
 clear hr0 hc0
 have HB := A_ (Below.refl w.heap.size w)
 have H : ((laws_rBig.f l0).bind fun t500 => (if t500 = true then (some true) else ((spec_DrawLeaveTimes.f k l0).bind fun bt501 => ((impl_LeaveTimes.f k bt501.1 bt501.2.1 bt501.2.2).bind fun bt507 => ((spec_LeaveTimes.f k bt501.1 bt501.2.1 bt501.2.2).bind fun bt511 => (if (bt507.2 != bt511.2) = true then (laws_FnLeaving.j0 k l0 bt501.2.2 bt507.1 bt507.2 true bt501.1 bt501.2.1) else ((laws_rInts.f k bt507.1 bt511.1).bind fun t515 => (laws_FnLeaving.j0 k l0 bt501.2.2 bt507.1 bt507.2 (!t515) bt501.1 bt501.2.1)))))))) = some r := h
 clear h
 replace H := Option.bind_eq_some_iff.mp H
 obtain ⟨t500, A20, H⟩ := H
 replace H : (if t500 = true then (some true) else ((spec_DrawLeaveTimes.f k l0).bind fun bt501 => ((impl_LeaveTimes.f k bt501.1 bt501.2.1 bt501.2.2).bind fun bt507 => ((spec_LeaveTimes.f k bt501.1 bt501.2.1 bt501.2.2).bind fun bt511 => (if (bt507.2 != bt511.2) = true then (laws_FnLeaving.j0 k l0 bt501.2.2 bt507.1 bt507.2 true bt501.1 bt501.2.1) else ((laws_rInts.f k bt507.1 bt511.1).bind fun t515 => (laws_FnLeaving.j0 k l0 bt501.2.2 bt507.1 bt507.2 (!t515) bt501.1 bt501.2.1))))))) = some r := H
 have A2 := A_ A20
 clear A20
 by_cases c3 : t500 = true
 ·
  subst c3
  have H1 : (some true) = some r := by rw [if_pos rfl] at H; exact H
  clear H
  have H := H1
  clear H1
  obtain rfl := Option.some.inj H
  go_enter Try.func4, Try.ntmps4
  go_wp2_with (first | ((with_reducible refine gate_callee (f := 6) rfl ?_); refine goesL_ (some 35) rfl rfl Try.func6 (by kernel_rfl) rfl #[.slice A0 l0.length c0] rfl gq ?_; (with_reducible refine (laws_rBig.calls _ _ l0 true _ ?side1 ?side2 A2.out).mono ?_); (case side1 => exact cq HR0.out); (case side2 => exact HC0.out); rintro e w' ⟨rfl, ⟨nd, rfl⟩⟩; refine ⟨_, rfl, ?_⟩))
  go_ret
  exact ⟨rt, hq HB⟩
 ·
  replace c3 := Bool.eq_false_iff.mpr c3
  subst c3
  have H1 : ((spec_DrawLeaveTimes.f k l0).bind fun bt501 => ((impl_LeaveTimes.f k bt501.1 bt501.2.1 bt501.2.2).bind fun bt507 => ((spec_LeaveTimes.f k bt501.1 bt501.2.1 bt501.2.2).bind fun bt511 => (if (bt507.2 != bt511.2) = true then (laws_FnLeaving.j0 k l0 bt501.2.2 bt507.1 bt507.2 true bt501.1 bt501.2.1) else ((laws_rInts.f k bt507.1 bt511.1).bind fun t515 => (laws_FnLeaving.j0 k l0 bt501.2.2 bt507.1 bt507.2 (!t515) bt501.1 bt501.2.1)))))) = some r := by rw [if_neg (show ¬ (false = true) by decide)] at H; exact H
  clear H
  have H := H1
  clear H1
  replace H := Option.bind_eq_some_iff.mp H
  obtain ⟨⟨t501, t502, t503⟩, A40, H⟩ := H
  replace H : ((impl_LeaveTimes.f k t501 t502 t503).bind fun bt507 => ((spec_LeaveTimes.f k t501 t502 t503).bind fun bt511 => (if (bt507.2 != bt511.2) = true then (laws_FnLeaving.j0 k l0 t503 bt507.1 bt507.2 true t501 t502) else ((laws_rInts.f k bt507.1 bt511.1).bind fun t515 => (laws_FnLeaving.j0 k l0 t503 bt507.1 bt507.2 (!t515) t501 t502))))) = some r := H
  have A4 := A_ A40
  clear A40
  replace H := Option.bind_eq_some_iff.mp H
  obtain ⟨⟨t507, t510⟩, A50, H⟩ := H
  replace H : ((spec_LeaveTimes.f k t501 t502 t503).bind fun bt511 => (if (t510 != bt511.2) = true then (laws_FnLeaving.j0 k l0 t503 t507 t510 true t501 t502) else ((laws_rInts.f k t507 bt511.1).bind fun t515 => (laws_FnLeaving.j0 k l0 t503 t507 t510 (!t515) t501 t502)))) = some r := H
  have A5 := A_ A50
  clear A50
  replace H := Option.bind_eq_some_iff.mp H
  obtain ⟨⟨t511, t514⟩, A60, H⟩ := H
  replace H : (if (t510 != t514) = true then (laws_FnLeaving.j0 k l0 t503 t507 t510 true t501 t502) else ((laws_rInts.f k t507 t511).bind fun t515 => (laws_FnLeaving.j0 k l0 t503 t507 t510 (!t515) t501 t502))) = some r := H
  have A6 := A_ A60
  clear A60
  have HC7 := A_ H
  clear H
  go_enter Try.func4, Try.ntmps4
  go_upto_region 6 with (first | ((with_reducible refine gate_callee (f := 6) rfl ?_); refine goesL_ (some 35) rfl rfl Try.func6 (by kernel_rfl) rfl #[.slice A0 l0.length c0] rfl gq ?_; (with_reducible refine (laws_rBig.calls _ _ l0 false _ ?side1 ?side2 A2.out).mono ?_); (case side1 => exact cq HR0.out); (case side2 => exact HC0.out); rintro e w' ⟨rfl, ⟨nd, rfl⟩⟩; refine ⟨_, rfl, ?_⟩) | ((with_reducible refine gate_callee (f := 30) rfl ?_); refine goesL_ (some 38) rfl rfl Try.func30 (by kernel_rfl) rfl #[.slice A0 l0.length c0] rfl gq ?_; (with_reducible refine (spec_DrawLeaveTimes.calls k _ _ l0 t501 t502 t503 _ ?side1 ?side2 A4.out).mono ?_); (case side1 => exact cq HR0.out); (case side2 => exact HC0.out); rintro e w8 ⟨v504, rfl, ho0, hb⟩; refine ⟨_, rfl, ?_⟩; have n0_ := A_ (Kd.S_lower ho0 (below_size (hq HB))); have n1_ := A_ (below_step (hq HB) hb); clear HB; have HO505 := n0_; have HB := n1_; clear n0_ n1_; (try clear hb); (try clear hb2); (try clear hk); (try clear hi); (try clear ho0)) | ((with_reducible refine gate_dst (N := 3) rfl ?_); (try (refine gate_guard (by rfl) ?_; dsimp only)); refine box_event ?hg (N := 3) ?hd (cs := #[.int .i64 0, .bool false]) (t := 25) ?hr ?_; (case hd => rfl); (case hg => rfl); (case hr => first | (go_simp; done) | (go_simp; rfl)); intro gb506 hg w9 hbox hb; have n0_ := A_ (Kd.S_below (sq HO505) hb); have n1_ := A_ (below_step (hq HB) hb); have n2_ := A_ (hbox); have n3_ := A_ ((by rw [hg]; exact (below_size (hq HB)) : w.heap.size ≤ gb506)); have n4_ := A_ ((by rw [hg]; exact (below_size (hq HB)) : w.heap.size ≤ gb506)); clear HO505; clear HB; have HO505 := n0_; have HB := n1_; have BK506 := n2_; have GW506 := n3_; have GE506 := n4_; clear n0_ n1_ n2_ n3_ n4_; clear hb hbox hg; have hcz10_0 : w9.cell? ⟨gb506, 0, none⟩ = some (.int .i64 0) := bc BK506 0; have hcz10_1 : w9.cell? ⟨gb506, 1, none⟩ = some (.bool false) := bc BK506 1; have hfz10_0 := blk_frozen BK506.out 0; have hfz10_1 := blk_frozen BK506.out 1; obtain ⟨Ao11, co11, eo11⟩ := Kd.S_slice HO505.out; subst eo11) | ((with_reducible refine gate_callee (f := 31) rfl ?_); refine goesL_ (some 44) rfl rfl Try.func31 (by kernel_rfl) rfl #[.agg #[.int .i64 t501, .bool t502], .slice Ao11 t503.length co11] rfl gq ?_; (with_reducible refine (impl_LeaveTimes.calls k t501 t502 _ _ t503 t507 t510 _ ?side1 ?side2 A5.out).mono ?_); (case side1 => refine (Kd.S_reads' (e := 26) (base := w.heap.size) (ok := fun k_ => True) (n := t503.length) (c := co11) ?_).2.2; exact (by (with_reducible repeat (first | apply Kd.S_alloc | apply Kd.S_drewN | apply Kd.S_drew)); exact (Kd.S_mono (Kd.S_far (p := ⟨gb506, 1, none⟩) (Kd.S_far (p := ⟨gb506, 0, none⟩) (Kd.S_types HO505.out BK506.out (by decide)) (fun _ => cj) (.int .i64 t501)) (fun _ => cj) (.bool t502)) (fun _ h_ => h_.1)))); (case side2 => exact (Kd.S_reads' HO505.out).2.1); rintro e w12 ⟨v508, rfl, ho0, hb⟩; refine ⟨_, rfl, ?_⟩; have n0_ := A_ (Kd.S_elder' (by (with_reducible repeat (first | apply Kd.S_alloc | apply Kd.S_drewN | apply Kd.S_drew)); exact (Kd.S_mono (Kd.S_far (p := ⟨gb506, 1, none⟩) (Kd.S_far (p := ⟨gb506, 0, none⟩) (Kd.S_types HO505.out BK506.out (by decide)) (fun _ => cj) (.int .i64 t501)) (fun _ => cj) (.bool t502)) (fun _ h_ => h_.1))) (Kd.R_base ho0) hb); have n1_ := A_ (Kd.R_lower ho0 (below_size (hq HB))); have n2_ := A_ (blk_below (g := gb506) (o := .cells #[.int .i64 t501, .bool t502] 25 (0, 0)) (by (with_reducible repeat (first | refine blk_drewN ?_ _ | refine blk_drew ?_ | refine blk_alloc ?_ _)); refine blk_put (cs := #[.int .i64 t501, .bool false]) ?_ 1 _ rfl; (with_reducible repeat (first | refine blk_drewN ?_ _ | refine blk_drew ?_ | refine blk_alloc ?_ _)); refine blk_put (cs := #[.int .i64 0, .bool false]) ?_ 0 _ rfl; (with_reducible repeat (first | refine blk_drewN ?_ _ | refine blk_drew ?_ | refine blk_alloc ?_ _)); exact BK506.out) hb); have n3_ := A_ (below_step (hq HB) hb); clear HO505; clear BK506; clear HB; have HO505 := n0_; have HO509 := n1_; have BK506 := n2_; have HB := n3_; clear n0_ n1_ n2_ n3_; (try clear hb); (try clear hb2); (try clear hk); (try clear hi); (try clear ho0); have hcz13_0 : w12.cell? ⟨gb506, 0, none⟩ = some (.int .i64 t501) := bc BK506 0; have hcz13_1 : w12.cell? ⟨gb506, 1, none⟩ = some (.bool t502) := bc BK506 1; have hfz13_0 := blk_frozen BK506.out 0; have hfz13_1 := blk_frozen BK506.out 1) | ((with_reducible refine gate_callee (f := 32) rfl ?_); refine goesL_ (some 50) rfl rfl Try.func32 (by kernel_rfl) rfl #[.agg #[.int .i64 t501, .bool t502], .slice Ao11 t503.length co11] rfl gq ?_; (with_reducible refine (spec_LeaveTimes.calls k t501 t502 _ _ t503 t511 t514 _ ?side1 ?side2 A6.out).mono ?_); (case side1 => exact cq (Kd.S_reads' HO505.out).2.2); (case side2 => exact (Kd.S_reads' HO505.out).2.1); rintro e w14 ⟨v512, rfl, ho0, hb⟩; refine ⟨_, rfl, ?_⟩; have n0_ := A_ (Kd.S_elder' (sq HO505) (Kd.R_base ho0) hb); have n1_ := A_ (Kd.R_elder' (rq HO509) (Kd.R_base ho0) hb); have n2_ := A_ (Kd.R_lower (Kd.R_new' ho0 (Kd.R_lt (rq HO509))) (below_size (hq HB))); have n3_ := A_ (blk_below (bq BK506) hb); have n4_ := A_ (below_step (hq HB) hb); clear HO505; clear HO509; clear BK506; clear HB; have HO505 := n0_; have HO509 := n1_; have HO513 := n2_; have BK506 := n3_; have HB := n4_; clear n0_ n1_ n2_ n3_ n4_; (try clear hb); (try clear hb2); (try clear hk); (try clear hi); (try clear ho0)))
  (try simp only [Act.put, List.setIfInBounds_toArray, List.set_cons_zero, List.set_cons_succ])
  go_cut [61] (fun v61 wc => ∃ (kq : Nat) (x61_6 : Bool), v61 = .bool x61_6 ∧ Aside0 (laws_FnLeaving.j0 kq l0 t503 t507 t510 x61_6 t501 t502 = some r) ∧ Aside0 (kq ≤ k) ∧ Aside0 (Kd.S (Kd.slice 3 (Kd.int .i64)) 26 wc w.heap.size (fun k_ => some k_ ≠ (v508 : Value).ownBlock) (.slice Ao11 t503.length co11) t503) ∧ Aside0 (Kd.R (Kd.int .i64) 3 wc w.heap.size (fun _ => True) v508 t507) ∧ Aside0 (wc.heap[gb506]? = some (.cells #[.int .i64 t501, .bool t502] 25 (0, 0))) ∧ Aside0 (Below w.heap.size w wc))
  case first =>
   as_aux_lemma =>
    have H := HC7.out
    clear HC7
    by_cases c15 : (t510 != t514) = true
    ·
     rw [if_pos c15] at H
     have c15b0 : (t510 != t514) = true := c15
     (try (have c15b1 : decide (t510 = t514) = false := by simpa using c15))
     (try (have c15b2 : (t510 == t514) = false := by simpa using c15))
     (try (have c15b3 : ¬ (t510 = t514) := by simpa using c15))
     clear c15
     (first | rw [c15b0] | (simp only [i64_w, i32_w]; rw [c15b0]) | skip)
     have H' := A_ H
     clear H
     go_wp2
     go_meet
     case rel => exact ⟨_, (true), (by first | rfl | (simp; done) | (simp [*]; done)), H', ⟨by first | omega | exact Nat.le_refl _⟩, ⟨by (with_reducible repeat (first | apply Kd.S_alloc | apply Kd.S_drewN | apply Kd.S_drew)); exact Kd.S_mono HO505.out (fun _ => cj)⟩, ⟨by (with_reducible repeat (first | apply Kd.R_alloc | apply Kd.R_drewN | apply Kd.R_drew)); exact Kd.R_mono HO509.out (fun _ hk => trivial)⟩, ⟨bq BK506⟩, ⟨hq HB⟩⟩
    ·
     rw [if_neg c15] at H
     have c15b0 : (t510 != t514) = false := by simpa using c15
     (try (have c15b1 : decide (t510 = t514) = true := by simpa using c15))
     (try (have c15b2 : (t510 == t514) = true := by simpa using c15))
     clear c15
     (first | rw [c15b0] | (simp only [i64_w, i32_w]; rw [c15b0]) | skip)
     replace H := Option.bind_eq_some_iff.mp H
     obtain ⟨t515, A160, H⟩ := H
     replace H : (laws_FnLeaving.j0 k l0 t503 t507 t510 (!t515) t501 t502) = some r := H
     have A16 := A_ A160
     clear A160
     have H' := A_ H
     clear H
     obtain ⟨Ao17, co17, eo17⟩ := Kd.R_slice HO509.out
     subst eo17
     obtain ⟨Ao18, co18, eo18⟩ := Kd.R_slice HO513.out
     subst eo18
     go_wp2_with (first | (go_at_call 10; (with_reducible refine (laws_rInts.calls k _ _ t507 _ _ t511 t515 _ ?side1 ?side2 ?side3 ?side4 A16.out).mono ?_); (case side1 => exact cq (Kd.R_reads' HO509.out).2.2); (case side2 => exact (Kd.R_reads' HO509.out).2.1); (case side3 => exact cq (Kd.R_reads' HO513.out).2.2); (case side4 => exact (Kd.R_reads' HO513.out).2.1); rintro e w' ⟨rfl, ⟨nd, rfl⟩⟩))
     go_meet
     case rel => exact ⟨_, (!t515), (by first | rfl | (simp; done) | (simp [*]; done)), H', ⟨by first | omega | exact Nat.le_refl _⟩, ⟨by (with_reducible repeat (first | apply Kd.S_alloc | apply Kd.S_drewN | apply Kd.S_drew)); exact Kd.S_mono HO505.out (fun _ => cj)⟩, ⟨by (with_reducible repeat (first | apply Kd.R_alloc | apply Kd.R_drewN | apply Kd.R_drew)); exact Kd.R_mono HO509.out (fun _ hk => trivial)⟩, ⟨bq BK506⟩, ⟨hq HB⟩⟩
  case rest =>
   as_aux_lemma =>
    clear HC7
    try clear c1
    try clear p2
    try clear c3
    try clear c4
    try clear c6
    try clear c15
    try clear c15b0
    try clear c15b1
    try clear c15b2
    try clear hcz10_0
    try clear hcz10_1
    try clear hcz13_0
    try clear hcz13_1
    try clear hfz10_0
    try clear hfz10_1
    try clear hfz13_0
    try clear hfz13_1
    obtain ⟨kq, x61_6, rfl, HA, HJ6, HO_4, HO_5, BK506, HB⟩ := hcut
    cases kq with
    | zero => exact absurd HA.out (by simp [laws_FnLeaving.j0])
    | succ kj6 =>
     have H := HA.out
     clear HA
     simp only [laws_FnLeaving.j0] at H
     by_cases c19 : x61_6 = true
     ·
      subst c19
      have H1 : (some false) = some r := by rw [if_pos rfl] at H; exact H
      clear H
      have H := H1
      clear H1
      obtain rfl := Option.some.inj H
      exact absurd hr_ (by decide)
     ·
      replace c19 := Bool.eq_false_iff.mpr c19
      subst c19
      have H1 : ((impl_WorstLeave.f kj6 t501 t502 t503).bind fun bt516 => ((spec_WorstLeave.f kj6 t501 t502 t503).bind fun bt518 => (if bt516.1 = bt518.1 then (if (bt516.2 != bt518.2) = true then (laws_FnLeaving.j1 kj6 l0 t503 t507 t510 bt516.1 bt516.2 true t501 t502) else (if bt516.2 = true then (laws_FnLeaving.j1 kj6 l0 t503 t507 t510 bt516.1 bt516.2 (!t510) t501 t502) else (laws_FnLeaving.j1 kj6 l0 t503 t507 t510 bt516.1 bt516.2 false t501 t502))) else (laws_FnLeaving.j1 kj6 l0 t503 t507 t510 bt516.1 bt516.2 true t501 t502)))) = some r := by rw [if_neg (show ¬ (false = true) by decide)] at H; exact H
      clear H
      have H := H1
      clear H1
      replace H := Option.bind_eq_some_iff.mp H
      obtain ⟨⟨t516, t517⟩, A200, H⟩ := H
      replace H : ((spec_WorstLeave.f kj6 t501 t502 t503).bind fun bt518 => (if t516 = bt518.1 then (if (t517 != bt518.2) = true then (laws_FnLeaving.j1 kj6 l0 t503 t507 t510 t516 t517 true t501 t502) else (if t517 = true then (laws_FnLeaving.j1 kj6 l0 t503 t507 t510 t516 t517 (!t510) t501 t502) else (laws_FnLeaving.j1 kj6 l0 t503 t507 t510 t516 t517 false t501 t502))) else (laws_FnLeaving.j1 kj6 l0 t503 t507 t510 t516 t517 true t501 t502))) = some r := H
      have A20 := A_ A200
      clear A200
      replace H := Option.bind_eq_some_iff.mp H
      obtain ⟨⟨t518, t519⟩, A210, H⟩ := H
      replace H : (if t516 = t518 then (if (t517 != t519) = true then (laws_FnLeaving.j1 kj6 l0 t503 t507 t510 t516 t517 true t501 t502) else (if t517 = true then (laws_FnLeaving.j1 kj6 l0 t503 t507 t510 t516 t517 (!t510) t501 t502) else (laws_FnLeaving.j1 kj6 l0 t503 t507 t510 t516 t517 false t501 t502))) else (laws_FnLeaving.j1 kj6 l0 t503 t507 t510 t516 t517 true t501 t502)) = some r := H
      have A21 := A_ A210
      clear A210
      have HC22 := A_ H
      clear H
      have hcz23_0 : wc.cell? ⟨gb506, 0, none⟩ = some (.int .i64 t501) := bc BK506 0
      have hcz23_1 : wc.cell? ⟨gb506, 1, none⟩ = some (.bool t502) := bc BK506 1
      have hfz23_0 := blk_frozen BK506.out 0
      have hfz23_1 := blk_frozen BK506.out 1
      go_upto_region 10 with (first | ((with_reducible refine gate_callee (f := 33) rfl ?_); refine goesL_ (some 65) rfl rfl Try.func33 (by kernel_rfl) rfl #[.agg #[.int .i64 t501, .bool t502], .slice Ao11 t503.length co11] rfl gq ?_; (with_reducible refine (impl_WorstLeave.calls kj6 t501 t502 _ _ t503 t516 t517 _ ?side1 ?side2 A20.out).mono ?_); (case side1 => exact cq (Kd.S_reads' HO_4.out).2.2); (case side2 => exact (Kd.S_reads' HO_4.out).2.1); rintro e w24 ⟨rfl, hb⟩; refine ⟨_, rfl, ?_⟩; have n0_ := A_ (Kd.S_below (sq HO_4) hb); have n1_ := A_ (Kd.R_below (rq HO_5) hb); have n2_ := A_ (blk_below (bq BK506) hb); have n3_ := A_ (below_step (hq HB) hb); clear HO_4; clear HO_5; clear BK506; clear HB; have HO_4 := n0_; have HO_5 := n1_; have BK506 := n2_; have HB := n3_; clear n0_ n1_ n2_ n3_; (try clear hb); (try clear hb2); (try clear hk); (try clear hi); have hcz25_0 : w24.cell? ⟨gb506, 0, none⟩ = some (.int .i64 t501) := bc BK506 0; have hcz25_1 : w24.cell? ⟨gb506, 1, none⟩ = some (.bool t502) := bc BK506 1; have hfz25_0 := blk_frozen BK506.out 0; have hfz25_1 := blk_frozen BK506.out 1) | ((with_reducible refine gate_callee (f := 34) rfl ?_); refine goesL_ (some 71) rfl rfl Try.func34 (by kernel_rfl) rfl #[.agg #[.int .i64 t501, .bool t502], .slice Ao11 t503.length co11] rfl gq ?_; (with_reducible refine (spec_WorstLeave.calls kj6 t501 t502 _ _ t503 t518 t519 _ ?side1 ?side2 A21.out).mono ?_); (case side1 => exact cq (Kd.S_reads' HO_4.out).2.2); (case side2 => exact (Kd.S_reads' HO_4.out).2.1); rintro e w26 ⟨rfl, hb⟩; refine ⟨_, rfl, ?_⟩; have n0_ := A_ (Kd.S_below (sq HO_4) hb); have n1_ := A_ (Kd.R_below (rq HO_5) hb); have n2_ := A_ (blk_below (bq BK506) hb); have n3_ := A_ (below_step (hq HB) hb); clear HO_4; clear HO_5; clear BK506; clear HB; have HO_4 := n0_; have HO_5 := n1_; have BK506 := n2_; have HB := n3_; clear n0_ n1_ n2_ n3_; (try clear hb); (try clear hb2); (try clear hk); (try clear hi)))
      (try simp only [Act.put, List.setIfInBounds_toArray, List.set_cons_zero, List.set_cons_succ])
      go_cut [88] (fun v88 wc => ∃ (kq : Nat) (x88_21 : Bool), v88 = .bool x88_21 ∧ Aside0 (laws_FnLeaving.j1 kq l0 t503 t507 t510 t516 t517 x88_21 t501 t502 = some r) ∧ Aside0 (kq ≤ kj6) ∧ Aside0 (Kd.S (Kd.slice 3 (Kd.int .i64)) 26 wc w.heap.size (fun k_ => some k_ ≠ (v508 : Value).ownBlock) (.slice Ao11 t503.length co11) t503) ∧ Aside0 (Kd.R (Kd.int .i64) 3 wc w.heap.size (fun _ => True) v508 t507) ∧ Aside0 (wc.heap[gb506]? = some (.cells #[.int .i64 t501, .bool t502] 25 (0, 0))) ∧ Aside0 (Below w.heap.size w wc))
      case first =>
       as_aux_lemma =>
        have H := HC22.out
        clear HC22
        by_cases c27 : t516 = t518
        ·
         rw [if_pos c27] at H
         have c27b0 : (t516 == t518) = true := beq_iff_eq.mpr c27
         have c27b1 : (t516 != t518) = false := bne_eq_false_iff_eq.mpr c27
         clear c27
         (first | rw [c27b0] | (simp only [i64_w, i32_w]; rw [c27b0]) | skip)
         by_cases c28 : (t517 != t519) = true
         ·
          rw [if_pos c28] at H
          have c28b0 : (t517 != t519) = true := c28
          (try (have c28b1 : decide (t517 = t519) = false := by simpa using c28))
          (try (have c28b2 : (t517 == t519) = false := by simpa using c28))
          (try (have c28b3 : ¬ (t517 = t519) := by simpa using c28))
          clear c28
          have H' := A_ H
          clear H
          go_wp2
          go_meet
          case rel => exact ⟨_, (true), (by first | rfl | (simp; done) | (simp [*]; done)), H', ⟨by have := HJ6.out; first | omega | exact Nat.le_refl _⟩, ⟨sq HO_4⟩, ⟨rq HO_5⟩, ⟨bq BK506⟩, ⟨hq HB⟩⟩
         ·
          rw [if_neg c28] at H
          have c28b0 : (t517 != t519) = false := by simpa using c28
          (try (have c28b1 : decide (t517 = t519) = true := by simpa using c28))
          (try (have c28b2 : (t517 == t519) = true := by simpa using c28))
          clear c28
          by_cases c29 : t517 = true
          ·
           subst c29
           have H1 : (laws_FnLeaving.j1 kj6 l0 t503 t507 t510 t516 true (!t510) t501 t502) = some r := by rw [if_pos rfl] at H; exact H
           clear H
           have H := H1
           clear H1
           have H' := A_ H
           clear H
           go_wp2
           go_meet
           case rel => exact ⟨_, (!t510), (by first | rfl | (simp; done) | (simp [*]; done)), H', ⟨by have := HJ6.out; first | omega | exact Nat.le_refl _⟩, ⟨sq HO_4⟩, ⟨rq HO_5⟩, ⟨bq BK506⟩, ⟨hq HB⟩⟩
          ·
           replace c29 := Bool.eq_false_iff.mpr c29
           subst c29
           have H1 : (laws_FnLeaving.j1 kj6 l0 t503 t507 t510 t516 false false t501 t502) = some r := by rw [if_neg (show ¬ (false = true) by decide)] at H; exact H
           clear H
           have H := H1
           clear H1
           have H' := A_ H
           clear H
           go_wp2
           go_meet
           case rel => exact ⟨_, (false), (by first | rfl | (simp; done) | (simp [*]; done)), H', ⟨by have := HJ6.out; first | omega | exact Nat.le_refl _⟩, ⟨sq HO_4⟩, ⟨rq HO_5⟩, ⟨bq BK506⟩, ⟨hq HB⟩⟩
        ·
         rw [if_neg c27] at H
         have c27b0 : (t516 == t518) = false := beq_eq_false_iff_ne.mpr c27
         have c27b1 : (t516 != t518) = true := bne_iff_ne.mpr c27
         (first | rw [c27b0] | (simp only [i64_w, i32_w]; rw [c27b0]) | skip)
         have H' := A_ H
         clear H
         go_wp2
         go_meet
         case rel => exact ⟨_, (true), (by first | rfl | (simp; done) | (simp [*]; done)), H', ⟨by have := HJ6.out; first | omega | exact Nat.le_refl _⟩, ⟨sq HO_4⟩, ⟨rq HO_5⟩, ⟨bq BK506⟩, ⟨hq HB⟩⟩
      case rest =>
       as_aux_lemma =>
        clear HC22
        try clear c1
        try clear c2
        try clear p2
        try clear c3
        try clear c4
        try clear c6
        try clear c15
        try clear c15b0
        try clear c15b1
        try clear c15b2
        try clear c19
        try clear c27
        try clear c27b0
        try clear c27b1
        try clear c28
        try clear c28b0
        try clear c28b1
        try clear c28b2
        try clear c29
        try clear hcz10_0
        try clear hcz10_1
        try clear hcz13_0
        try clear hcz13_1
        try clear hcz23_0
        try clear hcz23_1
        try clear hcz25_0
        try clear hcz25_1
        try clear hfz10_0
        try clear hfz10_1
        try clear hfz13_0
        try clear hfz13_1
        try clear hfz23_0
        try clear hfz23_1
        try clear hfz25_0
        try clear hfz25_1
        try clear p2
        obtain ⟨kq, x88_21, rfl, HA, HJ21, HO_4, HO_5, BK506, HB⟩ := hcut
        cases kq with
        | zero => exact absurd HA.out (by simp [laws_FnLeaving.j1])
        | succ kj21 =>
         have H := HA.out
         clear HA
         simp only [laws_FnLeaving.j1] at H
         by_cases c30 : x88_21 = true
         ·
          subst c30
          have H1 : (some false) = some r := by rw [if_pos rfl] at H; exact H
          clear H
          have H := H1
          clear H1
          obtain rfl := Option.some.inj H
          exact absurd hr_ (by decide)
         ·
          replace c30 := Bool.eq_false_iff.mpr c30
          subst c30
          have H1 : ((spec_DrawSplitWalks.f l0).bind fun bt520 => ((impl_SplitWalks.f kj21 bt520.1 bt520.2.1 bt520.2.2).bind fun bt524 => ((spec_SplitWalks.f kj21 bt520.1 bt520.2.1 bt520.2.2).bind fun bt528 => (if (bt524.2 != bt528.2) = true then (laws_FnLeaving.j2 kj21 t503 t507 t510 t516 t517 bt524.1 bt524.2 true t501 t502 bt520.1 bt520.2.1) else ((laws_rTable.f kj21 bt524.1 bt528.1).bind fun t532 => (laws_FnLeaving.j2 kj21 t503 t507 t510 t516 t517 bt524.1 bt524.2 (!t532) t501 t502 bt520.1 bt520.2.1)))))) = some r := by rw [if_neg (show ¬ (false = true) by decide)] at H; exact H
          clear H
          have H := H1
          clear H1
          replace H := Option.bind_eq_some_iff.mp H
          obtain ⟨⟨t520, t521, t522⟩, A310, H⟩ := H
          replace H : ((impl_SplitWalks.f kj21 t520 t521 t522).bind fun bt524 => ((spec_SplitWalks.f kj21 t520 t521 t522).bind fun bt528 => (if (bt524.2 != bt528.2) = true then (laws_FnLeaving.j2 kj21 t503 t507 t510 t516 t517 bt524.1 bt524.2 true t501 t502 t520 t521) else ((laws_rTable.f kj21 bt524.1 bt528.1).bind fun t532 => (laws_FnLeaving.j2 kj21 t503 t507 t510 t516 t517 bt524.1 bt524.2 (!t532) t501 t502 t520 t521))))) = some r := H
          have A31 := A_ A310
          clear A310
          replace H := Option.bind_eq_some_iff.mp H
          obtain ⟨⟨t524, t527⟩, A320, H⟩ := H
          replace H : ((spec_SplitWalks.f kj21 t520 t521 t522).bind fun bt528 => (if (t527 != bt528.2) = true then (laws_FnLeaving.j2 kj21 t503 t507 t510 t516 t517 t524 t527 true t501 t502 t520 t521) else ((laws_rTable.f kj21 t524 bt528.1).bind fun t532 => (laws_FnLeaving.j2 kj21 t503 t507 t510 t516 t517 t524 t527 (!t532) t501 t502 t520 t521)))) = some r := H
          have A32 := A_ A320
          clear A320
          replace H := Option.bind_eq_some_iff.mp H
          obtain ⟨⟨t528, t531⟩, A330, H⟩ := H
          replace H : (if (t527 != t531) = true then (laws_FnLeaving.j2 kj21 t503 t507 t510 t516 t517 t524 t527 true t501 t502 t520 t521) else ((laws_rTable.f kj21 t524 t528).bind fun t532 => (laws_FnLeaving.j2 kj21 t503 t507 t510 t516 t517 t524 t527 (!t532) t501 t502 t520 t521))) = some r := H
          have A33 := A_ A330
          clear A330
          have HC34 := A_ H
          clear H
          go_upto_region 15 with (first | ((with_reducible refine gate_callee (f := 35) rfl ?_); refine goesL_ (some 91) rfl rfl Try.func35 (by kernel_rfl) rfl #[.slice A0 l0.length c0] rfl gq ?_; (with_reducible refine (spec_DrawSplitWalks.calls _ _ l0 t520 t521 t522 _ ?side1 ?side2 A31.out).mono ?_); (case side1 => exact cq (Kd.C_below HR0.out HB.out)); (case side2 => exact HC0.out); rintro e w35 ⟨rfl, hb⟩; refine ⟨_, rfl, ?_⟩; have n0_ := A_ (Kd.S_below (sq HO_4) hb); have n1_ := A_ (Kd.R_below (rq HO_5) hb); have n2_ := A_ (blk_below (bq BK506) hb); have n3_ := A_ (below_step (hq HB) hb); clear HO_4; clear HO_5; clear BK506; clear HB; have HO_4 := n0_; have HO_5 := n1_; have BK506 := n2_; have HB := n3_; clear n0_ n1_ n2_ n3_; (try clear hb); (try clear hb2); (try clear hk); (try clear hi)) | ((with_reducible refine gate_dst (N := 13) rfl ?_); (try (refine gate_guard (by rfl) ?_; dsimp only)); refine box_event ?hg (N := 13) ?hd (cs := #[.int .i64 0, .bool false]) (t := 25) ?hr ?_; (case hd => rfl); (case hg => rfl); (case hr => first | (go_simp; done) | (go_simp; rfl)); intro gb523 hg w36 hbox hb; have n0_ := A_ (Kd.S_below (sq HO_4) hb); have n1_ := A_ (Kd.R_below (rq HO_5) hb); have n2_ := A_ (blk_below (bq BK506) hb); have n3_ := A_ (below_step (hq HB) hb); have n4_ := A_ (hbox); have n5_ := A_ ((by rw [hg]; exact (below_size (hq HB)) : w.heap.size ≤ gb523)); have n6_ := A_ ((by rw [hg]; exact (below_size (hq HB)) : w.heap.size ≤ gb523)); have n7_ := A_ ((by rw [hg]; exact Nat.ne_of_lt (blk_lt (bq BK506)) : gb506 ≠ gb523)); have n8_ := A_ ((by rw [hg]; exact Nat.ne_of_gt (blk_lt (bq BK506)) : gb523 ≠ gb506)); clear HO_4; clear HO_5; clear BK506; clear HB; have HO_4 := n0_; have HO_5 := n1_; have BK506 := n2_; have HB := n3_; have BK523 := n4_; have GW523 := n5_; have GE523 := n6_; have NB506_523 := n7_; have NB523_506 := n8_; clear n0_ n1_ n2_ n3_ n4_ n5_ n6_ n7_ n8_; clear hb hbox hg; have hnb37 := NB523_506.out; have hnc37 := NB506_523.out; have hcz38_0 : w36.cell? ⟨gb523, 0, none⟩ = some (.int .i64 0) := bc BK523 0; have hcz38_1 : w36.cell? ⟨gb523, 1, none⟩ = some (.bool false) := bc BK523 1; have hfz38_0 := blk_frozen BK523.out 0; have hfz38_1 := blk_frozen BK523.out 1) | ((with_reducible refine gate_callee (f := 36) rfl ?_); refine goesL_ (some 97) rfl rfl Try.func36 (by kernel_rfl) rfl #[.agg #[.int .i64 t520, .bool t521], .int .i64 t522] rfl gq ?_; (with_reducible refine (impl_SplitWalks.calls kj21 t520 t521 t522 t524 t527 _ A32.out).mono ?_); rintro e w39 ⟨v525, rfl, ho0, hb⟩; refine ⟨_, rfl, ?_⟩; have n0_ := A_ (Kd.S_elder' (by (with_reducible repeat (first | apply Kd.S_alloc | apply Kd.S_drewN | apply Kd.S_drew)); exact (Kd.S_mono (Kd.S_far (p := ⟨gb523, 1, none⟩) (Kd.S_far (p := ⟨gb523, 0, none⟩) (Kd.S_types HO_4.out BK523.out (by decide)) (fun _ => cj) (.int .i64 t520)) (fun _ => cj) (.bool t521)) (fun _ h_ => h_.1))) (Kd.S_base ho0) hb); have n1_ := A_ (Kd.R_below (by (with_reducible repeat (first | apply Kd.R_alloc | apply Kd.R_drewN | apply Kd.R_drew)); exact (Kd.R_mono (Kd.R_far (p := ⟨gb523, 1, none⟩) (Kd.R_far (p := ⟨gb523, 0, none⟩) (Kd.R_types HO_5.out BK523.out (by decide)) (fun _ => cj) (.int .i64 t520)) (fun _ => cj) (.bool t521)) (fun _ h_ => h_.1))) hb); have n2_ := A_ (Kd.S_lower (Kd.S_new' (Kd.S_new' ho0 (Kd.S_lt (by (with_reducible repeat (first | apply Kd.S_alloc | apply Kd.S_drewN | apply Kd.S_drew)); exact (Kd.S_mono (Kd.S_far (p := ⟨gb523, 1, none⟩) (Kd.S_far (p := ⟨gb523, 0, none⟩) (Kd.S_types HO_4.out BK523.out (by decide)) (fun _ => cj) (.int .i64 t520)) (fun _ => cj) (.bool t521)) (fun _ h_ => h_.1))))) (Kd.R_lt (by (with_reducible repeat (first | apply Kd.R_alloc | apply Kd.R_drewN | apply Kd.R_drew)); exact (Kd.R_mono (Kd.R_far (p := ⟨gb523, 1, none⟩) (Kd.R_far (p := ⟨gb523, 0, none⟩) (Kd.R_types HO_5.out BK523.out (by decide)) (fun _ => cj) (.int .i64 t520)) (fun _ => cj) (.bool t521)) (fun _ h_ => h_.1))))) (below_size (hq HB))); have n3_ := A_ (blk_below (g := gb506) (o := .cells #[.int .i64 t501, .bool t502] 25 (0, 0)) (by (with_reducible repeat (first | refine blk_drewN ?_ _ | refine blk_drew ?_ | refine blk_alloc ?_ _)); refine blk_far ?_ NB506_523.out _; (with_reducible repeat (first | refine blk_drewN ?_ _ | refine blk_drew ?_ | refine blk_alloc ?_ _)); refine blk_far ?_ NB506_523.out _; (with_reducible repeat (first | refine blk_drewN ?_ _ | refine blk_drew ?_ | refine blk_alloc ?_ _)); exact BK506.out) hb); have n4_ := A_ (blk_below (g := gb523) (o := .cells #[.int .i64 t520, .bool t521] 25 (0, 0)) (by (with_reducible repeat (first | refine blk_drewN ?_ _ | refine blk_drew ?_ | refine blk_alloc ?_ _)); refine blk_put (cs := #[.int .i64 t520, .bool false]) ?_ 1 _ rfl; (with_reducible repeat (first | refine blk_drewN ?_ _ | refine blk_drew ?_ | refine blk_alloc ?_ _)); refine blk_put (cs := #[.int .i64 0, .bool false]) ?_ 0 _ rfl; (with_reducible repeat (first | refine blk_drewN ?_ _ | refine blk_drew ?_ | refine blk_alloc ?_ _)); exact BK523.out) hb); have n5_ := A_ (below_step (hq HB) hb); clear HO_4; clear HO_5; clear BK506; clear BK523; clear HB; have HO_4 := n0_; have HO_5 := n1_; have HO526 := n2_; have BK506 := n3_; have BK523 := n4_; have HB := n5_; clear n0_ n1_ n2_ n3_ n4_ n5_; (try clear hb); (try clear hb2); (try clear hk); (try clear hi); (try clear ho0); have hcz40_0 : w39.cell? ⟨gb523, 0, none⟩ = some (.int .i64 t520) := bc BK523 0; have hcz40_1 : w39.cell? ⟨gb523, 1, none⟩ = some (.bool t521) := bc BK523 1; have hfz40_0 := blk_frozen BK523.out 0; have hfz40_1 := blk_frozen BK523.out 1) | ((with_reducible refine gate_callee (f := 37) rfl ?_); refine goesL_ (some 103) rfl rfl Try.func37 (by kernel_rfl) rfl #[.agg #[.int .i64 t520, .bool t521], .int .i64 t522] rfl gq ?_; (with_reducible refine (spec_SplitWalks.calls kj21 t520 t521 t522 t528 t531 _ A33.out).mono ?_); rintro e w41 ⟨v529, rfl, ho0, hb⟩; refine ⟨_, rfl, ?_⟩; have n0_ := A_ (Kd.S_elder' (sq HO_4) (Kd.S_base ho0) hb); have n1_ := A_ (Kd.R_below (rq HO_5) hb); have n2_ := A_ (Kd.S_elder' (sq HO526) (Kd.S_base ho0) hb); have n3_ := A_ (Kd.S_lower (Kd.S_new' (Kd.S_new' (Kd.S_new' ho0 (Kd.S_lt (sq HO_4))) (Kd.R_lt (rq HO_5))) (Kd.S_lt (sq HO526))) (below_size (hq HB))); have n4_ := A_ (blk_below (bq BK506) hb); have n5_ := A_ (blk_below (bq BK523) hb); have n6_ := A_ (below_step (hq HB) hb); clear HO_4; clear HO_5; clear HO526; clear BK506; clear BK523; clear HB; have HO_4 := n0_; have HO_5 := n1_; have HO526 := n2_; have HO530 := n3_; have BK506 := n4_; have BK523 := n5_; have HB := n6_; clear n0_ n1_ n2_ n3_ n4_ n5_ n6_; (try clear hb); (try clear hb2); (try clear hk); (try clear hi); (try clear ho0)))
          (try simp only [Act.put, List.setIfInBounds_toArray, List.set_cons_zero, List.set_cons_succ])
          go_cut [114] (fun v114 wc => ∃ (kq : Nat) (x114_33 : Bool), v114 = .bool x114_33 ∧ Aside0 (laws_FnLeaving.j2 kq t503 t507 t510 t516 t517 t524 t527 x114_33 t501 t502 t520 t521 = some r) ∧ Aside0 (kq ≤ kj21) ∧ Aside0 (Kd.S (Kd.slice 3 (Kd.int .i64)) 26 wc w.heap.size (fun k_ => some k_ ≠ (v508 : Value).ownBlock ∧ some k_ ≠ (v525 : Value).ownBlock) (.slice Ao11 t503.length co11) t503) ∧ Aside0 (Kd.R (Kd.int .i64) 3 wc w.heap.size (fun _ => True) v508 t507) ∧ Aside0 (Kd.S (Kd.slice 3 (Kd.int .i64)) 26 wc w.heap.size (fun k_ => some k_ ≠ ((.slice Ao11 t503.length co11) : Value).ownBlock ∧ some k_ ≠ (v508 : Value).ownBlock) v525 t524) ∧ Aside0 (wc.heap[gb506]? = some (.cells #[.int .i64 t501, .bool t502] 25 (0, 0))) ∧ Aside0 (wc.heap[gb523]? = some (.cells #[.int .i64 t520, .bool t521] 25 (0, 0))) ∧ Aside0 (Below w.heap.size w wc))
          case first =>
           as_aux_lemma =>
            have H := HC34.out
            clear HC34
            by_cases c42 : (t527 != t531) = true
            ·
             rw [if_pos c42] at H
             have c42b0 : (t527 != t531) = true := c42
             (try (have c42b1 : decide (t527 = t531) = false := by simpa using c42))
             (try (have c42b2 : (t527 == t531) = false := by simpa using c42))
             (try (have c42b3 : ¬ (t527 = t531) := by simpa using c42))
             clear c42
             (first | rw [c42b0] | (simp only [i64_w, i32_w]; rw [c42b0]) | skip)
             have H' := A_ H
             clear H
             go_wp2
             go_meet
             case rel => exact ⟨_, (true), (by first | rfl | (simp; done) | (simp [*]; done)), H', ⟨by have := HJ6.out; have := HJ21.out; first | omega | exact Nat.le_refl _⟩, ⟨by (with_reducible repeat (first | apply Kd.S_alloc | apply Kd.S_drewN | apply Kd.S_drew)); exact Kd.S_mono HO_4.out (fun _ => cj)⟩, ⟨rq HO_5⟩, ⟨by (with_reducible repeat (first | apply Kd.S_alloc | apply Kd.S_drewN | apply Kd.S_drew)); exact Kd.S_mono HO526.out (fun _ => cj)⟩, ⟨bq BK506⟩, ⟨bq BK523⟩, ⟨hq HB⟩⟩
            ·
             rw [if_neg c42] at H
             have c42b0 : (t527 != t531) = false := by simpa using c42
             (try (have c42b1 : decide (t527 = t531) = true := by simpa using c42))
             (try (have c42b2 : (t527 == t531) = true := by simpa using c42))
             clear c42
             (first | rw [c42b0] | (simp only [i64_w, i32_w]; rw [c42b0]) | skip)
             replace H := Option.bind_eq_some_iff.mp H
             obtain ⟨t532, A430, H⟩ := H
             replace H : (laws_FnLeaving.j2 kj21 t503 t507 t510 t516 t517 t524 t527 (!t532) t501 t502 t520 t521) = some r := H
             have A43 := A_ A430
             clear A430
             have H' := A_ H
             clear H
             obtain ⟨Ao44, co44, eo44⟩ := Kd.S_slice HO526.out
             subst eo44
             obtain ⟨Ao45, co45, eo45⟩ := Kd.S_slice HO530.out
             subst eo45
             go_wp2_with (first | (go_at_call 38; (with_reducible refine (laws_rTable.calls kj21 _ _ t524 _ _ t528 t532 _ ?side1 ?side2 ?side3 ?side4 A43.out).mono ?_); (case side1 => exact cq (Kd.S_reads' HO526.out).2.2); (case side2 => exact (Kd.S_reads' HO526.out).2.1); (case side3 => exact cq (Kd.S_reads' HO530.out).2.2); (case side4 => exact (Kd.S_reads' HO530.out).2.1); rintro e w' ⟨rfl, ⟨nd, rfl⟩⟩))
             go_meet
             case rel => exact ⟨_, (!t532), (by first | rfl | (simp; done) | (simp [*]; done)), H', ⟨by have := HJ6.out; have := HJ21.out; first | omega | exact Nat.le_refl _⟩, ⟨by (with_reducible repeat (first | apply Kd.S_alloc | apply Kd.S_drewN | apply Kd.S_drew)); exact Kd.S_mono HO_4.out (fun _ => cj)⟩, ⟨rq HO_5⟩, ⟨by (with_reducible repeat (first | apply Kd.S_alloc | apply Kd.S_drewN | apply Kd.S_drew)); exact Kd.S_mono HO526.out (fun _ => cj)⟩, ⟨bq BK506⟩, ⟨bq BK523⟩, ⟨hq HB⟩⟩
          case rest =>
           as_aux_lemma =>
            clear HC34
            try clear c1
            try clear c2
            try clear p2
            try clear c3
            try clear c4
            try clear c6
            try clear c15
            try clear c15b0
            try clear c15b1
            try clear c15b2
            try clear c19
            try clear c27
            try clear c27b0
            try clear c27b1
            try clear c28
            try clear c28b0
            try clear c28b1
            try clear c28b2
            try clear c29
            try clear c30
            try clear c31
            try clear c32
            try clear c33
            try clear c34
            try clear c35
            try clear c36
            try clear c37
            try clear c42
            try clear c42b0
            try clear c42b1
            try clear c42b2
            try clear hcz10_0
            try clear hcz10_1
            try clear hcz13_0
            try clear hcz13_1
            try clear hcz23_0
            try clear hcz23_1
            try clear hcz25_0
            try clear hcz25_1
            try clear hcz38_0
            try clear hcz38_1
            try clear hcz40_0
            try clear hcz40_1
            try clear hfz10_0
            try clear hfz10_1
            try clear hfz13_0
            try clear hfz13_1
            try clear hfz23_0
            try clear hfz23_1
            try clear hfz25_0
            try clear hfz25_1
            try clear hfz38_0
            try clear hfz38_1
            try clear hfz40_0
            try clear hfz40_1
            try clear p2
            obtain ⟨kq, x114_33, rfl, HA, HJ33, HO_4, HO_5, HO_15, BK506, BK523, HB⟩ := hcut
            cases kq with
            | zero => exact absurd HA.out (by simp [laws_FnLeaving.j2])
            | succ kj33 =>
             have H := HA.out
             clear HA
             simp only [laws_FnLeaving.j2] at H
             by_cases c46 : x114_33 = true
             ·
              subst c46
              have H1 : (some false) = some r := by rw [if_pos rfl] at H; exact H
              clear H
              have H := H1
              clear H1
              obtain rfl := Option.some.inj H
              exact absurd hr_ (by decide)
             ·
              replace c46 := Bool.eq_false_iff.mpr c46
              subst c46
              have H1 : (if t527 = true then ((impl_WorstLeave.f kj33 t520 t521 t524).bind fun bt533 => ((spec_WorstLeave.f kj33 t520 t521 t524).bind fun bt535 => (if bt533.2 = true then (if bt535.2 = true then (if bt533.1 = bt535.1 then (laws_FnLeaving.j3 kj33 t503 t507 t510 t516 t517 t501 t502) else (some false)) else (some false)) else (some false)))) else (laws_FnLeaving.j3 kj33 t503 t507 t510 t516 t517 t501 t502)) = some r := by rw [if_neg (show ¬ (false = true) by decide)] at H; exact H
              clear H
              have H := H1
              clear H1
              have HC47 := A_ H
              clear H
              go_upto_if 115 with (fail)
              go_cut [] (fun wc => ∃ (kq : Nat), Aside0 (laws_FnLeaving.j3 kq t503 t507 t510 t516 t517 t501 t502 = some r) ∧ Aside0 (kq ≤ kj33) ∧ Aside0 (Kd.S (Kd.slice 3 (Kd.int .i64)) 26 wc w.heap.size (fun k_ => some k_ ≠ (v508 : Value).ownBlock) (.slice Ao11 t503.length co11) t503) ∧ Aside0 (Kd.R (Kd.int .i64) 3 wc w.heap.size (fun _ => True) v508 t507) ∧ Aside0 (wc.heap[gb506]? = some (.cells #[.int .i64 t501, .bool t502] 25 (0, 0))) ∧ Aside0 (wc.heap[gb523]? = some (.cells #[.int .i64 t520, .bool t521] 25 (0, 0))) ∧ Aside0 (Below w.heap.size w wc))
              case first =>
               as_aux_lemma =>
                have H := HC47.out
                clear HC47
                by_cases c48 : t527 = true
                ·
                 as_aux_lemma =>
                  subst c48
                  have H1 : ((impl_WorstLeave.f kj33 t520 t521 t524).bind fun bt533 => ((spec_WorstLeave.f kj33 t520 t521 t524).bind fun bt535 => (if bt533.2 = true then (if bt535.2 = true then (if bt533.1 = bt535.1 then (laws_FnLeaving.j3 kj33 t503 t507 t510 t516 t517 t501 t502) else (some false)) else (some false)) else (some false)))) = some r := by rw [if_pos rfl] at H; exact H
                  clear H
                  have H := H1
                  clear H1
                  replace H := Option.bind_eq_some_iff.mp H
                  obtain ⟨⟨t533, t534⟩, A490, H⟩ := H
                  replace H : ((spec_WorstLeave.f kj33 t520 t521 t524).bind fun bt535 => (if t534 = true then (if bt535.2 = true then (if t533 = bt535.1 then (laws_FnLeaving.j3 kj33 t503 t507 t510 t516 t517 t501 t502) else (some false)) else (some false)) else (some false))) = some r := H
                  have A49 := A_ A490
                  clear A490
                  replace H := Option.bind_eq_some_iff.mp H
                  obtain ⟨⟨t535, t536⟩, A500, H⟩ := H
                  replace H : (if t534 = true then (if t536 = true then (if t533 = t535 then (laws_FnLeaving.j3 kj33 t503 t507 t510 t516 t517 t501 t502) else (some false)) else (some false)) else (some false)) = some r := H
                  have A50 := A_ A500
                  clear A500
                  by_cases c51 : t534 = true
                  ·
                   subst c51
                   have H1 : (if t536 = true then (if t533 = t535 then (laws_FnLeaving.j3 kj33 t503 t507 t510 t516 t517 t501 t502) else (some false)) else (some false)) = some r := by rw [if_pos rfl] at H; exact H
                   clear H
                   have H := H1
                   clear H1
                   by_cases c52 : t536 = true
                   ·
                    subst c52
                    have H1 : (if t533 = t535 then (laws_FnLeaving.j3 kj33 t503 t507 t510 t516 t517 t501 t502) else (some false)) = some r := by rw [if_pos rfl] at H; exact H
                    clear H
                    have H := H1
                    clear H1
                    by_cases c53 : t533 = t535
                    ·
                     rw [if_pos c53] at H
                     have c53b0 : (t533 == t535) = true := beq_iff_eq.mpr c53
                     have c53b1 : (t533 != t535) = false := bne_eq_false_iff_eq.mpr c53
                     clear c53
                     (first | rw [c53b0] | (simp only [i64_w, i32_w]; rw [c53b0]) | skip)
                     have H' := A_ H
                     clear H
                     have hnb54 := NB523_506.out
                     have hnc54 := NB506_523.out
                     have hcz55_0 : wc.cell? ⟨gb523, 0, none⟩ = some (.int .i64 t520) := bc BK523 0
                     have hcz55_1 : wc.cell? ⟨gb523, 1, none⟩ = some (.bool t521) := bc BK523 1
                     have hfz55_0 := blk_frozen BK523.out 0
                     have hfz55_1 := blk_frozen BK523.out 1
                     obtain ⟨Ao56, co56, eo56⟩ := Kd.S_slice HO_15.out
                     subst eo56
                     go_wp2_with (first | ((with_reducible refine gate_callee (f := 33) rfl ?_); refine goesL_ (some 119) rfl rfl Try.func33 (by kernel_rfl) rfl #[.agg #[.int .i64 t520, .bool t521], .slice Ao56 t524.length co56] rfl gq ?_; (with_reducible refine (impl_WorstLeave.calls kj33 t520 t521 _ _ t524 t533 true _ ?side1 ?side2 A49.out).mono ?_); (case side1 => exact cq (Kd.S_reads' HO_15.out).2.2); (case side2 => exact (Kd.S_reads' HO_15.out).2.1); rintro e w57 ⟨rfl, hb⟩; refine ⟨_, rfl, ?_⟩; have n0_ := A_ (Kd.S_below (sq HO_4) hb); have n1_ := A_ (Kd.R_below (rq HO_5) hb); have n2_ := A_ (Kd.S_below (sq HO_15) hb); have n3_ := A_ (blk_below (bq BK506) hb); have n4_ := A_ (blk_below (bq BK523) hb); have n5_ := A_ (below_step (hq HB) hb); clear HO_4; clear HO_5; clear HO_15; clear BK506; clear BK523; clear HB; have HO_4 := n0_; have HO_5 := n1_; have HO_15 := n2_; have BK506 := n3_; have BK523 := n4_; have HB := n5_; clear n0_ n1_ n2_ n3_ n4_ n5_; (try clear hb); (try clear hb2); (try clear hk); (try clear hi); have hcz58_0 : w57.cell? ⟨gb523, 0, none⟩ = some (.int .i64 t520) := bc BK523 0; have hcz58_1 : w57.cell? ⟨gb523, 1, none⟩ = some (.bool t521) := bc BK523 1; have hfz58_0 := blk_frozen BK523.out 0; have hfz58_1 := blk_frozen BK523.out 1) | ((with_reducible refine gate_callee (f := 34) rfl ?_); refine goesL_ (some 125) rfl rfl Try.func34 (by kernel_rfl) rfl #[.agg #[.int .i64 t520, .bool t521], .slice Ao56 t524.length co56] rfl gq ?_; (with_reducible refine (spec_WorstLeave.calls kj33 t520 t521 _ _ t524 t535 true _ ?side1 ?side2 A50.out).mono ?_); (case side1 => exact cq (Kd.S_reads' HO_15.out).2.2); (case side2 => exact (Kd.S_reads' HO_15.out).2.1); rintro e w59 ⟨rfl, hb⟩; refine ⟨_, rfl, ?_⟩; have n0_ := A_ (Kd.S_below (sq HO_4) hb); have n1_ := A_ (Kd.R_below (rq HO_5) hb); have n2_ := A_ (Kd.S_below (sq HO_15) hb); have n3_ := A_ (blk_below (bq BK506) hb); have n4_ := A_ (blk_below (bq BK523) hb); have n5_ := A_ (below_step (hq HB) hb); clear HO_4; clear HO_5; clear HO_15; clear BK506; clear BK523; clear HB; have HO_4 := n0_; have HO_5 := n1_; have HO_15 := n2_; have BK506 := n3_; have BK523 := n4_; have HB := n5_; clear n0_ n1_ n2_ n3_ n4_ n5_; (try clear hb); (try clear hb2); (try clear hk); (try clear hi)))
                     go_meet
                     case rel => exact ⟨_, H', ⟨by have := HJ6.out; have := HJ21.out; have := HJ33.out; first | omega | exact Nat.le_refl _⟩, ⟨by (with_reducible repeat (first | apply Kd.S_alloc | apply Kd.S_drewN | apply Kd.S_drew)); exact Kd.S_mono HO_4.out (fun _ => cj)⟩, ⟨rq HO_5⟩, ⟨bq BK506⟩, ⟨bq BK523⟩, ⟨hq HB⟩⟩
                    ·
                     rw [if_neg c53] at H
                     have c53b0 : (t533 == t535) = false := beq_eq_false_iff_ne.mpr c53
                     have c53b1 : (t533 != t535) = true := bne_iff_ne.mpr c53
                     (first | rw [c53b0] | (simp only [i64_w, i32_w]; rw [c53b0]) | skip)
                     obtain rfl := Option.some.inj H
                     exact absurd hr_ (by decide)
                   ·
                    replace c52 := Bool.eq_false_iff.mpr c52
                    subst c52
                    have H1 : (some false) = some r := by rw [if_neg (show ¬ (false = true) by decide)] at H; exact H
                    clear H
                    have H := H1
                    clear H1
                    obtain rfl := Option.some.inj H
                    exact absurd hr_ (by decide)
                  ·
                   replace c51 := Bool.eq_false_iff.mpr c51
                   subst c51
                   have H1 : (some false) = some r := by rw [if_neg (show ¬ (false = true) by decide)] at H; exact H
                   clear H
                   have H := H1
                   clear H1
                   obtain rfl := Option.some.inj H
                   exact absurd hr_ (by decide)
                ·
                 replace c48 := Bool.eq_false_iff.mpr c48
                 subst c48
                 have H1 : (laws_FnLeaving.j3 kj33 t503 t507 t510 t516 t517 t501 t502) = some r := by rw [if_neg (show ¬ (false = true) by decide)] at H; exact H
                 clear H
                 have H := H1
                 clear H1
                 have H' := A_ H
                 clear H
                 go_wp2
                 go_meet
                 case rel => exact ⟨_, H', ⟨by have := HJ6.out; have := HJ21.out; have := HJ33.out; first | omega | exact Nat.le_refl _⟩, ⟨by (with_reducible repeat (first | apply Kd.S_alloc | apply Kd.S_drewN | apply Kd.S_drew)); exact Kd.S_mono HO_4.out (fun _ => cj)⟩, ⟨rq HO_5⟩, ⟨bq BK506⟩, ⟨bq BK523⟩, ⟨hq HB⟩⟩
              case rest =>
               as_aux_lemma =>
                clear HC47
                try clear c1
                try clear c2
                try clear p2
                try clear c3
                try clear c4
                try clear c5
                try clear c6
                try clear c7
                try clear c15
                try clear c15b0
                try clear c15b1
                try clear c15b2
                try clear c19
                try clear c27
                try clear c27b0
                try clear c27b1
                try clear c28
                try clear c28b0
                try clear c28b1
                try clear c28b2
                try clear c29
                try clear c30
                try clear c31
                try clear c32
                try clear c33
                try clear c34
                try clear c35
                try clear c36
                try clear c37
                try clear c42
                try clear c42b0
                try clear c42b1
                try clear c42b2
                try clear c46
                try clear c48
                try clear c51
                try clear c52
                try clear c53
                try clear c53b0
                try clear c53b1
                try clear c54
                try clear c60
                try clear c66
                try clear c72
                try clear hcz10_0
                try clear hcz10_1
                try clear hcz13_0
                try clear hcz13_1
                try clear hcz23_0
                try clear hcz23_1
                try clear hcz25_0
                try clear hcz25_1
                try clear hcz38_0
                try clear hcz38_1
                try clear hcz40_0
                try clear hcz40_1
                try clear hcz55_0
                try clear hcz55_1
                try clear hcz58_0
                try clear hcz58_1
                try clear hcz61_0
                try clear hcz61_1
                try clear hcz64_0
                try clear hcz64_1
                try clear hcz67_0
                try clear hcz67_1
                try clear hcz70_0
                try clear hcz70_1
                try clear hcz73_0
                try clear hcz73_1
                try clear hcz76_0
                try clear hcz76_1
                try clear hfz10_0
                try clear hfz10_1
                try clear hfz13_0
                try clear hfz13_1
                try clear hfz23_0
                try clear hfz23_1
                try clear hfz25_0
                try clear hfz25_1
                try clear hfz38_0
                try clear hfz38_1
                try clear hfz40_0
                try clear hfz40_1
                try clear hfz55_0
                try clear hfz55_1
                try clear hfz58_0
                try clear hfz58_1
                try clear hfz61_0
                try clear hfz61_1
                try clear hfz64_0
                try clear hfz64_1
                try clear hfz67_0
                try clear hfz67_1
                try clear hfz70_0
                try clear hfz70_1
                try clear hfz73_0
                try clear hfz73_1
                try clear hfz76_0
                try clear hfz76_1
                try clear p2
                obtain ⟨kq, HA, HJ46, HO_4, HO_5, BK506, BK523, HB⟩ := hcut
                cases kq with
                | zero => exact absurd HA.out (by simp [laws_FnLeaving.j3])
                | succ kj46 =>
                 have H := HA.out
                 clear HA
                 simp only [laws_FnLeaving.j3] at H
                 by_cases c78 : t510 = true
                 ·
                  subst c78
                  have H1 : (laws_FnLeaving.l0 kj46 t503 t507 t516 t517 0 false 0 t501 t502) = some r := by rw [if_pos rfl] at H; exact H
                  clear H
                  have H := H1
                  clear H1
                  have H' := A_ H
                  clear H
                  go_wp2
                  go_loopg [23, 24, 25] kj46 (fun kq v23 v24 v25 w' => ∃ (x23_5 : Int) (x24_5 : Bool) (x25_5 : Int), v23 = .int .i64 x23_5 ∧ v24 = .bool x24_5 ∧ v25 = .int .i64 x25_5 ∧ Aside0 (laws_FnLeaving.l0 kq t503 t507 t516 t517 x23_5 x24_5 x25_5 t501 t502 = some r) ∧ Aside0 (kq ≤ kj46) ∧ Aside0 (Kd.S (Kd.slice 3 (Kd.int .i64)) 26 w' w.heap.size (fun k_ => some k_ ≠ (v508 : Value).ownBlock) (.slice Ao11 t503.length co11) t503) ∧ Aside0 (Kd.R (Kd.int .i64) 3 w' w.heap.size (fun _ => True) v508 t507) ∧ Aside0 (w'.heap[gb506]? = some (.cells #[.int .i64 t501, .bool t502] 25 (0, 0))) ∧ Aside0 (w'.heap[gb523]? = some (.cells #[.int .i64 t520, .bool t521] 25 (0, 0))) ∧ Aside0 (Below w.heap.size w w'))
                  case atStart => exact ⟨(0), (false), (0), (by first | rfl | (simp; done) | (simp [*]; done)), (by first | rfl | (simp; done) | (simp [*]; done)), (by first | rfl | (simp; done) | (simp [*]; done)), H', ⟨Nat.le_refl _⟩, ⟨sq HO_4⟩, ⟨rq HO_5⟩, ⟨bq BK506⟩, ⟨bq BK523⟩, ⟨hq HB⟩⟩
                  case round =>
                   as_aux_lemma =>
                    clear H'
                    try clear c1
                    try clear c2
                    try clear p2
                    try clear c3
                    try clear c4
                    try clear c5
                    try clear c6
                    try clear c7
                    try clear c15
                    try clear c15b0
                    try clear c15b1
                    try clear c15b2
                    try clear c19
                    try clear c27
                    try clear c27b0
                    try clear c27b1
                    try clear c28
                    try clear c28b0
                    try clear c28b1
                    try clear c28b2
                    try clear c29
                    try clear c30
                    try clear c31
                    try clear c32
                    try clear c33
                    try clear c34
                    try clear c35
                    try clear c36
                    try clear c37
                    try clear c42
                    try clear c42b0
                    try clear c42b1
                    try clear c42b2
                    try clear c46
                    try clear c48
                    try clear c51
                    try clear c52
                    try clear c53
                    try clear c53b0
                    try clear c53b1
                    try clear c54
                    try clear c60
                    try clear c66
                    try clear c72
                    try clear c78
                    try clear hcz10_0
                    try clear hcz10_1
                    try clear hcz13_0
                    try clear hcz13_1
                    try clear hcz23_0
                    try clear hcz23_1
                    try clear hcz25_0
                    try clear hcz25_1
                    try clear hcz38_0
                    try clear hcz38_1
                    try clear hcz40_0
                    try clear hcz40_1
                    try clear hcz55_0
                    try clear hcz55_1
                    try clear hcz58_0
                    try clear hcz58_1
                    try clear hcz61_0
                    try clear hcz61_1
                    try clear hcz64_0
                    try clear hcz64_1
                    try clear hcz67_0
                    try clear hcz67_1
                    try clear hcz70_0
                    try clear hcz70_1
                    try clear hcz73_0
                    try clear hcz73_1
                    try clear hcz76_0
                    try clear hcz76_1
                    try clear hfz10_0
                    try clear hfz10_1
                    try clear hfz13_0
                    try clear hfz13_1
                    try clear hfz23_0
                    try clear hfz23_1
                    try clear hfz25_0
                    try clear hfz25_1
                    try clear hfz38_0
                    try clear hfz38_1
                    try clear hfz40_0
                    try clear hfz40_1
                    try clear hfz55_0
                    try clear hfz55_1
                    try clear hfz58_0
                    try clear hfz58_1
                    try clear hfz61_0
                    try clear hfz61_1
                    try clear hfz64_0
                    try clear hfz64_1
                    try clear hfz67_0
                    try clear hfz67_1
                    try clear hfz70_0
                    try clear hfz70_1
                    try clear hfz73_0
                    try clear hfz73_1
                    try clear hfz76_0
                    try clear hfz76_1
                    try clear p2
                    obtain ⟨x23_5, x24_5, x25_5, rfl, rfl, rfl, HA, HK5, HO_4, HO_5, BK506, BK523, HB⟩ := hrel
                    cases gk with
                    | zero => exact absurd HA.out (by simp [laws_FnLeaving.l0])
                    | succ k5 =>
                     have H := HA.out
                     clear HA
                     simp only [laws_FnLeaving.l0] at H
                     by_cases c79 : x25_5 < t501
                     ·
                      rw [if_pos c79] at H
                      have c79b0 : decide (x25_5 < t501) = true := decide_eq_true c79
                      clear c79
                      have HC80 := A_ H
                      clear H
                      have hnb81 := NB506_523.out
                      have hnc81 := NB523_506.out
                      have hcz82_0 : wr.cell? ⟨gb506, 0, none⟩ = some (.int .i64 t501) := bc BK506 0
                      have hcz82_1 : wr.cell? ⟨gb506, 1, none⟩ = some (.bool t502) := bc BK506 1
                      have hfz82_0 := blk_frozen BK506.out 0
                      have hfz82_1 := blk_frozen BK506.out 1
                      go_upto_region 28 with (fail)
                      go_cut [24] (fun v24 wc => ∃ (kq : Nat) (x24_79 : Bool), v24 = .bool x24_79 ∧ Aside0 (laws_FnLeaving.j5 kq t503 t507 t516 t517 x23_5 x24_79 x25_5 t501 t502 = some r) ∧ Aside0 (kq ≤ k5) ∧ Aside0 (Kd.S (Kd.slice 3 (Kd.int .i64)) 26 wc w.heap.size (fun k_ => some k_ ≠ (v508 : Value).ownBlock) (.slice Ao11 t503.length co11) t503) ∧ Aside0 (Kd.R (Kd.int .i64) 3 wc w.heap.size (fun _ => True) v508 t507) ∧ Aside0 (wc.heap[gb506]? = some (.cells #[.int .i64 t501, .bool t502] 25 (0, 0))) ∧ Aside0 (wc.heap[gb523]? = some (.cells #[.int .i64 t520, .bool t521] 25 (0, 0))) ∧ Aside0 (Below w.heap.size w wc))
                      case first =>
                       as_aux_lemma =>
                        have H := HC80.out
                        clear HC80
                        by_cases c83 : x24_5 = true
                        ·
                         subst c83
                         have H1 : (laws_FnLeaving.j5 k5 t503 t507 t516 t517 x23_5 true x25_5 t501 t502) = some r := by rw [if_pos rfl] at H; exact H
                         clear H
                         have H := H1
                         clear H1
                         have H' := A_ H
                         clear H
                         go_wp2
                         go_meet
                         case rel => exact ⟨_, (true), (by first | rfl | (simp; done) | (simp [*]; done)), H', ⟨by have := HJ6.out; have := HJ21.out; have := HJ33.out; have := HJ46.out; have := HK5.out; first | omega | exact Nat.le_refl _⟩, ⟨sq HO_4⟩, ⟨rq HO_5⟩, ⟨bq BK506⟩, ⟨bq BK523⟩, ⟨hq HB⟩⟩
                        ·
                         replace c83 := Bool.eq_false_iff.mpr c83
                         subst c83
                         have H1 : (if 0 ≤ x25_5 then (if x25_5 < (t507.length : Int) then (laws_FnLeaving.j5 k5 t503 t507 t516 t517 x23_5 (decide ((rd t507 x25_5) < 0)) x25_5 t501 t502) else (none)) else (none)) = some r := by rw [if_neg (show ¬ (false = true) by decide)] at H; exact H
                         clear H
                         have H := H1
                         clear H1
                         by_cases c84 : 0 ≤ x25_5
                         ·
                          rw [if_pos c84] at H
                          have c84b0 : decide (0 ≤ x25_5) = true := decide_eq_true c84
                          clear c84
                          (first | rw [c84b0] | (simp only [i64_w, i32_w]; rw [c84b0]) | skip)
                          by_cases c85 : x25_5 < (t507.length : Int)
                          ·
                           rw [if_pos c85] at H
                           have c85b0 : decide (x25_5 < (t507.length : Int)) = true := decide_eq_true c85
                           clear c85
                           have H' := A_ H
                           clear H
                           obtain ⟨Ao86, co86, eo86⟩ := Kd.R_slice HO_5.out
                           subst eo86
                           have p537 : 0 ≤ (x25_5 : Int) := of_decide_eq_true (by first | (with_reducible assumption) | assumption)
                           have q537 : x25_5 < (t507.length : Int) := of_decide_eq_true (by first | (with_reducible assumption) | assumption)
                           obtain ⟨ad537, e537, hx537_0⟩ := Kd.at_int (Kd.R_reads' HO_5.out).2.2 x25_5 p537 q537
                           cases e537
                           replace p537 := eq_true p537
                           replace q537 := eq_true q537
                           go_wp2
                           go_meet
                           case rel => exact ⟨_, (decide ((rd t507 x25_5) < 0)), (by first | rfl | (simp; done) | (simp [*]; done)), H', ⟨by have := HJ6.out; have := HJ21.out; have := HJ33.out; have := HJ46.out; have := HK5.out; first | omega | exact Nat.le_refl _⟩, ⟨sq HO_4⟩, ⟨rq HO_5⟩, ⟨bq BK506⟩, ⟨bq BK523⟩, ⟨hq HB⟩⟩
                          ·
                           rw [if_neg c85] at H
                           exact absurd H (by simp)
                         ·
                          rw [if_neg c84] at H
                          exact absurd H (by simp)
                      case rest =>
                       as_aux_lemma =>
                        clear HC80
                        try clear c1
                        try clear c2
                        try clear p2
                        try clear c3
                        try clear c4
                        try clear c5
                        try clear p5
                        try clear q5
                        try clear hx5
                        try clear c6
                        try clear c7
                        try clear c8
                        try clear c15
                        try clear c15b0
                        try clear c15b1
                        try clear c15b2
                        try clear c19
                        try clear c27
                        try clear c27b0
                        try clear c27b1
                        try clear c28
                        try clear c28b0
                        try clear c28b1
                        try clear c28b2
                        try clear c29
                        try clear c30
                        try clear c31
                        try clear c32
                        try clear c33
                        try clear c34
                        try clear c35
                        try clear c36
                        try clear c37
                        try clear c42
                        try clear c42b0
                        try clear c42b1
                        try clear c42b2
                        try clear c46
                        try clear c48
                        try clear c51
                        try clear c52
                        try clear c53
                        try clear c53b0
                        try clear c53b1
                        try clear p53
                        try clear q53
                        try clear hx53
                        try clear c54
                        try clear c60
                        try clear c66
                        try clear c72
                        try clear c78
                        try clear c79
                        try clear c79b0
                        try clear c81
                        try clear c83
                        try clear c84
                        try clear c84b0
                        try clear c85
                        try clear c85b0
                        try clear hcz10_0
                        try clear hcz10_1
                        try clear hcz13_0
                        try clear hcz13_1
                        try clear hcz23_0
                        try clear hcz23_1
                        try clear hcz25_0
                        try clear hcz25_1
                        try clear hcz38_0
                        try clear hcz38_1
                        try clear hcz40_0
                        try clear hcz40_1
                        try clear hcz55_0
                        try clear hcz55_1
                        try clear hcz58_0
                        try clear hcz58_1
                        try clear hcz61_0
                        try clear hcz61_1
                        try clear hcz64_0
                        try clear hcz64_1
                        try clear hcz67_0
                        try clear hcz67_1
                        try clear hcz70_0
                        try clear hcz70_1
                        try clear hcz73_0
                        try clear hcz73_1
                        try clear hcz76_0
                        try clear hcz76_1
                        try clear hcz82_0
                        try clear hcz82_1
                        try clear hfz10_0
                        try clear hfz10_1
                        try clear hfz13_0
                        try clear hfz13_1
                        try clear hfz23_0
                        try clear hfz23_1
                        try clear hfz25_0
                        try clear hfz25_1
                        try clear hfz38_0
                        try clear hfz38_1
                        try clear hfz40_0
                        try clear hfz40_1
                        try clear hfz55_0
                        try clear hfz55_1
                        try clear hfz58_0
                        try clear hfz58_1
                        try clear hfz61_0
                        try clear hfz61_1
                        try clear hfz64_0
                        try clear hfz64_1
                        try clear hfz67_0
                        try clear hfz67_1
                        try clear hfz70_0
                        try clear hfz70_1
                        try clear hfz73_0
                        try clear hfz73_1
                        try clear hfz76_0
                        try clear hfz76_1
                        try clear hfz82_0
                        try clear hfz82_1
                        try clear hx537_0
                        try clear p2
                        try clear p537
                        try clear q537
                        obtain ⟨kq, x24_79, rfl, HA, HJ79, HO_4, HO_5, BK506, BK523, HB⟩ := hcut
                        cases kq with
                        | zero => exact absurd HA.out (by simp [laws_FnLeaving.j5])
                        | succ kj79 =>
                         have H := HA.out
                         clear HA
                         simp only [laws_FnLeaving.j5] at H
                         by_cases c87 : 0 ≤ x25_5
                         ·
                          rw [if_pos c87] at H
                          have c87b0 : decide (0 ≤ x25_5) = true := decide_eq_true c87
                          clear c87
                          by_cases c88 : x25_5 < (t507.length : Int)
                          ·
                           rw [if_pos c88] at H
                           have c88b0 : decide (x25_5 < (t507.length : Int)) = true := decide_eq_true c88
                           clear c88
                           have HC89 := A_ H
                           clear H
                           obtain ⟨Ao90, co90, eo90⟩ := Kd.R_slice HO_5.out
                           subst eo90
                           have p538 : 0 ≤ (x25_5 : Int) := of_decide_eq_true (by first | (with_reducible assumption) | assumption)
                           have q538 : x25_5 < (t507.length : Int) := of_decide_eq_true (by first | (with_reducible assumption) | assumption)
                           obtain ⟨ad538, e538, hx538_0⟩ := Kd.at_int (Kd.R_reads' HO_5.out).2.2 x25_5 p538 q538
                           cases e538
                           replace p538 := eq_true p538
                           replace q538 := eq_true q538
                           go_upto_if 160 with (fail)
                           go_cut [23] (fun v23 wc => ∃ (kq : Nat) (x23_88 : Int), v23 = .int .i64 x23_88 ∧ Aside0 (laws_FnLeaving.j6 kq t503 t507 t516 t517 x23_88 x24_79 x25_5 t501 t502 = some r) ∧ Aside0 (kq ≤ kj79) ∧ Aside0 (Kd.S (Kd.slice 3 (Kd.int .i64)) 26 wc w.heap.size (fun k_ => some k_ ≠ ((.slice (some ad538) t507.length co90) : Value).ownBlock) (.slice Ao11 t503.length co11) t503) ∧ Aside0 (Kd.R (Kd.int .i64) 3 wc w.heap.size (fun _ => True) (.slice (some ad538) t507.length co90) t507) ∧ Aside0 (wc.heap[gb506]? = some (.cells #[.int .i64 t501, .bool t502] 25 (0, 0))) ∧ Aside0 (wc.heap[gb523]? = some (.cells #[.int .i64 t520, .bool t521] 25 (0, 0))) ∧ Aside0 (Below w.heap.size w wc))
                           case first =>
                            have H := HC89.out
                            clear HC89
                            by_cases c91 : (rd t507 x25_5) > x23_5
                            ·
                             rw [if_pos c91] at H
                             have c91b0 : decide (x23_5 < (rd t507 x25_5)) = true := decide_eq_true c91
                             clear c91
                             (first | rw [c91b0] | (simp only [i64_w, i32_w]; rw [c91b0]) | skip)
                             have H' := A_ H
                             clear H
                             have p539 : 0 ≤ (x25_5 : Int) := of_decide_eq_true (by first | (with_reducible assumption) | assumption)
                             have q539 : x25_5 < (t507.length : Int) := of_decide_eq_true (by first | (with_reducible assumption) | assumption)
                             obtain ⟨ad539, e539, hx539_0⟩ := Kd.at_int (Kd.R_reads' HO_5.out).2.2 x25_5 p539 q539
                             obtain rfl : ad538 = ad539 := (by injection e539)
                             replace p539 := eq_true p539
                             replace q539 := eq_true q539
                             go_wp2
                             go_meet
                             case rel => exact ⟨_, (rd t507 x25_5), (by first | rfl | (simp; done) | (simp [*]; done)), H', ⟨by have := HJ6.out; have := HJ21.out; have := HJ33.out; have := HJ46.out; have := HK5.out; have := HJ79.out; first | omega | exact Nat.le_refl _⟩, ⟨sq HO_4⟩, ⟨rq HO_5⟩, ⟨bq BK506⟩, ⟨bq BK523⟩, ⟨hq HB⟩⟩
                            ·
                             rw [if_neg c91] at H
                             have c91b0 : decide (x23_5 < (rd t507 x25_5)) = false := decide_eq_false c91
                             clear c91
                             (first | rw [c91b0] | (simp only [i64_w, i32_w]; rw [c91b0]) | skip)
                             have H' := A_ H
                             clear H
                             go_wp2
                             go_meet
                             case rel => exact ⟨_, (x23_5), (by first | rfl | (simp; done) | (simp [*]; done)), H', ⟨by have := HJ6.out; have := HJ21.out; have := HJ33.out; have := HJ46.out; have := HK5.out; have := HJ79.out; first | omega | exact Nat.le_refl _⟩, ⟨sq HO_4⟩, ⟨rq HO_5⟩, ⟨bq BK506⟩, ⟨bq BK523⟩, ⟨hq HB⟩⟩
                           case rest =>
                            as_aux_lemma =>
                             clear HC89
                             try clear c1
                             try clear c2
                             try clear p2
                             try clear c3
                             try clear c4
                             try clear c5
                             try clear p5
                             try clear q5
                             try clear hx5
                             try clear c6
                             try clear c7
                             try clear c8
                             try clear c9
                             try clear c15
                             try clear c15b0
                             try clear c15b1
                             try clear c15b2
                             try clear c19
                             try clear c27
                             try clear c27b0
                             try clear c27b1
                             try clear c28
                             try clear c28b0
                             try clear c28b1
                             try clear c28b2
                             try clear c29
                             try clear c30
                             try clear c31
                             try clear c32
                             try clear c33
                             try clear c34
                             try clear c35
                             try clear c36
                             try clear c37
                             try clear c42
                             try clear c42b0
                             try clear c42b1
                             try clear c42b2
                             try clear c46
                             try clear c48
                             try clear c51
                             try clear c52
                             try clear c53
                             try clear c53b0
                             try clear c53b1
                             try clear p53
                             try clear q53
                             try clear hx53
                             try clear c54
                             try clear c60
                             try clear c66
                             try clear c72
                             try clear c78
                             try clear c79
                             try clear c79b0
                             try clear c81
                             try clear c83
                             try clear c84
                             try clear c84b0
                             try clear c85
                             try clear c85b0
                             try clear c87
                             try clear c87b0
                             try clear c88
                             try clear c88b0
                             try clear c91
                             try clear c91b0
                             try clear hcz10_0
                             try clear hcz10_1
                             try clear hcz13_0
                             try clear hcz13_1
                             try clear hcz23_0
                             try clear hcz23_1
                             try clear hcz25_0
                             try clear hcz25_1
                             try clear hcz38_0
                             try clear hcz38_1
                             try clear hcz40_0
                             try clear hcz40_1
                             try clear hcz55_0
                             try clear hcz55_1
                             try clear hcz58_0
                             try clear hcz58_1
                             try clear hcz61_0
                             try clear hcz61_1
                             try clear hcz64_0
                             try clear hcz64_1
                             try clear hcz67_0
                             try clear hcz67_1
                             try clear hcz70_0
                             try clear hcz70_1
                             try clear hcz73_0
                             try clear hcz73_1
                             try clear hcz76_0
                             try clear hcz76_1
                             try clear hcz82_0
                             try clear hcz82_1
                             try clear hfz10_0
                             try clear hfz10_1
                             try clear hfz13_0
                             try clear hfz13_1
                             try clear hfz23_0
                             try clear hfz23_1
                             try clear hfz25_0
                             try clear hfz25_1
                             try clear hfz38_0
                             try clear hfz38_1
                             try clear hfz40_0
                             try clear hfz40_1
                             try clear hfz55_0
                             try clear hfz55_1
                             try clear hfz58_0
                             try clear hfz58_1
                             try clear hfz61_0
                             try clear hfz61_1
                             try clear hfz64_0
                             try clear hfz64_1
                             try clear hfz67_0
                             try clear hfz67_1
                             try clear hfz70_0
                             try clear hfz70_1
                             try clear hfz73_0
                             try clear hfz73_1
                             try clear hfz76_0
                             try clear hfz76_1
                             try clear hfz82_0
                             try clear hfz82_1
                             try clear hx537_0
                             try clear hx538_0
                             try clear hx539_0
                             try clear p2
                             try clear p5
                             try clear p53
                             try clear p537
                             try clear p538
                             try clear p539
                             try clear q5
                             try clear q53
                             try clear q537
                             try clear q538
                             try clear q539
                             obtain ⟨kq, x23_88, rfl, HA, HJ88, HO_4, HO_5, BK506, BK523, HB⟩ := hcut
                             cases kq with
                             | zero => exact absurd HA.out (by simp [laws_FnLeaving.j6])
                             | succ kj88 =>
                              have H := HA.out
                              clear HA
                              simp only [laws_FnLeaving.j6] at H
                              have H' := A_ H
                              clear H
                              go_wp2
                              go_loopg [26, 27] kj88 (fun kq v26 v27 w' => ∃ (x26_8 : Int) (x27_8 : Int), v26 = .int .i64 x26_8 ∧ v27 = .int .i64 x27_8 ∧ Aside0 (laws_FnLeaving.l1 kq t503 t507 t516 t517 x23_88 x24_79 x25_5 x26_8 x27_8 t501 t502 = some r) ∧ Aside0 (kq ≤ kj88) ∧ Aside0 (Kd.S (Kd.slice 3 (Kd.int .i64)) 26 w' w.heap.size (fun k_ => some k_ ≠ ((.slice (some ad538) t507.length co90) : Value).ownBlock) (.slice Ao11 t503.length co11) t503) ∧ Aside0 (Kd.R (Kd.int .i64) 3 w' w.heap.size (fun _ => True) (.slice (some ad538) t507.length co90) t507) ∧ Aside0 (w'.heap[gb506]? = some (.cells #[.int .i64 t501, .bool t502] 25 (0, 0))) ∧ Aside0 (w'.heap[gb523]? = some (.cells #[.int .i64 t520, .bool t521] 25 (0, 0))) ∧ Aside0 (Below w.heap.size w w'))
                              case atStart => exact ⟨((-1)), (0), (by first | rfl | (simp; done) | (simp [*]; done)), (by first | rfl | (simp; done) | (simp [*]; done)), H', ⟨Nat.le_refl _⟩, ⟨sq HO_4⟩, ⟨rq HO_5⟩, ⟨bq BK506⟩, ⟨bq BK523⟩, ⟨hq HB⟩⟩
                              case round =>
                               as_aux_lemma =>
                                clear H'
                                try clear c1
                                try clear c2
                                try clear p2
                                try clear c3
                                try clear c4
                                try clear c5
                                try clear p5
                                try clear q5
                                try clear hx5
                                try clear c6
                                try clear c7
                                try clear c8
                                try clear c9
                                try clear c15
                                try clear c15b0
                                try clear c15b1
                                try clear c15b2
                                try clear c19
                                try clear c27
                                try clear c27b0
                                try clear c27b1
                                try clear c28
                                try clear c28b0
                                try clear c28b1
                                try clear c28b2
                                try clear c29
                                try clear c30
                                try clear c31
                                try clear c32
                                try clear c33
                                try clear c34
                                try clear c35
                                try clear c36
                                try clear c37
                                try clear c42
                                try clear c42b0
                                try clear c42b1
                                try clear c42b2
                                try clear c46
                                try clear c48
                                try clear c51
                                try clear c52
                                try clear c53
                                try clear c53b0
                                try clear c53b1
                                try clear p53
                                try clear q53
                                try clear hx53
                                try clear c54
                                try clear c60
                                try clear c66
                                try clear c72
                                try clear c78
                                try clear c79
                                try clear c79b0
                                try clear c81
                                try clear c83
                                try clear c84
                                try clear c84b0
                                try clear c85
                                try clear c85b0
                                try clear c87
                                try clear c87b0
                                try clear c88
                                try clear c88b0
                                try clear c91
                                try clear c91b0
                                try clear hcz10_0
                                try clear hcz10_1
                                try clear hcz13_0
                                try clear hcz13_1
                                try clear hcz23_0
                                try clear hcz23_1
                                try clear hcz25_0
                                try clear hcz25_1
                                try clear hcz38_0
                                try clear hcz38_1
                                try clear hcz40_0
                                try clear hcz40_1
                                try clear hcz55_0
                                try clear hcz55_1
                                try clear hcz58_0
                                try clear hcz58_1
                                try clear hcz61_0
                                try clear hcz61_1
                                try clear hcz64_0
                                try clear hcz64_1
                                try clear hcz67_0
                                try clear hcz67_1
                                try clear hcz70_0
                                try clear hcz70_1
                                try clear hcz73_0
                                try clear hcz73_1
                                try clear hcz76_0
                                try clear hcz76_1
                                try clear hcz82_0
                                try clear hcz82_1
                                try clear hfz10_0
                                try clear hfz10_1
                                try clear hfz13_0
                                try clear hfz13_1
                                try clear hfz23_0
                                try clear hfz23_1
                                try clear hfz25_0
                                try clear hfz25_1
                                try clear hfz38_0
                                try clear hfz38_1
                                try clear hfz40_0
                                try clear hfz40_1
                                try clear hfz55_0
                                try clear hfz55_1
                                try clear hfz58_0
                                try clear hfz58_1
                                try clear hfz61_0
                                try clear hfz61_1
                                try clear hfz64_0
                                try clear hfz64_1
                                try clear hfz67_0
                                try clear hfz67_1
                                try clear hfz70_0
                                try clear hfz70_1
                                try clear hfz73_0
                                try clear hfz73_1
                                try clear hfz76_0
                                try clear hfz76_1
                                try clear hfz82_0
                                try clear hfz82_1
                                try clear hx537_0
                                try clear hx538_0
                                try clear hx539_0
                                try clear p2
                                try clear p5
                                try clear p53
                                try clear p537
                                try clear p538
                                try clear p539
                                try clear q5
                                try clear q53
                                try clear q537
                                try clear q538
                                try clear q539
                                obtain ⟨x26_8, x27_8, rfl, rfl, HA, HK8, HO_4, HO_5, BK506, BK523, HB⟩ := hrel
                                cases gk with
                                | zero => exact absurd HA.out (by simp [laws_FnLeaving.l1])
                                | succ k8 =>
                                 have H := HA.out
                                 clear HA
                                 simp only [laws_FnLeaving.l1] at H
                                 by_cases c92 : x27_8 < (t503.length : Int)
                                 ·
                                  rw [if_pos c92] at H
                                  have c92b0 : decide (x27_8 < (t503.length : Int)) = true := decide_eq_true c92
                                  clear c92
                                  by_cases c93 : 0 ≤ x27_8
                                  ·
                                   rw [if_pos c93] at H
                                   have c93b0 : decide (0 ≤ x27_8) = true := decide_eq_true c93
                                   clear c93
                                   replace H := Option.bind_eq_some_iff.mp H
                                   obtain ⟨⟨t543, t546⟩, A940, H⟩ := H
                                   replace H : (if t546 = true then (laws_FnLeaving.j8 k8 t503 t507 t516 t517 x23_88 x24_79 x25_5 x26_8 x27_8 t543 ((t543.length : Int) != t501) t501 t502) else (laws_FnLeaving.j8 k8 t503 t507 t516 t517 x23_88 x24_79 x25_5 x26_8 x27_8 t543 true t501 t502)) = some r := H
                                   have A94 := A_ A940
                                   clear A940
                                   have HC95 := A_ H
                                   clear H
                                   try go_wp2
                                   have n0_ := A_ (Kd.S_drew HO_4.out)
                                   have n1_ := A_ (Kd.R_drew HO_5.out)
                                   have n2_ := A_ (blk_drew BK506.out)
                                   have n3_ := A_ (blk_drew BK523.out)
                                   have n4_ := A_ (below_drew1 HB.out)
                                   clear HO_4 HO_5 BK506 BK523 HB; have HO_4 := n0_; have HO_5 := n1_; have BK506 := n2_; have BK523 := n3_; have HB := n4_; clear n0_ n1_ n2_ n3_ n4_
                                   have p542 : 0 ≤ (x27_8 : Int) := of_decide_eq_true (by first | (with_reducible assumption) | assumption)
                                   have q542 : x27_8 < (t503.length : Int) := of_decide_eq_true (by first | (with_reducible assumption) | assumption)
                                   obtain ⟨ad542, A542_0, c542_0, e542, hx542_0, hl542_0, hi542_0⟩ := at_L2 (Kd.S_reads' HO_4.out).2.2 x27_8 p542 q542
                                   cases e542
                                   obtain ⟨ce542, hce542, hMe542, hcc542⟩ := Kd.S_get HO_4.out [] x27_8 p542 (by first | exact q542 | exact of_decide_eq_true (by first | (with_reducible assumption) | assumption) | (have e_ := (Kd.S_reads' HO_4.out).1; omega))
                                   obtain ⟨ve542_0, rfl, ge542_0⟩ := hMe542
                                   have hv542_0 := hcc542 0 _ rfl
                                   rw [Nat.add_zero, show ((Kd.slice 3 (Kd.int .i64))).sz = 1 from rfl, Nat.mul_one] at hv542_0
                                   replace hv542_0 := Option.some.inj (hv542_0.symm.trans hx542_0)
                                   rw [hv542_0] at ge542_0
                                   have HL542_0 := A_ (show Kd.R (Kd.int .i64) 3 _ _ _ _ (rd_L2 t503 x27_8) from ge542_0)
                                   clear hv542_0 ge542_0 hcc542 hce542
                                   have HR542_0 := A_ hi542_0
                                   have HC542_0 := A_ hl542_0
                                   clear hi542_0 hl542_0
                                   replace p542 := eq_true p542
                                   replace q542 := eq_true q542
                                   refine start_ (n := 11) (S := fun w' => w'.cell? ⟨gb506, 0, none⟩ = some (.int .i64 t501) ∧ w'.cell? ⟨gb506, 1, none⟩ = some (.bool t502) ∧ w'.cell? (ad542.add (x27_8).toNat) = some (.slice A542_0 (rd_L2 t503 x27_8).length c542_0)) (ds := []) #[false, false, false, false, false, false, false, false, false, false, false] (by kernel_rfl) rfl rfl ⟨bc BK506 0, bc BK506 1, hx542_0⟩ (fun hHeld => ?_); refine with_tabW laws_FnLeaving.tab35 laws_FnLeaving.bits35 (fun HT_ HW_ => ?_)
                                   generalize wr.drew = w96 at HO_4 HO_5 BK506 BK523 HB HL542_0 HR542_0 hx542_0 hHeld ⊢
                                   refine pure_ (i := 1) (N := some 173) (v := ?_) (a' := ?_) #[false, true, false, false, false, false, false, false, false, false, false] rfl rfl (any_of HT_.out (by kernel_rfl)) (fun _ _ _ h => h) (Or.inl ⟨by rfl, ?_⟩) ?_ ?_
                                   rotate_left
                                   ·
                                    intro w'
                                    go_simp
                                    with_reducible rfl
                                   rotate_left
                                   ·
                                    simp only [Act.put, List.setIfInBounds_toArray, List.set_cons_zero, List.set_cons_succ, i64_w, i32_w]
                                    rfl
                                   refine pure_ (i := 2) (N := some 174) (v := ?_) (a' := ?_) #[false, true, true, false, false, false, false, false, false, false, false] rfl rfl (any_of HT_.out (by kernel_rfl)) (fun _ _ _ h => h) (Or.inl ⟨by rfl, ?_⟩) ?_ ?_
                                   rotate_left
                                   ·
                                    intro w'
                                    go_simp
                                    with_reducible rfl
                                   rotate_left
                                   ·
                                    simp only [Act.put, List.setIfInBounds_toArray, List.set_cons_zero, List.set_cons_succ, i64_w, i32_w]
                                    rfl
                                   refine pure_ (i := 3) (N := some 175) (v := ?_) (a' := ?_) #[false, true, true, true, false, false, false, false, false, false, false] rfl rfl (any_of HT_.out (by kernel_rfl)) (fun _ _ _ h => h) (Or.inl ⟨by rfl, ?_⟩) ?_ ?_
                                   rotate_left
                                   ·
                                    intro w'
                                    go_simp
                                    with_reducible rfl
                                   rotate_left
                                   ·
                                    simp only [Act.put, List.setIfInBounds_toArray, List.set_cons_zero, List.set_cons_succ, i64_w, i32_w]
                                    rfl
                                   refine take_ (i := 0) (N := some 172) (v := ?_) (a' := ?_) #[true, true, true, true, false, false, false, false, false, false, false] rfl rfl (take_ofW HT_.out HW_.out (by kernel_rfl)) (fun _ _ _ h => h) (Or.inl ⟨by rfl, ?_⟩) hHeld ?_ ?_
                                   rotate_left
                                   ·
                                    rintro w' ⟨s0, s1, s2⟩
                                    go_simp
                                    with_reducible rfl
                                   rotate_left
                                   ·
                                    simp only [Act.put, List.setIfInBounds_toArray, List.set_cons_zero, List.set_cons_succ, i64_w, i32_w]
                                    rfl
                                   refine take_ (i := 4) (N := some 176) (v := ?_) (a' := ?_) #[true, true, true, true, true, false, false, false, false, false, false] rfl rfl (take_ofW HT_.out HW_.out (by kernel_rfl)) (fun _ _ _ h => h) (Or.inl ⟨by rfl, ?_⟩) hHeld ?_ ?_
                                   rotate_left
                                   ·
                                    rintro w' ⟨s0, s1, s2⟩
                                    go_simp
                                    with_reducible rfl
                                   rotate_left
                                   ·
                                    simp only [Act.put, List.setIfInBounds_toArray, List.set_cons_zero, List.set_cons_succ, i64_w, i32_w]
                                    rfl
                                   refine one_ (i := 5) (N := some 177) #[true, true, true, true, true, true, false, false, false, false, false] rfl rfl (one_of HT_.out (by kernel_rfl)) (by decide) (fun K hK => ?_)
                                   refine goes_ Try.func8 (by kernel_rfl) rfl #[.agg #[.int .i64 t501, .bool t502], .slice A542_0 (rd_L2 t503 x27_8).length c542_0] (by rfl) rfl rfl gq ?_
                                   with_reducible refine (impl_FirstVisits.calls k8 t501 t502 _ _ (rd_L2 t503 x27_8) t543 t546 _ ?side1 ?side2 A94.out).mono ?_
                                   (case side1 => repeat (first | exact (by repeat (first | (with_reducible exact HR542_0.out) | (with_reducible refine Kd.C_alloc ?_ _) | (with_reducible refine Kd.C_drewN ?_ _) | (with_reducible refine Kd.C_drew ?_) | exact HR542_0.out)) | (with_reducible refine Kd.C_alloc ?_ _) | (with_reducible refine Kd.C_drewN ?_ _) | (with_reducible refine Kd.C_drew ?_)))
                                   (case side2 => exact HC542_0.out)
                                   rintro e w97 ⟨v544, rfl, ho0, hb⟩
                                   have HS2_ := (hb.cell (World.block_lt_of_cell? _ _ (hHeld.2.2))).trans (hHeld.2.2)
                                   refine ⟨_, rfl, ?_⟩
                                   have n0_ := A_ (Kd.S_elder' (sq HO_4) (Kd.R_base ho0) hb)
                                   have n1_ := A_ (Kd.R_elder' (rq HO_5) (Kd.R_base ho0) hb)
                                   have n2_ := A_ (Kd.R_elder' (by (with_reducible repeat (first | apply Kd.R_alloc | apply Kd.R_drewN | apply Kd.R_drew)); exact HL542_0.out) (Kd.R_base ho0) hb)
                                   have n3_ := A_ (Kd.R_lower (Kd.R_new' (Kd.R_new' ho0 (Kd.R_lt (rq HO_5))) (Kd.R_lt (by (with_reducible repeat (first | apply Kd.R_alloc | apply Kd.R_drewN | apply Kd.R_drew)); exact HL542_0.out))) (below_size (hq HB)))
                                   have n4_ := A_ (blk_below (bq BK506) hb)
                                   have n5_ := A_ (blk_below (bq BK523) hb)
                                   have n6_ := A_ (Kd.C_below (by repeat (first | (with_reducible exact HR542_0.out) | (with_reducible refine Kd.C_alloc ?_ _) | (with_reducible refine Kd.C_drewN ?_ _) | (with_reducible refine Kd.C_drew ?_) | exact HR542_0.out)) hb)
                                   have n7_ := A_ (below_step (hq HB) hb)
                                   clear HO_4 HO_5 HL542_0 BK506 BK523 HR542_0 HB; have HO_4 := n0_; have HO_5 := n1_; have HL542_0 := n2_; have HO545 := n3_; have BK506 := n4_; have BK523 := n5_; have HR542_0 := n6_; have HB := n7_; clear n0_ n1_ n2_ n3_ n4_ n5_ n6_ n7_; (try clear hb); (try clear hb2); (try clear hk); (try clear hi); (try clear ho0)
                                   refine hK.out _ _ ⟨bc BK506 0, bc BK506 1, HS2_⟩ (fun hHeld => ?_)
                                   clear hK K
                                   refine norm_ (a' := ?_) ?_ ?_
                                   rotate_left
                                   ·
                                    exact pq (d := some 177)
                                   refine pure_ (i := 6) (N := some 171) (v := ?_) (a' := ?_) #[true, true, true, true, true, true, true, false, false, false, false] rfl rfl (any_of HT_.out (by kernel_rfl)) (fun _ _ _ h => h) (Or.inl ⟨by rfl, ?_⟩) ?_ ?_
                                   rotate_left
                                   ·
                                    intro w'
                                    go_simp
                                    with_reducible rfl
                                   rotate_left
                                   ·
                                    simp only [Act.put, List.setIfInBounds_toArray, List.set_cons_zero, List.set_cons_succ, i64_w, i32_w]
                                    rfl
                                   refine pure_ (i := 7) (N := some 178) (v := ?_) (a' := ?_) #[true, true, true, true, true, true, true, true, false, false, false] rfl rfl (any_of HT_.out (by kernel_rfl)) (fun _ _ _ h => h) (Or.inl ⟨by rfl, ?_⟩) ?_ ?_
                                   rotate_left
                                   ·
                                    intro w'
                                    go_simp
                                    with_reducible rfl
                                   rotate_left
                                   ·
                                    simp only [Act.put, List.setIfInBounds_toArray, List.set_cons_zero, List.set_cons_succ, i64_w, i32_w]
                                    rfl
                                   refine pure_ (i := 8) (N := some 179) (v := ?_) (a' := ?_) #[true, true, true, true, true, true, true, true, true, false, false] rfl rfl (any_of HT_.out (by kernel_rfl)) (fun _ _ _ h => h) (Or.inl ⟨by rfl, ?_⟩) ?_ ?_
                                   rotate_left
                                   ·
                                    intro w'
                                    go_simp
                                    with_reducible rfl
                                   rotate_left
                                   ·
                                    simp only [Act.put, List.setIfInBounds_toArray, List.set_cons_zero, List.set_cons_succ, i64_w, i32_w]
                                    rfl
                                   refine pure_ (i := 9) (N := some 28) (v := ?_) (a' := ?_) #[true, true, true, true, true, true, true, true, true, true, false] rfl rfl (any_of HT_.out (by kernel_rfl)) (fun _ _ _ h => h) (Or.inl ⟨by rfl, ?_⟩) ?_ ?_
                                   rotate_left
                                   ·
                                    intro w'
                                    go_simp
                                    with_reducible rfl
                                   rotate_left
                                   ·
                                    simp only [Act.put, List.setIfInBounds_toArray, List.set_cons_zero, List.set_cons_succ, i64_w, i32_w]
                                    rfl
                                   refine pure_ (i := 10) (N := some 29) (v := ?_) (a' := ?_) #[true, true, true, true, true, true, true, true, true, true, true] rfl rfl (any_of HT_.out (by kernel_rfl)) (fun _ _ _ h => h) (Or.inl ⟨by rfl, ?_⟩) ?_ ?_
                                   rotate_left
                                   ·
                                    intro w'
                                    go_simp
                                    with_reducible rfl
                                   rotate_left
                                   ·
                                    simp only [Act.put, List.setIfInBounds_toArray, List.set_cons_zero, List.set_cons_succ, i64_w, i32_w]
                                    rfl
                                   refine done_ (done_of HT_.out (by kernel_rfl)) ?_
                                   go_upto_region 36 with (fail)
                                   go_cut [188] (fun v188 wc => ∃ (kq : Nat) (x188_94 : Bool), v188 = .bool x188_94 ∧ Aside0 (laws_FnLeaving.j8 kq t503 t507 t516 t517 x23_88 x24_79 x25_5 x26_8 x27_8 t543 x188_94 t501 t502 = some r) ∧ Aside0 (kq ≤ k8) ∧ Aside0 (Kd.S (Kd.slice 3 (Kd.int .i64)) 26 wc w.heap.size (fun k_ => some k_ ≠ ((.slice (some ad538) t507.length co90) : Value).ownBlock ∧ some k_ ≠ (v544 : Value).ownBlock) (.slice (some ad542) t503.length co11) t503) ∧ Aside0 (Kd.R (Kd.int .i64) 3 wc w.heap.size (fun k_ => some k_ ≠ (v544 : Value).ownBlock) (.slice (some ad538) t507.length co90) t507) ∧ Aside0 (Kd.R (Kd.int .i64) 3 wc w.heap.size (fun k_ => some k_ ≠ ((.slice (some ad538) t507.length co90) : Value).ownBlock) v544 t543) ∧ Aside0 (wc.heap[gb506]? = some (.cells #[.int .i64 t501, .bool t502] 25 (0, 0))) ∧ Aside0 (wc.heap[gb523]? = some (.cells #[.int .i64 t520, .bool t521] 25 (0, 0))) ∧ Aside0 (Kd.C (Kd.int .i64) wc A542_0 (rd_L2 t503 x27_8).length (rd_L2 t503 x27_8)) ∧ Aside0 (Below w.heap.size w wc))
                                   case first =>
                                    as_aux_lemma =>
                                     have H := HC95.out
                                     clear HC95
                                     by_cases c98 : t546 = true
                                     ·
                                      subst c98
                                      have H1 : (laws_FnLeaving.j8 k8 t503 t507 t516 t517 x23_88 x24_79 x25_5 x26_8 x27_8 t543 ((t543.length : Int) != t501) t501 t502) = some r := by rw [if_pos rfl] at H; exact H
                                      clear H
                                      have H := H1
                                      clear H1
                                      have H' := A_ H
                                      clear H
                                      obtain ⟨Ao99, co99, eo99⟩ := Kd.R_slice HO545.out
                                      subst eo99
                                      have hnb100 := NB506_523.out
                                      have hnc100 := NB523_506.out
                                      have hcz101_0 : w97.cell? ⟨gb506, 0, none⟩ = some (.int .i64 t501) := bc BK506 0
                                      have hcz101_1 : w97.cell? ⟨gb506, 1, none⟩ = some (.bool t502) := bc BK506 1
                                      have hfz101_0 := blk_frozen BK506.out 0
                                      have hfz101_1 := blk_frozen BK506.out 1
                                      go_wp2
                                      go_meet
                                      case rel => exact ⟨_, (((t543.length : Int) != t501)), (by first | rfl | (simp; done) | (simp [*]; done)), H', ⟨by have := HJ6.out; have := HJ21.out; have := HJ33.out; have := HJ46.out; have := HK5.out; have := HJ79.out; have := HJ88.out; have := HK8.out; first | omega | exact Nat.le_refl _⟩, ⟨sq HO_4⟩, ⟨by (with_reducible repeat (first | apply Kd.R_alloc | apply Kd.R_drewN | apply Kd.R_drew)); exact Kd.R_mono HO_5.out (fun _ => cj)⟩, ⟨by (with_reducible repeat (first | apply Kd.R_alloc | apply Kd.R_drewN | apply Kd.R_drew)); exact Kd.R_mono HO545.out (fun _ => cj)⟩, ⟨bq BK506⟩, ⟨bq BK523⟩, ⟨by repeat (first | (with_reducible exact HR542_0.out) | (with_reducible refine Kd.C_alloc ?_ _) | (with_reducible refine Kd.C_drewN ?_ _) | (with_reducible refine Kd.C_drew ?_) | exact HR542_0.out)⟩, ⟨hq HB⟩⟩
                                     ·
                                      replace c98 := Bool.eq_false_iff.mpr c98
                                      subst c98
                                      have H1 : (laws_FnLeaving.j8 k8 t503 t507 t516 t517 x23_88 x24_79 x25_5 x26_8 x27_8 t543 true t501 t502) = some r := by rw [if_neg (show ¬ (false = true) by decide)] at H; exact H
                                      clear H
                                      have H := H1
                                      clear H1
                                      have H' := A_ H
                                      clear H
                                      go_wp2
                                      go_meet
                                      case rel => exact ⟨_, (true), (by first | rfl | (simp; done) | (simp [*]; done)), H', ⟨by have := HJ6.out; have := HJ21.out; have := HJ33.out; have := HJ46.out; have := HK5.out; have := HJ79.out; have := HJ88.out; have := HK8.out; first | omega | exact Nat.le_refl _⟩, ⟨sq HO_4⟩, ⟨by (with_reducible repeat (first | apply Kd.R_alloc | apply Kd.R_drewN | apply Kd.R_drew)); exact Kd.R_mono HO_5.out (fun _ => cj)⟩, ⟨by (with_reducible repeat (first | apply Kd.R_alloc | apply Kd.R_drewN | apply Kd.R_drew)); exact Kd.R_mono HO545.out (fun _ => cj)⟩, ⟨bq BK506⟩, ⟨bq BK523⟩, ⟨by repeat (first | (with_reducible exact HR542_0.out) | (with_reducible refine Kd.C_alloc ?_ _) | (with_reducible refine Kd.C_drewN ?_ _) | (with_reducible refine Kd.C_drew ?_) | exact HR542_0.out)⟩, ⟨hq HB⟩⟩
                                   case rest =>
                                    as_aux_lemma =>
                                     clear HC95
                                     try clear c1
                                     try clear c2
                                     try clear p2
                                     try clear c3
                                     try clear c4
                                     try clear c5
                                     try clear p5
                                     try clear q5
                                     try clear hx5
                                     try clear c6
                                     try clear c7
                                     try clear c8
                                     try clear c9
                                     try clear c10
                                     try clear c15
                                     try clear c15b0
                                     try clear c15b1
                                     try clear c15b2
                                     try clear c19
                                     try clear c27
                                     try clear c27b0
                                     try clear c27b1
                                     try clear c28
                                     try clear c28b0
                                     try clear c28b1
                                     try clear c28b2
                                     try clear c29
                                     try clear c30
                                     try clear c31
                                     try clear c32
                                     try clear c33
                                     try clear c34
                                     try clear c35
                                     try clear c36
                                     try clear c37
                                     try clear c42
                                     try clear c42b0
                                     try clear c42b1
                                     try clear c42b2
                                     try clear c46
                                     try clear c48
                                     try clear c51
                                     try clear c52
                                     try clear c53
                                     try clear c53b0
                                     try clear c53b1
                                     try clear p53
                                     try clear q53
                                     try clear hx53
                                     try clear c54
                                     try clear p54
                                     try clear q54
                                     try clear hx54
                                     try clear c60
                                     try clear c66
                                     try clear c72
                                     try clear c78
                                     try clear c79
                                     try clear c79b0
                                     try clear c81
                                     try clear c83
                                     try clear c84
                                     try clear c84b0
                                     try clear c85
                                     try clear c85b0
                                     try clear c87
                                     try clear c87b0
                                     try clear c88
                                     try clear c88b0
                                     try clear c91
                                     try clear c91b0
                                     try clear c92
                                     try clear c92b0
                                     try clear c93
                                     try clear c93b0
                                     try clear c98
                                     try clear c100
                                     try clear hcz101_0
                                     try clear hcz101_1
                                     try clear hcz10_0
                                     try clear hcz10_1
                                     try clear hcz13_0
                                     try clear hcz13_1
                                     try clear hcz23_0
                                     try clear hcz23_1
                                     try clear hcz25_0
                                     try clear hcz25_1
                                     try clear hcz38_0
                                     try clear hcz38_1
                                     try clear hcz40_0
                                     try clear hcz40_1
                                     try clear hcz55_0
                                     try clear hcz55_1
                                     try clear hcz58_0
                                     try clear hcz58_1
                                     try clear hcz61_0
                                     try clear hcz61_1
                                     try clear hcz64_0
                                     try clear hcz64_1
                                     try clear hcz67_0
                                     try clear hcz67_1
                                     try clear hcz70_0
                                     try clear hcz70_1
                                     try clear hcz73_0
                                     try clear hcz73_1
                                     try clear hcz76_0
                                     try clear hcz76_1
                                     try clear hcz82_0
                                     try clear hcz82_1
                                     try clear hfz101_0
                                     try clear hfz101_1
                                     try clear hfz10_0
                                     try clear hfz10_1
                                     try clear hfz13_0
                                     try clear hfz13_1
                                     try clear hfz23_0
                                     try clear hfz23_1
                                     try clear hfz25_0
                                     try clear hfz25_1
                                     try clear hfz38_0
                                     try clear hfz38_1
                                     try clear hfz40_0
                                     try clear hfz40_1
                                     try clear hfz55_0
                                     try clear hfz55_1
                                     try clear hfz58_0
                                     try clear hfz58_1
                                     try clear hfz61_0
                                     try clear hfz61_1
                                     try clear hfz64_0
                                     try clear hfz64_1
                                     try clear hfz67_0
                                     try clear hfz67_1
                                     try clear hfz70_0
                                     try clear hfz70_1
                                     try clear hfz73_0
                                     try clear hfz73_1
                                     try clear hfz76_0
                                     try clear hfz76_1
                                     try clear hfz82_0
                                     try clear hfz82_1
                                     try clear hx537_0
                                     try clear hx538_0
                                     try clear hx539_0
                                     try clear hx542_0
                                     try clear p2
                                     try clear p5
                                     try clear p53
                                     try clear p537
                                     try clear p538
                                     try clear p539
                                     try clear p542
                                     try clear q5
                                     try clear q53
                                     try clear q537
                                     try clear q538
                                     try clear q539
                                     try clear q542
                                     obtain ⟨kq, x188_94, rfl, HA, HJ94, HO_4, HO_5, HO_28, BK506, BK523, HR542_0, HB⟩ := hcut
                                     cases kq with
                                     | zero => exact absurd HA.out (by simp [laws_FnLeaving.j8])
                                     | succ kj94 =>
                                      have H := HA.out
                                      clear HA
                                      simp only [laws_FnLeaving.j8] at H
                                      by_cases c102 : x188_94 = true
                                      ·
                                       subst c102
                                       have H1 : (some false) = some r := by rw [if_pos rfl] at H; exact H
                                       clear H
                                       have H := H1
                                       clear H1
                                       obtain rfl := Option.some.inj H
                                       exact absurd hr_ (by decide)
                                      ·
                                       as_aux_lemma =>
                                        replace c102 := Bool.eq_false_iff.mpr c102
                                        subst c102
                                        have H1 : (if 0 ≤ x25_5 then (if x25_5 < (t543.length : Int) then (if (rd t543 x25_5) ≥ 0 then (if x26_8 < 0 then (laws_FnLeaving.l1 kj94 t503 t507 t516 t517 x23_88 x24_79 x25_5 (rd t543 x25_5) (wrap64 (x27_8 + 1)) t501 t502) else (if (rd t543 x25_5) < x26_8 then (laws_FnLeaving.l1 kj94 t503 t507 t516 t517 x23_88 x24_79 x25_5 (rd t543 x25_5) (wrap64 (x27_8 + 1)) t501 t502) else (laws_FnLeaving.l1 kj94 t503 t507 t516 t517 x23_88 x24_79 x25_5 x26_8 (wrap64 (x27_8 + 1)) t501 t502))) else (laws_FnLeaving.l1 kj94 t503 t507 t516 t517 x23_88 x24_79 x25_5 x26_8 (wrap64 (x27_8 + 1)) t501 t502)) else (none)) else (none)) = some r := by rw [if_neg (show ¬ (false = true) by decide)] at H; exact H
                                        clear H
                                        have H := H1
                                        clear H1
                                        by_cases c103 : 0 ≤ x25_5
                                        ·
                                         rw [if_pos c103] at H
                                         have c103b0 : decide (0 ≤ x25_5) = true := decide_eq_true c103
                                         clear c103
                                         by_cases c104 : x25_5 < (t543.length : Int)
                                         ·
                                          rw [if_pos c104] at H
                                          have c104b0 : decide (x25_5 < (t543.length : Int)) = true := decide_eq_true c104
                                          clear c104
                                          by_cases c105 : (rd t543 x25_5) ≥ 0
                                          ·
                                           rw [if_pos c105] at H
                                           have c105b0 : decide (0 ≤ (rd t543 x25_5)) = true := decide_eq_true c105
                                           clear c105
                                           by_cases c106 : x26_8 < 0
                                           ·
                                            rw [if_pos c106] at H
                                            have c106b0 : decide (x26_8 < 0) = true := decide_eq_true c106
                                            clear c106
                                            have H' := A_ H
                                            clear H
                                            obtain ⟨Ao107, co107, eo107⟩ := Kd.R_slice HO_28.out
                                            subst eo107
                                            have p547 : 0 ≤ (x25_5 : Int) := of_decide_eq_true (by first | (with_reducible assumption) | assumption)
                                            have q547 : x25_5 < (t543.length : Int) := of_decide_eq_true (by first | (with_reducible assumption) | assumption)
                                            obtain ⟨ad547, e547, hx547_0⟩ := Kd.at_int (Kd.R_reads' HO_28.out).2.2 x25_5 p547 q547
                                            cases e547
                                            replace p547 := eq_true p547
                                            replace q547 := eq_true q547
                                            have p548 : 0 ≤ (x25_5 : Int) := of_decide_eq_true (by first | (with_reducible assumption) | assumption)
                                            have q548 : x25_5 < (t543.length : Int) := of_decide_eq_true (by first | (with_reducible assumption) | assumption)
                                            obtain ⟨ad548, e548, hx548_0⟩ := Kd.at_int (Kd.R_reads' HO_28.out).2.2 x25_5 p548 q548
                                            obtain rfl : ad547 = ad548 := (by injection e548)
                                            replace p548 := eq_true p548
                                            replace q548 := eq_true q548
                                            go_wp2
                                            go_roundg kj94
                                            case measure => have := HJ6.out; have := HJ21.out; have := HJ33.out; have := HJ46.out; have := HK5.out; have := HJ79.out; have := HJ88.out; have := HK8.out; have := HJ94.out; omega
                                            case rel => exact ⟨(rd t543 x25_5), (wrap64 (x27_8 + 1)), (by first | rfl | (simp; done) | (simp [*]; done)), (by first | rfl | (simp; done) | (simp [*]; done)), H', ⟨by have := HJ6.out; have := HJ21.out; have := HJ33.out; have := HJ46.out; have := HK5.out; have := HJ79.out; have := HJ88.out; have := HK8.out; have := HJ94.out; omega⟩, ⟨by (with_reducible repeat (first | apply Kd.S_alloc | apply Kd.S_drewN | apply Kd.S_drew)); exact Kd.S_mono HO_4.out (fun _ => cj)⟩, ⟨by (with_reducible repeat (first | apply Kd.R_alloc | apply Kd.R_drewN | apply Kd.R_drew)); exact Kd.R_mono HO_5.out (fun _ hk => trivial)⟩, ⟨bq BK506⟩, ⟨bq BK523⟩, ⟨hq HB⟩⟩
                                           ·
                                            rw [if_neg c106] at H
                                            have c106b0 : decide (x26_8 < 0) = false := decide_eq_false c106
                                            clear c106
                                            by_cases c108 : (rd t543 x25_5) < x26_8
                                            ·
                                             rw [if_pos c108] at H
                                             have c108b0 : decide ((rd t543 x25_5) < x26_8) = true := decide_eq_true c108
                                             clear c108
                                             have H' := A_ H
                                             clear H
                                             obtain ⟨Ao109, co109, eo109⟩ := Kd.R_slice HO_28.out
                                             subst eo109
                                             have p547 : 0 ≤ (x25_5 : Int) := of_decide_eq_true (by first | (with_reducible assumption) | assumption)
                                             have q547 : x25_5 < (t543.length : Int) := of_decide_eq_true (by first | (with_reducible assumption) | assumption)
                                             obtain ⟨ad547, e547, hx547_0⟩ := Kd.at_int (Kd.R_reads' HO_28.out).2.2 x25_5 p547 q547
                                             cases e547
                                             replace p547 := eq_true p547
                                             replace q547 := eq_true q547
                                             have p549 : 0 ≤ (x25_5 : Int) := of_decide_eq_true (by first | (with_reducible assumption) | assumption)
                                             have q549 : x25_5 < (t543.length : Int) := of_decide_eq_true (by first | (with_reducible assumption) | assumption)
                                             obtain ⟨ad549, e549, hx549_0⟩ := Kd.at_int (Kd.R_reads' HO_28.out).2.2 x25_5 p549 q549
                                             obtain rfl : ad547 = ad549 := (by injection e549)
                                             replace p549 := eq_true p549
                                             replace q549 := eq_true q549
                                             have p550 : 0 ≤ (x25_5 : Int) := of_decide_eq_true (by first | (with_reducible assumption) | assumption)
                                             have q550 : x25_5 < (t543.length : Int) := of_decide_eq_true (by first | (with_reducible assumption) | assumption)
                                             obtain ⟨ad550, e550, hx550_0⟩ := Kd.at_int (Kd.R_reads' HO_28.out).2.2 x25_5 p550 q550
                                             obtain rfl : ad547 = ad550 := (by injection e550)
                                             replace p550 := eq_true p550
                                             replace q550 := eq_true q550
                                             go_wp2
                                             go_roundg kj94
                                             case measure => have := HJ6.out; have := HJ21.out; have := HJ33.out; have := HJ46.out; have := HK5.out; have := HJ79.out; have := HJ88.out; have := HK8.out; have := HJ94.out; omega
                                             case rel => exact ⟨(rd t543 x25_5), (wrap64 (x27_8 + 1)), (by first | rfl | (simp; done) | (simp [*]; done)), (by first | rfl | (simp; done) | (simp [*]; done)), H', ⟨by have := HJ6.out; have := HJ21.out; have := HJ33.out; have := HJ46.out; have := HK5.out; have := HJ79.out; have := HJ88.out; have := HK8.out; have := HJ94.out; omega⟩, ⟨by (with_reducible repeat (first | apply Kd.S_alloc | apply Kd.S_drewN | apply Kd.S_drew)); exact Kd.S_mono HO_4.out (fun _ => cj)⟩, ⟨by (with_reducible repeat (first | apply Kd.R_alloc | apply Kd.R_drewN | apply Kd.R_drew)); exact Kd.R_mono HO_5.out (fun _ hk => trivial)⟩, ⟨bq BK506⟩, ⟨bq BK523⟩, ⟨hq HB⟩⟩
                                            ·
                                             rw [if_neg c108] at H
                                             have c108b0 : decide ((rd t543 x25_5) < x26_8) = false := decide_eq_false c108
                                             clear c108
                                             have H' := A_ H
                                             clear H
                                             obtain ⟨Ao110, co110, eo110⟩ := Kd.R_slice HO_28.out
                                             subst eo110
                                             have p547 : 0 ≤ (x25_5 : Int) := of_decide_eq_true (by first | (with_reducible assumption) | assumption)
                                             have q547 : x25_5 < (t543.length : Int) := of_decide_eq_true (by first | (with_reducible assumption) | assumption)
                                             obtain ⟨ad547, e547, hx547_0⟩ := Kd.at_int (Kd.R_reads' HO_28.out).2.2 x25_5 p547 q547
                                             cases e547
                                             replace p547 := eq_true p547
                                             replace q547 := eq_true q547
                                             have p549 : 0 ≤ (x25_5 : Int) := of_decide_eq_true (by first | (with_reducible assumption) | assumption)
                                             have q549 : x25_5 < (t543.length : Int) := of_decide_eq_true (by first | (with_reducible assumption) | assumption)
                                             obtain ⟨ad549, e549, hx549_0⟩ := Kd.at_int (Kd.R_reads' HO_28.out).2.2 x25_5 p549 q549
                                             obtain rfl : ad547 = ad549 := (by injection e549)
                                             replace p549 := eq_true p549
                                             replace q549 := eq_true q549
                                             go_wp2
                                             go_roundg kj94
                                             case measure => have := HJ6.out; have := HJ21.out; have := HJ33.out; have := HJ46.out; have := HK5.out; have := HJ79.out; have := HJ88.out; have := HK8.out; have := HJ94.out; omega
                                             case rel => exact ⟨(x26_8), (wrap64 (x27_8 + 1)), (by first | rfl | (simp; done) | (simp [*]; done)), (by first | rfl | (simp; done) | (simp [*]; done)), H', ⟨by have := HJ6.out; have := HJ21.out; have := HJ33.out; have := HJ46.out; have := HK5.out; have := HJ79.out; have := HJ88.out; have := HK8.out; have := HJ94.out; omega⟩, ⟨by (with_reducible repeat (first | apply Kd.S_alloc | apply Kd.S_drewN | apply Kd.S_drew)); exact Kd.S_mono HO_4.out (fun _ => cj)⟩, ⟨by (with_reducible repeat (first | apply Kd.R_alloc | apply Kd.R_drewN | apply Kd.R_drew)); exact Kd.R_mono HO_5.out (fun _ hk => trivial)⟩, ⟨bq BK506⟩, ⟨bq BK523⟩, ⟨hq HB⟩⟩
                                          ·
                                           rw [if_neg c105] at H
                                           have c105b0 : decide (0 ≤ (rd t543 x25_5)) = false := decide_eq_false c105
                                           clear c105
                                           have H' := A_ H
                                           clear H
                                           obtain ⟨Ao111, co111, eo111⟩ := Kd.R_slice HO_28.out
                                           subst eo111
                                           have p547 : 0 ≤ (x25_5 : Int) := of_decide_eq_true (by first | (with_reducible assumption) | assumption)
                                           have q547 : x25_5 < (t543.length : Int) := of_decide_eq_true (by first | (with_reducible assumption) | assumption)
                                           obtain ⟨ad547, e547, hx547_0⟩ := Kd.at_int (Kd.R_reads' HO_28.out).2.2 x25_5 p547 q547
                                           cases e547
                                           replace p547 := eq_true p547
                                           replace q547 := eq_true q547
                                           go_wp2
                                           go_roundg kj94
                                           case measure => have := HJ6.out; have := HJ21.out; have := HJ33.out; have := HJ46.out; have := HK5.out; have := HJ79.out; have := HJ88.out; have := HK8.out; have := HJ94.out; omega
                                           case rel => exact ⟨(x26_8), (wrap64 (x27_8 + 1)), (by first | rfl | (simp; done) | (simp [*]; done)), (by first | rfl | (simp; done) | (simp [*]; done)), H', ⟨by have := HJ6.out; have := HJ21.out; have := HJ33.out; have := HJ46.out; have := HK5.out; have := HJ79.out; have := HJ88.out; have := HK8.out; have := HJ94.out; omega⟩, ⟨by (with_reducible repeat (first | apply Kd.S_alloc | apply Kd.S_drewN | apply Kd.S_drew)); exact Kd.S_mono HO_4.out (fun _ => cj)⟩, ⟨by (with_reducible repeat (first | apply Kd.R_alloc | apply Kd.R_drewN | apply Kd.R_drew)); exact Kd.R_mono HO_5.out (fun _ hk => trivial)⟩, ⟨bq BK506⟩, ⟨bq BK523⟩, ⟨hq HB⟩⟩
                                         ·
                                          rw [if_neg c104] at H
                                          exact absurd H (by simp)
                                        ·
                                         rw [if_neg c103] at H
                                         exact absurd H (by simp)
                                  ·
                                   rw [if_neg c93] at H
                                   exact absurd H (by simp)
                                 ·
                                  as_aux_lemma =>
                                   rw [if_neg c92] at H
                                   have c92b0 : decide (x27_8 < (t503.length : Int)) = false := decide_eq_false c92
                                   clear c92
                                   by_cases c112 : 0 ≤ x25_5
                                   ·
                                    rw [if_pos c112] at H
                                    have c112b0 : decide (0 ≤ x25_5) = true := decide_eq_true c112
                                    clear c112
                                    by_cases c113 : x25_5 < (t507.length : Int)
                                    ·
                                     rw [if_pos c113] at H
                                     have c113b0 : decide (x25_5 < (t507.length : Int)) = true := decide_eq_true c113
                                     clear c113
                                     by_cases c114 : ((decide (x26_8 < 0)) != (decide ((rd t507 x25_5) < 0))) = true
                                     ·
                                      rw [if_pos c114] at H
                                      have c114b0 : ((decide (x26_8 < 0)) != (decide ((rd t507 x25_5) < 0))) = true := c114
                                      (try (have c114b1 : decide ((decide (x26_8 < 0)) = (decide ((rd t507 x25_5) < 0))) = false := by simpa using c114))
                                      (try (have c114b2 : ((decide (x26_8 < 0)) == (decide ((rd t507 x25_5) < 0))) = false := by simpa using c114))
                                      (try (have c114b3 : ¬ ((decide (x26_8 < 0)) = (decide ((rd t507 x25_5) < 0))) := by simpa using c114))
                                      clear c114
                                      exact absurd ((Option.some.inj H).trans hr_) (by decide)
                                     ·
                                      rw [if_neg c114] at H
                                      have c114b0 : ((decide (x26_8 < 0)) != (decide ((rd t507 x25_5) < 0))) = false := by simpa using c114
                                      (try (have c114b1 : decide ((decide (x26_8 < 0)) = (decide ((rd t507 x25_5) < 0))) = true := by simpa using c114))
                                      (try (have c114b2 : ((decide (x26_8 < 0)) == (decide ((rd t507 x25_5) < 0))) = true := by simpa using c114))
                                      clear c114
                                      by_cases c115 : (rd t507 x25_5) < x26_8
                                      ·
                                       rw [if_pos c115] at H
                                       have c115b0 : decide ((rd t507 x25_5) < x26_8) = true := decide_eq_true c115
                                       clear c115
                                       exact absurd ((Option.some.inj H).trans hr_) (by decide)
                                      ·
                                       rw [if_neg c115] at H
                                       have c115b0 : decide ((rd t507 x25_5) < x26_8) = false := decide_eq_false c115
                                       clear c115
                                       have H' := A_ H
                                       clear H
                                       have p540 : 0 ≤ (x25_5 : Int) := of_decide_eq_true (by first | (with_reducible assumption) | assumption)
                                       have q540 : x25_5 < (t507.length : Int) := of_decide_eq_true (by first | (with_reducible assumption) | assumption)
                                       obtain ⟨ad540, e540, hx540_0⟩ := Kd.at_int (Kd.R_reads' HO_5.out).2.2 x25_5 p540 q540
                                       obtain rfl : ad538 = ad540 := (by injection e540)
                                       replace p540 := eq_true p540
                                       replace q540 := eq_true q540
                                       have p541 : 0 ≤ (x25_5 : Int) := of_decide_eq_true (by first | (with_reducible assumption) | assumption)
                                       have q541 : x25_5 < (t507.length : Int) := of_decide_eq_true (by first | (with_reducible assumption) | assumption)
                                       obtain ⟨ad541, e541, hx541_0⟩ := Kd.at_int (Kd.R_reads' HO_5.out).2.2 x25_5 p541 q541
                                       obtain rfl : ad538 = ad541 := (by injection e541)
                                       replace p541 := eq_true p541
                                       replace q541 := eq_true q541
                                       go_wp2
                                       go_roundg k8
                                       case measure => have := HJ6.out; have := HJ21.out; have := HJ33.out; have := HJ46.out; have := HK5.out; have := HJ79.out; have := HJ88.out; have := HK8.out; omega
                                       case rel => exact ⟨(x23_88), (x24_79), (wrap64 (x25_5 + 1)), (by first | rfl | (simp; done) | (simp [*]; done)), (by first | rfl | (simp; done) | (simp [*]; done)), (by first | rfl | (simp; done) | (simp [*]; done)), H', ⟨by have := HJ6.out; have := HJ21.out; have := HJ33.out; have := HJ46.out; have := HK5.out; have := HJ79.out; have := HJ88.out; have := HK8.out; omega⟩, ⟨sq HO_4⟩, ⟨rq HO_5⟩, ⟨bq BK506⟩, ⟨bq BK523⟩, ⟨hq HB⟩⟩
                                    ·
                                     rw [if_neg c113] at H
                                     exact absurd H (by simp)
                                   ·
                                    rw [if_neg c112] at H
                                    exact absurd H (by simp)
                          ·
                           rw [if_neg c88] at H
                           exact absurd H (by simp)
                         ·
                          rw [if_neg c87] at H
                          exact absurd H (by simp)
                     ·
                      rw [if_neg c79] at H
                      have c79b0 : decide (x25_5 < t501) = false := decide_eq_false c79
                      clear c79
                      have HC116 := A_ H
                      clear H
                      have hnb117 := NB506_523.out
                      have hnc117 := NB523_506.out
                      have hcz118_0 : wr.cell? ⟨gb506, 0, none⟩ = some (.int .i64 t501) := bc BK506 0
                      have hcz118_1 : wr.cell? ⟨gb506, 1, none⟩ = some (.bool t502) := bc BK506 1
                      have hfz118_0 := blk_frozen BK506.out 0
                      have hfz118_1 := blk_frozen BK506.out 1
                      go_upto_region 42 with (fail)
                      go_cut [236] (fun v236 wc => ∃ (kq : Nat) (x236_115 : Bool), v236 = .bool x236_115 ∧ Aside0 (laws_FnLeaving.j9 kq t503 x236_115 t501 t502 = some r) ∧ Aside0 (kq ≤ k5) ∧ Aside0 (Kd.S (Kd.slice 3 (Kd.int .i64)) 26 wc w.heap.size (fun _ => True) (.slice Ao11 t503.length co11) t503) ∧ Aside0 (wc.heap[gb506]? = some (.cells #[.int .i64 t501, .bool t502] 25 (0, 0))) ∧ Aside0 (wc.heap[gb523]? = some (.cells #[.int .i64 t520, .bool t521] 25 (0, 0))) ∧ Aside0 (Below w.heap.size w wc))
                      case first =>
                       as_aux_lemma =>
                        have H := HC116.out
                        clear HC116
                        by_cases c119 : (t517 == x24_5) = true
                        ·
                         rw [if_pos c119] at H
                         have c119b0 : (t517 == x24_5) = true := c119
                         (try (have c119b1 : decide (t517 = x24_5) = true := by simpa using c119))
                         (try (have c119b2 : (t517 == x24_5) = true := by simpa using c119))
                         clear c119
                         (first | rw [c119b0] | (simp only [i64_w, i32_w]; rw [c119b0]) | skip)
                         have H' := A_ H
                         clear H
                         go_wp2
                         go_meet
                         case rel => exact ⟨_, (true), (by first | rfl | (simp; done) | (simp [*]; done)), H', ⟨by have := HJ6.out; have := HJ21.out; have := HJ33.out; have := HJ46.out; have := HK5.out; first | omega | exact Nat.le_refl _⟩, ⟨by (with_reducible repeat (first | apply Kd.S_alloc | apply Kd.S_drewN | apply Kd.S_drew)); exact Kd.S_mono HO_4.out (fun _ hk => trivial)⟩, ⟨bq BK506⟩, ⟨bq BK523⟩, ⟨hq HB⟩⟩
                        ·
                         rw [if_neg c119] at H
                         have c119b0 : (t517 == x24_5) = false := by simpa using c119
                         (try (have c119b1 : decide (t517 = x24_5) = false := by simpa using c119))
                         (try (have c119b2 : (t517 == x24_5) = false := by simpa using c119))
                         (try (have c119b3 : ¬ (t517 = x24_5) := by simpa using c119))
                         clear c119
                         (first | rw [c119b0] | (simp only [i64_w, i32_w]; rw [c119b0]) | skip)
                         by_cases c120 : t517 = true
                         ·
                          subst c120
                          have H1 : (laws_FnLeaving.j9 k5 t503 (t516 != x23_5) t501 t502) = some r := by rw [if_pos rfl] at H; exact H
                          clear H
                          have H := H1
                          clear H1
                          have H' := A_ H
                          clear H
                          go_wp2
                          go_meet
                          case rel => exact ⟨_, ((t516 != x23_5)), (by first | rfl | (simp; done) | (simp [*]; done)), H', ⟨by have := HJ6.out; have := HJ21.out; have := HJ33.out; have := HJ46.out; have := HK5.out; first | omega | exact Nat.le_refl _⟩, ⟨by (with_reducible repeat (first | apply Kd.S_alloc | apply Kd.S_drewN | apply Kd.S_drew)); exact Kd.S_mono HO_4.out (fun _ hk => trivial)⟩, ⟨bq BK506⟩, ⟨bq BK523⟩, ⟨hq HB⟩⟩
                         ·
                          replace c120 := Bool.eq_false_iff.mpr c120
                          subst c120
                          have H1 : (laws_FnLeaving.j9 k5 t503 false t501 t502) = some r := by rw [if_neg (show ¬ (false = true) by decide)] at H; exact H
                          clear H
                          have H := H1
                          clear H1
                          have H' := A_ H
                          clear H
                          go_wp2
                          go_meet
                          case rel => exact ⟨_, (false), (by first | rfl | (simp; done) | (simp [*]; done)), H', ⟨by have := HJ6.out; have := HJ21.out; have := HJ33.out; have := HJ46.out; have := HK5.out; first | omega | exact Nat.le_refl _⟩, ⟨by (with_reducible repeat (first | apply Kd.S_alloc | apply Kd.S_drewN | apply Kd.S_drew)); exact Kd.S_mono HO_4.out (fun _ hk => trivial)⟩, ⟨bq BK506⟩, ⟨bq BK523⟩, ⟨hq HB⟩⟩
                      case rest =>
                       as_aux_lemma =>
                        clear HC116
                        try clear c1
                        try clear c2
                        try clear p2
                        try clear c3
                        try clear c4
                        try clear c5
                        try clear p5
                        try clear q5
                        try clear hx5
                        try clear c6
                        try clear p6
                        try clear c7
                        try clear c8
                        try clear c9
                        try clear c10
                        try clear c11
                        try clear c12
                        try clear c15
                        try clear c15b0
                        try clear c15b1
                        try clear c15b2
                        try clear c19
                        try clear c27
                        try clear c27b0
                        try clear c27b1
                        try clear c28
                        try clear c28b0
                        try clear c28b1
                        try clear c28b2
                        try clear c29
                        try clear c30
                        try clear c31
                        try clear c32
                        try clear c33
                        try clear c34
                        try clear c35
                        try clear c36
                        try clear c37
                        try clear c42
                        try clear c42b0
                        try clear c42b1
                        try clear c42b2
                        try clear c46
                        try clear c48
                        try clear c51
                        try clear c52
                        try clear c53
                        try clear c53b0
                        try clear c53b1
                        try clear p53
                        try clear q53
                        try clear hx53
                        try clear c54
                        try clear p54
                        try clear q54
                        try clear hx54
                        try clear p55
                        try clear q55
                        try clear hx55
                        try clear c60
                        try clear p64
                        try clear c66
                        try clear c72
                        try clear c78
                        try clear c79
                        try clear c79b0
                        try clear c81
                        try clear c83
                        try clear c84
                        try clear c84b0
                        try clear c85
                        try clear c85b0
                        try clear c87
                        try clear c87b0
                        try clear c88
                        try clear c88b0
                        try clear c91
                        try clear c91b0
                        try clear c92
                        try clear c92b0
                        try clear c93
                        try clear c93b0
                        try clear c98
                        try clear c100
                        try clear c102
                        try clear c103
                        try clear c103b0
                        try clear c104
                        try clear c104b0
                        try clear c105
                        try clear c105b0
                        try clear c106
                        try clear c106b0
                        try clear c108
                        try clear c108b0
                        try clear c112
                        try clear c112b0
                        try clear c113
                        try clear c113b0
                        try clear c114
                        try clear c114b0
                        try clear c114b1
                        try clear c114b2
                        try clear c115
                        try clear c115b0
                        try clear c117
                        try clear c119
                        try clear c119b0
                        try clear c119b1
                        try clear c119b2
                        try clear c120
                        try clear hcz101_0
                        try clear hcz101_1
                        try clear hcz10_0
                        try clear hcz10_1
                        try clear hcz118_0
                        try clear hcz118_1
                        try clear hcz13_0
                        try clear hcz13_1
                        try clear hcz23_0
                        try clear hcz23_1
                        try clear hcz25_0
                        try clear hcz25_1
                        try clear hcz38_0
                        try clear hcz38_1
                        try clear hcz40_0
                        try clear hcz40_1
                        try clear hcz55_0
                        try clear hcz55_1
                        try clear hcz58_0
                        try clear hcz58_1
                        try clear hcz61_0
                        try clear hcz61_1
                        try clear hcz64_0
                        try clear hcz64_1
                        try clear hcz67_0
                        try clear hcz67_1
                        try clear hcz70_0
                        try clear hcz70_1
                        try clear hcz73_0
                        try clear hcz73_1
                        try clear hcz76_0
                        try clear hcz76_1
                        try clear hcz82_0
                        try clear hcz82_1
                        try clear hfz101_0
                        try clear hfz101_1
                        try clear hfz10_0
                        try clear hfz10_1
                        try clear hfz118_0
                        try clear hfz118_1
                        try clear hfz13_0
                        try clear hfz13_1
                        try clear hfz23_0
                        try clear hfz23_1
                        try clear hfz25_0
                        try clear hfz25_1
                        try clear hfz38_0
                        try clear hfz38_1
                        try clear hfz40_0
                        try clear hfz40_1
                        try clear hfz55_0
                        try clear hfz55_1
                        try clear hfz58_0
                        try clear hfz58_1
                        try clear hfz61_0
                        try clear hfz61_1
                        try clear hfz64_0
                        try clear hfz64_1
                        try clear hfz67_0
                        try clear hfz67_1
                        try clear hfz70_0
                        try clear hfz70_1
                        try clear hfz73_0
                        try clear hfz73_1
                        try clear hfz76_0
                        try clear hfz76_1
                        try clear hfz82_0
                        try clear hfz82_1
                        try clear hx537_0
                        try clear hx538_0
                        try clear hx539_0
                        try clear hx540_0
                        try clear hx541_0
                        try clear hx542_0
                        try clear hx547_0
                        try clear hx548_0
                        try clear hx549_0
                        try clear hx550_0
                        try clear p2
                        try clear p5
                        try clear p53
                        try clear p537
                        try clear p538
                        try clear p539
                        try clear p54
                        try clear p540
                        try clear p541
                        try clear p542
                        try clear p547
                        try clear p548
                        try clear p549
                        try clear p550
                        try clear q5
                        try clear q53
                        try clear q537
                        try clear q538
                        try clear q539
                        try clear q54
                        try clear q540
                        try clear q541
                        try clear q542
                        try clear q547
                        try clear q548
                        try clear q549
                        try clear q550
                        obtain ⟨kq, x236_115, rfl, HA, HJ115, HO_4, BK506, BK523, HB⟩ := hcut
                        cases kq with
                        | zero => exact absurd HA.out (by simp [laws_FnLeaving.j9])
                        | succ kj115 =>
                         have H := HA.out
                         clear HA
                         simp only [laws_FnLeaving.j9] at H
                         by_cases c121 : x236_115 = true
                         ·
                          subst c121
                          have H1 : (some false) = some r := by rw [if_pos rfl] at H; exact H
                          clear H
                          have H := H1
                          clear H1
                          obtain rfl := Option.some.inj H
                          exact absurd hr_ (by decide)
                         ·
                          replace c121 := Bool.eq_false_iff.mpr c121
                          subst c121
                          have H1 : (if 0 < (t503.length : Int) then ((impl_CoverTime.f kj115 t501 t502 (rd_L2 t503 0)).bind fun bt552 => (if 1 ≤ (t503.length : Int) then ((impl_WorstLeave.f kj115 t501 t502 (t503.take 1)).bind fun bt558 => (if (bt552.2 == bt558.2) = true then (if bt552.2 = true then (some (bt552.1 == bt558.1)) else (some true)) else (some false))) else (none))) else (none)) = some r := by rw [if_neg (show ¬ (false = true) by decide)] at H; exact H
                          clear H
                          have H := H1
                          clear H1
                          by_cases c122 : 0 < (t503.length : Int)
                          ·
                           rw [if_pos c122] at H
                           have c122b0 : decide (0 < (t503.length : Int)) = true := decide_eq_true c122
                           have c122b1 : decide (0 < t503.length) = true := decide_eq_true (by omega)
                           clear c122
                           replace H := Option.bind_eq_some_iff.mp H
                           obtain ⟨⟨t552, t553⟩, A1230, H⟩ := H
                           replace H : (if 1 ≤ (t503.length : Int) then ((impl_WorstLeave.f kj115 t501 t502 (t503.take 1)).bind fun bt558 => (if (t553 == bt558.2) = true then (if t553 = true then (some (t552 == bt558.1)) else (some true)) else (some false))) else (none)) = some r := H
                           have A123 := A_ A1230
                           clear A1230
                           by_cases c124 : 1 ≤ (t503.length : Int)
                           ·
                            rw [if_pos c124] at H
                            have c124b0 := eq_true c124
                            have c124b1 : decide (1 ≤ (t503.length : Int)) = true := decide_eq_true c124
                            clear c124
                            obtain ⟨y554, hy554⟩ : ∃ y_ : List (List Int), y_ = (t503.take 1) := ⟨_, rfl⟩
                            replace H : ((impl_WorstLeave.f kj115 t501 t502 y554).bind fun bt558 => (if (t553 == bt558.2) = true then (if t553 = true then (some (t552 == bt558.1)) else (some true)) else (some false))) = some r := by first | (rw [hy554]; with_reducible exact H) | (have H2_ := (Option.bind_some _ _).symm.trans H; rw [hy554]; with_reducible exact H2_) | (have H2_ := (Option.bind_some _ _).symm.trans H; with_reducible exact H2_) | with_reducible exact H | (rw [hy554]; exact H) | exact H
                            have Ny554 := A_ hy554
                            clear hy554
                            replace H := Option.bind_eq_some_iff.mp H
                            obtain ⟨⟨t558, t559⟩, A1250, H⟩ := H
                            replace H : (if (t553 == t559) = true then (if t553 = true then (some (t552 == t558)) else (some true)) else (some false)) = some r := H
                            have A125 := A_ A1250
                            clear A1250
                            by_cases c126 : (t553 == t559) = true
                            ·
                             rw [if_pos c126] at H
                             have c126b0 : (t553 == t559) = true := c126
                             (try (have c126b1 : decide (t553 = t559) = true := by simpa using c126))
                             (try (have c126b2 : (t553 == t559) = true := by simpa using c126))
                             clear c126
                             by_cases c127 : t553 = true
                             ·
                              as_aux_lemma =>
                               subst c127
                               have H1 : (some (t552 == t558)) = some r := by rw [if_pos rfl] at H; exact H
                               clear H
                               have H := H1
                               clear H1
                               obtain rfl := Option.some.inj H
                               try go_wp2
                               have n0_ := A_ (Kd.S_drew HO_4.out)
                               have n1_ := A_ (blk_drew BK506.out)
                               have n2_ := A_ (blk_drew BK523.out)
                               have n3_ := A_ (below_drew1 HB.out)
                               clear HO_4 BK506 BK523 HB; have HO_4 := n0_; have BK506 := n1_; have BK523 := n2_; have HB := n3_; clear n0_ n1_ n2_ n3_
                               have p551 : 0 ≤ (0 : Int) := (by omega)
                               have q551 : 0 < (t503.length : Int) := of_decide_eq_true (by first | (with_reducible assumption) | assumption)
                               obtain ⟨ad551, A551_0, c551_0, e551, hx551_0, hl551_0, hi551_0⟩ := at_L2 (Kd.S_reads' HO_4.out).2.2 0 p551 q551
                               cases e551
                               obtain ⟨ce551, hce551, hMe551, hcc551⟩ := Kd.S_get HO_4.out [] 0 p551 (by first | exact q551 | exact of_decide_eq_true (by first | (with_reducible assumption) | assumption) | (have e_ := (Kd.S_reads' HO_4.out).1; omega))
                               obtain ⟨ve551_0, rfl, ge551_0⟩ := hMe551
                               have hv551_0 := hcc551 0 _ rfl
                               rw [Nat.add_zero, show ((Kd.slice 3 (Kd.int .i64))).sz = 1 from rfl, Nat.mul_one] at hv551_0
                               replace hv551_0 := Option.some.inj (hv551_0.symm.trans hx551_0)
                               rw [hv551_0] at ge551_0
                               have HL551_0 := A_ (show Kd.R (Kd.int .i64) 3 _ _ _ _ (rd_L2 t503 0) from ge551_0)
                               clear hv551_0 ge551_0 hcc551 hce551
                               have qi551 : (0 < t503.length) = True := eq_true (by omega)
                               (try rw [show ((0 : Int)).toNat = 0 from rfl] at hx551_0)
                               (try rw [Addr.add_zero'] at hx551_0)
                               have HR551_0 := A_ hi551_0
                               have HC551_0 := A_ hl551_0
                               clear hi551_0 hl551_0
                               replace p551 := eq_true p551
                               replace q551 := eq_true q551
                               refine start_ (n := 10) (S := fun w' => w'.cell? ⟨gb506, 0, none⟩ = some (.int .i64 t501) ∧ w'.cell? ⟨gb506, 1, none⟩ = some (.bool t502) ∧ w'.cell? ad551 = some (.slice A551_0 (rd_L2 t503 0).length c551_0)) (ds := []) #[false, false, false, false, false, false, false, false, false, false] (by kernel_rfl) rfl rfl ⟨bc BK506 0, bc BK506 1, hx551_0⟩ (fun hHeld => ?_); refine with_tabW laws_FnLeaving.tab44 laws_FnLeaving.bits44 (fun HT_ HW_ => ?_)
                               generalize wc.drew = w128 at HO_4 BK506 BK523 HB HL551_0 HR551_0 hx551_0 hHeld ⊢
                               refine pure_ (i := 1) (N := some 239) (v := ?_) (a' := ?_) #[false, true, false, false, false, false, false, false, false, false] rfl rfl (any_of HT_.out (by kernel_rfl)) (fun _ _ _ h => h) (Or.inl ⟨by rfl, ?_⟩) ?_ ?_
                               rotate_left
                               ·
                                intro w'
                                go_simp
                                with_reducible rfl
                               rotate_left
                               ·
                                simp only [Act.put, List.setIfInBounds_toArray, List.set_cons_zero, List.set_cons_succ, i64_w, i32_w]
                                rfl
                               refine pure_ (i := 2) (N := some 240) (v := ?_) (a' := ?_) #[false, true, true, false, false, false, false, false, false, false] rfl rfl (any_of HT_.out (by kernel_rfl)) (fun _ _ _ h => h) (Or.inl ⟨by rfl, ?_⟩) ?_ ?_
                               rotate_left
                               ·
                                intro w'
                                go_simp
                                with_reducible rfl
                               rotate_left
                               ·
                                simp only [Act.put, List.setIfInBounds_toArray, List.set_cons_zero, List.set_cons_succ, i64_w, i32_w]
                                rfl
                               refine take_ (i := 0) (N := some 238) (v := ?_) (a' := ?_) #[true, true, true, false, false, false, false, false, false, false] rfl rfl (take_ofW HT_.out HW_.out (by kernel_rfl)) (fun _ _ _ h => h) (Or.inl ⟨by rfl, ?_⟩) hHeld ?_ ?_
                               rotate_left
                               ·
                                rintro w' ⟨s0, s1, s2⟩
                                go_simp
                                with_reducible rfl
                               rotate_left
                               ·
                                simp only [Act.put, List.setIfInBounds_toArray, List.set_cons_zero, List.set_cons_succ, i64_w, i32_w]
                                rfl
                               refine take_ (i := 3) (N := some 241) (v := ?_) (a' := ?_) #[true, true, true, true, false, false, false, false, false, false] rfl rfl (take_ofW HT_.out HW_.out (by kernel_rfl)) (fun _ _ _ h => h) (Or.inl ⟨by rfl, ?_⟩) hHeld ?_ ?_
                               rotate_left
                               ·
                                rintro w' ⟨s0, s1, s2⟩
                                go_simp
                                with_reducible rfl
                               rotate_left
                               ·
                                simp only [Act.put, List.setIfInBounds_toArray, List.set_cons_zero, List.set_cons_succ, i64_w, i32_w]
                                rfl
                               refine one_ (i := 4) (N := some 242) #[true, true, true, true, true, false, false, false, false, false] rfl rfl (one_of HT_.out (by kernel_rfl)) (by decide) (fun K hK => ?_)
                               refine goes_ Try.func22 (by kernel_rfl) rfl #[.agg #[.int .i64 t501, .bool t502], .slice A551_0 (rd_L2 t503 0).length c551_0] (by rfl) rfl rfl gq ?_
                               with_reducible refine (impl_CoverTime.calls kj115 t501 t502 _ _ (rd_L2 t503 0) t552 true _ ?side1 ?side2 A123.out).mono ?_
                               (case side1 => repeat (first | exact (by repeat (first | (with_reducible exact HR551_0.out) | (with_reducible refine Kd.C_alloc ?_ _) | (with_reducible refine Kd.C_drewN ?_ _) | (with_reducible refine Kd.C_drew ?_) | exact HR551_0.out)) | (with_reducible refine Kd.C_alloc ?_ _) | (with_reducible refine Kd.C_drewN ?_ _) | (with_reducible refine Kd.C_drew ?_)))
                               (case side2 => exact HC551_0.out)
                               rintro e w129 ⟨rfl, hb⟩
                               have HS2_ := (hb.cell (World.block_lt_of_cell? _ _ (hHeld.2.2))).trans (hHeld.2.2)
                               refine ⟨_, rfl, ?_⟩
                               have n0_ := A_ (Kd.S_below (sq HO_4) hb)
                               have n1_ := A_ (Kd.R_below (by (with_reducible repeat (first | apply Kd.R_alloc | apply Kd.R_drewN | apply Kd.R_drew)); exact HL551_0.out) hb)
                               have n2_ := A_ (blk_below (bq BK506) hb)
                               have n3_ := A_ (blk_below (bq BK523) hb)
                               have n4_ := A_ (Kd.C_below (by repeat (first | (with_reducible exact HR551_0.out) | (with_reducible refine Kd.C_alloc ?_ _) | (with_reducible refine Kd.C_drewN ?_ _) | (with_reducible refine Kd.C_drew ?_) | exact HR551_0.out)) hb)
                               have n5_ := A_ (below_step (hq HB) hb)
                               clear HO_4 HL551_0 BK506 BK523 HR551_0 HB; have HO_4 := n0_; have HL551_0 := n1_; have BK506 := n2_; have BK523 := n3_; have HR551_0 := n4_; have HB := n5_; clear n0_ n1_ n2_ n3_ n4_ n5_; (try clear hb); (try clear hb2); (try clear hk); (try clear hi)
                               refine hK.out _ _ ⟨bc BK506 0, bc BK506 1, HS2_⟩ (fun hHeld => ?_)
                               clear hK K
                               refine norm_ (a' := ?_) ?_ ?_
                               rotate_left
                               ·
                                exact pq (d := some 242)
                               refine pure_ (i := 5) (N := some 237) (v := ?_) (a' := ?_) #[true, true, true, true, true, true, false, false, false, false] rfl rfl (any_of HT_.out (by kernel_rfl)) (fun _ _ _ h => h) (Or.inl ⟨by rfl, ?_⟩) ?_ ?_
                               rotate_left
                               ·
                                intro w'
                                go_simp
                                with_reducible rfl
                               rotate_left
                               ·
                                simp only [Act.put, List.setIfInBounds_toArray, List.set_cons_zero, List.set_cons_succ, i64_w, i32_w]
                                rfl
                               refine pure_ (i := 6) (N := some 243) (v := ?_) (a' := ?_) #[true, true, true, true, true, true, true, false, false, false] rfl rfl (any_of HT_.out (by kernel_rfl)) (fun _ _ _ h => h) (Or.inl ⟨by rfl, ?_⟩) ?_ ?_
                               rotate_left
                               ·
                                intro w'
                                go_simp
                                with_reducible rfl
                               rotate_left
                               ·
                                simp only [Act.put, List.setIfInBounds_toArray, List.set_cons_zero, List.set_cons_succ, i64_w, i32_w]
                                rfl
                               refine pure_ (i := 7) (N := some 244) (v := ?_) (a' := ?_) #[true, true, true, true, true, true, true, true, false, false] rfl rfl (any_of HT_.out (by kernel_rfl)) (fun _ _ _ h => h) (Or.inl ⟨by rfl, ?_⟩) ?_ ?_
                               rotate_left
                               ·
                                intro w'
                                go_simp
                                with_reducible rfl
                               rotate_left
                               ·
                                simp only [Act.put, List.setIfInBounds_toArray, List.set_cons_zero, List.set_cons_succ, i64_w, i32_w]
                                rfl
                               refine pure_ (i := 8) (N := some 30) (v := ?_) (a' := ?_) #[true, true, true, true, true, true, true, true, true, false] rfl rfl (any_of HT_.out (by kernel_rfl)) (fun _ _ _ h => h) (Or.inl ⟨by rfl, ?_⟩) ?_ ?_
                               rotate_left
                               ·
                                intro w'
                                go_simp
                                with_reducible rfl
                               rotate_left
                               ·
                                simp only [Act.put, List.setIfInBounds_toArray, List.set_cons_zero, List.set_cons_succ, i64_w, i32_w]
                                rfl
                               refine pure_ (i := 9) (N := some 31) (v := ?_) (a' := ?_) #[true, true, true, true, true, true, true, true, true, true] rfl rfl (any_of HT_.out (by kernel_rfl)) (fun _ _ _ h => h) (Or.inl ⟨by rfl, ?_⟩) ?_ ?_
                               rotate_left
                               ·
                                intro w'
                                go_simp
                                with_reducible rfl
                               rotate_left
                               ·
                                simp only [Act.put, List.setIfInBounds_toArray, List.set_cons_zero, List.set_cons_succ, i64_w, i32_w]
                                rfl
                               refine done_ (done_of HT_.out (by kernel_rfl)) ?_
                               try go_wp2
                               have n0_ := A_ (Kd.S_drew HO_4.out)
                               have n1_ := A_ (Kd.R_drew HL551_0.out)
                               have n2_ := A_ (blk_drew BK506.out)
                               have n3_ := A_ (blk_drew BK523.out)
                               have n4_ := A_ (Kd.C_drew HR551_0.out)
                               have n5_ := A_ (below_drew1 HB.out)
                               clear HO_4 HL551_0 BK506 BK523 HR551_0 HB; have HO_4 := n0_; have HL551_0 := n1_; have BK506 := n2_; have BK523 := n3_; have HR551_0 := n4_; have HB := n5_; clear n0_ n1_ n2_ n3_ n4_ n5_
                               have q131 : (1 : Int) ≤ ((t503.length : Int) : Int) := of_decide_eq_true (by first | (with_reducible assumption) | assumption)
                               obtain ⟨i0131, hi0131, _, hsz131, _⟩ := info_parts info26
                               have hroom131 : t503.length ≤ co11 := (Kd.S_reads' HO_4.out).2.1
                               have hC131 : Kd.C (Kd.slice 3 (Kd.int .i64)) _ (some ad551) t503.length t503 := (Kd.S_reads' HO_4.out).2.2
                               have hcut131 := cut_to (P := Try.prog) 40 26 .i64 Try.underlying40 hi0131 (some ad551) t503.length co11 1 (by omega) q131 hroom131
                               have hr131 := Kd.C_take (m := 1) hC131 (by omega)
                               have hy131 : y554.length = (1 : Int).toNat := (by rw [Ny554.out, List.length_take]; omega)
                               rw [← Ny554.out] at hr131
                               rw [← hy131] at hcut131
                               have HR557 := A_ hr131
                               have HC557 := A_ (show y554.length ≤ co11 from by omega)
                               clear hr131 hC131 hroom131 hi0131 hsz131
                               have KY131 := A_ hy131
                               clear hy131
                               have KL131 := A_ (show 1 ≤ t503.length from by omega)
                               replace q131 := eq_true q131
                               refine start_ (n := 9) (S := fun w' => w'.cell? ⟨gb506, 0, none⟩ = some (.int .i64 t501) ∧ w'.cell? ⟨gb506, 1, none⟩ = some (.bool t502)) (ds := []) #[false, false, false, false, false, false, false, false, false] (by kernel_rfl) rfl rfl ⟨bc BK506 0, bc BK506 1⟩ (fun hHeld => ?_); refine with_tabW laws_FnLeaving.tab45 laws_FnLeaving.bits45 (fun HT_ HW_ => ?_)
                               generalize w129.drew = w130 at HO_4 HL551_0 BK506 BK523 HR551_0 HB HR557 hHeld ⊢
                               refine pure_ (i := 1) (N := some 247) (v := ?_) (a' := ?_) #[false, true, false, false, false, false, false, false, false] rfl rfl (any_of HT_.out (by kernel_rfl)) (fun _ _ _ h => h) (Or.inl ⟨by rfl, ?_⟩) ?_ ?_
                               rotate_left
                               ·
                                intro w'
                                go_simp
                                with_reducible rfl
                               rotate_left
                               ·
                                simp only [Act.put, List.setIfInBounds_toArray, List.set_cons_zero, List.set_cons_succ, i64_w, i32_w]
                                rfl
                               refine pure_ (i := 2) (N := some 248) (v := ?_) (a' := ?_) #[false, true, true, false, false, false, false, false, false] rfl rfl (any_of HT_.out (by kernel_rfl)) (fun _ _ _ h => h) (Or.inl ⟨by rfl, ?_⟩) ?_ ?_
                               rotate_left
                               ·
                                intro w'
                                go_simp
                                with_reducible rfl
                               rotate_left
                               ·
                                simp only [Act.put, List.setIfInBounds_toArray, List.set_cons_zero, List.set_cons_succ, i64_w, i32_w]
                                rfl
                               refine take_ (i := 0) (N := some 246) (v := ?_) (a' := ?_) #[true, true, true, false, false, false, false, false, false] rfl rfl (take_ofW HT_.out HW_.out (by kernel_rfl)) (fun _ _ _ h => h) (Or.inl ⟨by rfl, ?_⟩) hHeld ?_ ?_
                               rotate_left
                               ·
                                rintro w' ⟨s0, s1⟩
                                go_simp
                                with_reducible rfl
                               rotate_left
                               ·
                                simp only [Act.put, List.setIfInBounds_toArray, List.set_cons_zero, List.set_cons_succ, i64_w, i32_w]
                                rfl
                               refine one_ (i := 3) (N := some 249) #[true, true, true, true, false, false, false, false, false] rfl rfl (one_of HT_.out (by kernel_rfl)) (by decide) (fun K hK => ?_)
                               refine goes_ Try.func33 (by kernel_rfl) rfl #[.agg #[.int .i64 t501, .bool t502], .slice (some ad551) y554.length co11] (by rfl) rfl rfl gq ?_
                               with_reducible refine (impl_WorstLeave.calls kj115 t501 t502 _ _ y554 t558 t559 _ ?side1 ?side2 A125.out).mono ?_
                               (case side1 => repeat (first | exact (by repeat (first | (with_reducible exact HR557.out) | (with_reducible refine Kd.C_alloc ?_ _) | (with_reducible refine Kd.C_drewN ?_ _) | (with_reducible refine Kd.C_drew ?_) | exact HR557.out)) | (with_reducible refine Kd.C_alloc ?_ _) | (with_reducible refine Kd.C_drewN ?_ _) | (with_reducible refine Kd.C_drew ?_)))
                               (case side2 => exact HC557.out)
                               rintro e w132 ⟨rfl, hb⟩
                               refine ⟨_, rfl, ?_⟩
                               have n0_ := A_ (Kd.S_below (sq HO_4) hb)
                               have n1_ := A_ (Kd.R_below (by (with_reducible repeat (first | apply Kd.R_alloc | apply Kd.R_drewN | apply Kd.R_drew)); exact HL551_0.out) hb)
                               have n2_ := A_ (blk_below (bq BK506) hb)
                               have n3_ := A_ (blk_below (bq BK523) hb)
                               have n4_ := A_ (Kd.C_below (by repeat (first | (with_reducible exact HR551_0.out) | (with_reducible refine Kd.C_alloc ?_ _) | (with_reducible refine Kd.C_drewN ?_ _) | (with_reducible refine Kd.C_drew ?_) | exact HR551_0.out)) hb)
                               have n5_ := A_ (Kd.C_below (by repeat (first | (with_reducible exact HR557.out) | (with_reducible refine Kd.C_alloc ?_ _) | (with_reducible refine Kd.C_drewN ?_ _) | (with_reducible refine Kd.C_drew ?_) | exact HR557.out)) hb)
                               have n6_ := A_ (below_step (hq HB) hb)
                               clear HO_4 HL551_0 BK506 BK523 HR551_0 HR557 HB; have HO_4 := n0_; have HL551_0 := n1_; have BK506 := n2_; have BK523 := n3_; have HR551_0 := n4_; have HR557 := n5_; have HB := n6_; clear n0_ n1_ n2_ n3_ n4_ n5_ n6_; (try clear hb); (try clear hb2); (try clear hk); (try clear hi)
                               refine hK.out _ _ ⟨bc BK506 0, bc BK506 1⟩ (fun hHeld => ?_)
                               clear hK K
                               refine norm_ (a' := ?_) ?_ ?_
                               rotate_left
                               ·
                                exact pq (d := some 249)
                               refine pure_ (i := 4) (N := some 245) (v := ?_) (a' := ?_) #[true, true, true, true, true, false, false, false, false] rfl rfl (any_of HT_.out (by kernel_rfl)) (fun _ _ _ h => h) (Or.inl ⟨by rfl, ?_⟩) ?_ ?_
                               rotate_left
                               ·
                                intro w'
                                go_simp
                                with_reducible rfl
                               rotate_left
                               ·
                                simp only [Act.put, List.setIfInBounds_toArray, List.set_cons_zero, List.set_cons_succ, i64_w, i32_w]
                                rfl
                               refine pure_ (i := 5) (N := some 250) (v := ?_) (a' := ?_) #[true, true, true, true, true, true, false, false, false] rfl rfl (any_of HT_.out (by kernel_rfl)) (fun _ _ _ h => h) (Or.inl ⟨by rfl, ?_⟩) ?_ ?_
                               rotate_left
                               ·
                                intro w'
                                go_simp
                                with_reducible rfl
                               rotate_left
                               ·
                                simp only [Act.put, List.setIfInBounds_toArray, List.set_cons_zero, List.set_cons_succ, i64_w, i32_w]
                                rfl
                               refine pure_ (i := 6) (N := some 251) (v := ?_) (a' := ?_) #[true, true, true, true, true, true, true, false, false] rfl rfl (any_of HT_.out (by kernel_rfl)) (fun _ _ _ h => h) (Or.inl ⟨by rfl, ?_⟩) ?_ ?_
                               rotate_left
                               ·
                                intro w'
                                go_simp
                                with_reducible rfl
                               rotate_left
                               ·
                                simp only [Act.put, List.setIfInBounds_toArray, List.set_cons_zero, List.set_cons_succ, i64_w, i32_w]
                                rfl
                               refine pure_ (i := 7) (N := some 32) (v := ?_) (a' := ?_) #[true, true, true, true, true, true, true, true, false] rfl rfl (any_of HT_.out (by kernel_rfl)) (fun _ _ _ h => h) (Or.inl ⟨by rfl, ?_⟩) ?_ ?_
                               rotate_left
                               ·
                                intro w'
                                go_simp
                                with_reducible rfl
                               rotate_left
                               ·
                                simp only [Act.put, List.setIfInBounds_toArray, List.set_cons_zero, List.set_cons_succ, i64_w, i32_w]
                                rfl
                               refine pure_ (i := 8) (N := some 33) (v := ?_) (a' := ?_) #[true, true, true, true, true, true, true, true, true] rfl rfl (any_of HT_.out (by kernel_rfl)) (fun _ _ _ h => h) (Or.inl ⟨by rfl, ?_⟩) ?_ ?_
                               rotate_left
                               ·
                                intro w'
                                go_simp
                                with_reducible rfl
                               rotate_left
                               ·
                                simp only [Act.put, List.setIfInBounds_toArray, List.set_cons_zero, List.set_cons_succ, i64_w, i32_w]
                                rfl
                               refine done_ (done_of HT_.out (by kernel_rfl)) ?_
                               try go_wp2
                               go_ret
                               exact ⟨rt, hq HB⟩
                             ·
                              as_aux_lemma =>
                               replace c127 := Bool.eq_false_iff.mpr c127
                               subst c127
                               have H1 : (some true) = some r := by rw [if_neg (show ¬ (false = true) by decide)] at H; exact H
                               clear H
                               have H := H1
                               clear H1
                               obtain rfl := Option.some.inj H
                               try go_wp2
                               have n0_ := A_ (Kd.S_drew HO_4.out)
                               have n1_ := A_ (blk_drew BK506.out)
                               have n2_ := A_ (blk_drew BK523.out)
                               have n3_ := A_ (below_drew1 HB.out)
                               clear HO_4 BK506 BK523 HB; have HO_4 := n0_; have BK506 := n1_; have BK523 := n2_; have HB := n3_; clear n0_ n1_ n2_ n3_
                               have p551 : 0 ≤ (0 : Int) := (by omega)
                               have q551 : 0 < (t503.length : Int) := of_decide_eq_true (by first | (with_reducible assumption) | assumption)
                               obtain ⟨ad551, A551_0, c551_0, e551, hx551_0, hl551_0, hi551_0⟩ := at_L2 (Kd.S_reads' HO_4.out).2.2 0 p551 q551
                               cases e551
                               obtain ⟨ce551, hce551, hMe551, hcc551⟩ := Kd.S_get HO_4.out [] 0 p551 (by first | exact q551 | exact of_decide_eq_true (by first | (with_reducible assumption) | assumption) | (have e_ := (Kd.S_reads' HO_4.out).1; omega))
                               obtain ⟨ve551_0, rfl, ge551_0⟩ := hMe551
                               have hv551_0 := hcc551 0 _ rfl
                               rw [Nat.add_zero, show ((Kd.slice 3 (Kd.int .i64))).sz = 1 from rfl, Nat.mul_one] at hv551_0
                               replace hv551_0 := Option.some.inj (hv551_0.symm.trans hx551_0)
                               rw [hv551_0] at ge551_0
                               have HL551_0 := A_ (show Kd.R (Kd.int .i64) 3 _ _ _ _ (rd_L2 t503 0) from ge551_0)
                               clear hv551_0 ge551_0 hcc551 hce551
                               have qi551 : (0 < t503.length) = True := eq_true (by omega)
                               (try rw [show ((0 : Int)).toNat = 0 from rfl] at hx551_0)
                               (try rw [Addr.add_zero'] at hx551_0)
                               have HR551_0 := A_ hi551_0
                               have HC551_0 := A_ hl551_0
                               clear hi551_0 hl551_0
                               replace p551 := eq_true p551
                               replace q551 := eq_true q551
                               refine start_ (n := 10) (S := fun w' => w'.cell? ⟨gb506, 0, none⟩ = some (.int .i64 t501) ∧ w'.cell? ⟨gb506, 1, none⟩ = some (.bool t502) ∧ w'.cell? ad551 = some (.slice A551_0 (rd_L2 t503 0).length c551_0)) (ds := []) #[false, false, false, false, false, false, false, false, false, false] (by kernel_rfl) rfl rfl ⟨bc BK506 0, bc BK506 1, hx551_0⟩ (fun hHeld => ?_); refine with_tabW laws_FnLeaving.tab44 laws_FnLeaving.bits44 (fun HT_ HW_ => ?_)
                               generalize wc.drew = w133 at HO_4 BK506 BK523 HB HL551_0 HR551_0 hx551_0 hHeld ⊢
                               refine pure_ (i := 1) (N := some 239) (v := ?_) (a' := ?_) #[false, true, false, false, false, false, false, false, false, false] rfl rfl (any_of HT_.out (by kernel_rfl)) (fun _ _ _ h => h) (Or.inl ⟨by rfl, ?_⟩) ?_ ?_
                               rotate_left
                               ·
                                intro w'
                                go_simp
                                with_reducible rfl
                               rotate_left
                               ·
                                simp only [Act.put, List.setIfInBounds_toArray, List.set_cons_zero, List.set_cons_succ, i64_w, i32_w]
                                rfl
                               refine pure_ (i := 2) (N := some 240) (v := ?_) (a' := ?_) #[false, true, true, false, false, false, false, false, false, false] rfl rfl (any_of HT_.out (by kernel_rfl)) (fun _ _ _ h => h) (Or.inl ⟨by rfl, ?_⟩) ?_ ?_
                               rotate_left
                               ·
                                intro w'
                                go_simp
                                with_reducible rfl
                               rotate_left
                               ·
                                simp only [Act.put, List.setIfInBounds_toArray, List.set_cons_zero, List.set_cons_succ, i64_w, i32_w]
                                rfl
                               refine take_ (i := 0) (N := some 238) (v := ?_) (a' := ?_) #[true, true, true, false, false, false, false, false, false, false] rfl rfl (take_ofW HT_.out HW_.out (by kernel_rfl)) (fun _ _ _ h => h) (Or.inl ⟨by rfl, ?_⟩) hHeld ?_ ?_
                               rotate_left
                               ·
                                rintro w' ⟨s0, s1, s2⟩
                                go_simp
                                with_reducible rfl
                               rotate_left
                               ·
                                simp only [Act.put, List.setIfInBounds_toArray, List.set_cons_zero, List.set_cons_succ, i64_w, i32_w]
                                rfl
                               refine take_ (i := 3) (N := some 241) (v := ?_) (a' := ?_) #[true, true, true, true, false, false, false, false, false, false] rfl rfl (take_ofW HT_.out HW_.out (by kernel_rfl)) (fun _ _ _ h => h) (Or.inl ⟨by rfl, ?_⟩) hHeld ?_ ?_
                               rotate_left
                               ·
                                rintro w' ⟨s0, s1, s2⟩
                                go_simp
                                with_reducible rfl
                               rotate_left
                               ·
                                simp only [Act.put, List.setIfInBounds_toArray, List.set_cons_zero, List.set_cons_succ, i64_w, i32_w]
                                rfl
                               refine one_ (i := 4) (N := some 242) #[true, true, true, true, true, false, false, false, false, false] rfl rfl (one_of HT_.out (by kernel_rfl)) (by decide) (fun K hK => ?_)
                               refine goes_ Try.func22 (by kernel_rfl) rfl #[.agg #[.int .i64 t501, .bool t502], .slice A551_0 (rd_L2 t503 0).length c551_0] (by rfl) rfl rfl gq ?_
                               with_reducible refine (impl_CoverTime.calls kj115 t501 t502 _ _ (rd_L2 t503 0) t552 false _ ?side1 ?side2 A123.out).mono ?_
                               (case side1 => repeat (first | exact (by repeat (first | (with_reducible exact HR551_0.out) | (with_reducible refine Kd.C_alloc ?_ _) | (with_reducible refine Kd.C_drewN ?_ _) | (with_reducible refine Kd.C_drew ?_) | exact HR551_0.out)) | (with_reducible refine Kd.C_alloc ?_ _) | (with_reducible refine Kd.C_drewN ?_ _) | (with_reducible refine Kd.C_drew ?_)))
                               (case side2 => exact HC551_0.out)
                               rintro e w134 ⟨rfl, hb⟩
                               have HS2_ := (hb.cell (World.block_lt_of_cell? _ _ (hHeld.2.2))).trans (hHeld.2.2)
                               refine ⟨_, rfl, ?_⟩
                               have n0_ := A_ (Kd.S_below (sq HO_4) hb)
                               have n1_ := A_ (Kd.R_below (by (with_reducible repeat (first | apply Kd.R_alloc | apply Kd.R_drewN | apply Kd.R_drew)); exact HL551_0.out) hb)
                               have n2_ := A_ (blk_below (bq BK506) hb)
                               have n3_ := A_ (blk_below (bq BK523) hb)
                               have n4_ := A_ (Kd.C_below (by repeat (first | (with_reducible exact HR551_0.out) | (with_reducible refine Kd.C_alloc ?_ _) | (with_reducible refine Kd.C_drewN ?_ _) | (with_reducible refine Kd.C_drew ?_) | exact HR551_0.out)) hb)
                               have n5_ := A_ (below_step (hq HB) hb)
                               clear HO_4 HL551_0 BK506 BK523 HR551_0 HB; have HO_4 := n0_; have HL551_0 := n1_; have BK506 := n2_; have BK523 := n3_; have HR551_0 := n4_; have HB := n5_; clear n0_ n1_ n2_ n3_ n4_ n5_; (try clear hb); (try clear hb2); (try clear hk); (try clear hi)
                               refine hK.out _ _ ⟨bc BK506 0, bc BK506 1, HS2_⟩ (fun hHeld => ?_)
                               clear hK K
                               refine norm_ (a' := ?_) ?_ ?_
                               rotate_left
                               ·
                                exact pq (d := some 242)
                               refine pure_ (i := 5) (N := some 237) (v := ?_) (a' := ?_) #[true, true, true, true, true, true, false, false, false, false] rfl rfl (any_of HT_.out (by kernel_rfl)) (fun _ _ _ h => h) (Or.inl ⟨by rfl, ?_⟩) ?_ ?_
                               rotate_left
                               ·
                                intro w'
                                go_simp
                                with_reducible rfl
                               rotate_left
                               ·
                                simp only [Act.put, List.setIfInBounds_toArray, List.set_cons_zero, List.set_cons_succ, i64_w, i32_w]
                                rfl
                               refine pure_ (i := 6) (N := some 243) (v := ?_) (a' := ?_) #[true, true, true, true, true, true, true, false, false, false] rfl rfl (any_of HT_.out (by kernel_rfl)) (fun _ _ _ h => h) (Or.inl ⟨by rfl, ?_⟩) ?_ ?_
                               rotate_left
                               ·
                                intro w'
                                go_simp
                                with_reducible rfl
                               rotate_left
                               ·
                                simp only [Act.put, List.setIfInBounds_toArray, List.set_cons_zero, List.set_cons_succ, i64_w, i32_w]
                                rfl
                               refine pure_ (i := 7) (N := some 244) (v := ?_) (a' := ?_) #[true, true, true, true, true, true, true, true, false, false] rfl rfl (any_of HT_.out (by kernel_rfl)) (fun _ _ _ h => h) (Or.inl ⟨by rfl, ?_⟩) ?_ ?_
                               rotate_left
                               ·
                                intro w'
                                go_simp
                                with_reducible rfl
                               rotate_left
                               ·
                                simp only [Act.put, List.setIfInBounds_toArray, List.set_cons_zero, List.set_cons_succ, i64_w, i32_w]
                                rfl
                               refine pure_ (i := 8) (N := some 30) (v := ?_) (a' := ?_) #[true, true, true, true, true, true, true, true, true, false] rfl rfl (any_of HT_.out (by kernel_rfl)) (fun _ _ _ h => h) (Or.inl ⟨by rfl, ?_⟩) ?_ ?_
                               rotate_left
                               ·
                                intro w'
                                go_simp
                                with_reducible rfl
                               rotate_left
                               ·
                                simp only [Act.put, List.setIfInBounds_toArray, List.set_cons_zero, List.set_cons_succ, i64_w, i32_w]
                                rfl
                               refine pure_ (i := 9) (N := some 31) (v := ?_) (a' := ?_) #[true, true, true, true, true, true, true, true, true, true] rfl rfl (any_of HT_.out (by kernel_rfl)) (fun _ _ _ h => h) (Or.inl ⟨by rfl, ?_⟩) ?_ ?_
                               rotate_left
                               ·
                                intro w'
                                go_simp
                                with_reducible rfl
                               rotate_left
                               ·
                                simp only [Act.put, List.setIfInBounds_toArray, List.set_cons_zero, List.set_cons_succ, i64_w, i32_w]
                                rfl
                               refine done_ (done_of HT_.out (by kernel_rfl)) ?_
                               try go_wp2
                               have n0_ := A_ (Kd.S_drew HO_4.out)
                               have n1_ := A_ (Kd.R_drew HL551_0.out)
                               have n2_ := A_ (blk_drew BK506.out)
                               have n3_ := A_ (blk_drew BK523.out)
                               have n4_ := A_ (Kd.C_drew HR551_0.out)
                               have n5_ := A_ (below_drew1 HB.out)
                               clear HO_4 HL551_0 BK506 BK523 HR551_0 HB; have HO_4 := n0_; have HL551_0 := n1_; have BK506 := n2_; have BK523 := n3_; have HR551_0 := n4_; have HB := n5_; clear n0_ n1_ n2_ n3_ n4_ n5_
                               have q136 : (1 : Int) ≤ ((t503.length : Int) : Int) := of_decide_eq_true (by first | (with_reducible assumption) | assumption)
                               obtain ⟨i0136, hi0136, _, hsz136, _⟩ := info_parts info26
                               have hroom136 : t503.length ≤ co11 := (Kd.S_reads' HO_4.out).2.1
                               have hC136 : Kd.C (Kd.slice 3 (Kd.int .i64)) _ (some ad551) t503.length t503 := (Kd.S_reads' HO_4.out).2.2
                               have hcut136 := cut_to (P := Try.prog) 40 26 .i64 Try.underlying40 hi0136 (some ad551) t503.length co11 1 (by omega) q136 hroom136
                               have hr136 := Kd.C_take (m := 1) hC136 (by omega)
                               have hy136 : y554.length = (1 : Int).toNat := (by rw [Ny554.out, List.length_take]; omega)
                               rw [← Ny554.out] at hr136
                               rw [← hy136] at hcut136
                               have HR557 := A_ hr136
                               have HC557 := A_ (show y554.length ≤ co11 from by omega)
                               clear hr136 hC136 hroom136 hi0136 hsz136
                               have KY136 := A_ hy136
                               clear hy136
                               have KL136 := A_ (show 1 ≤ t503.length from by omega)
                               replace q136 := eq_true q136
                               refine start_ (n := 9) (S := fun w' => w'.cell? ⟨gb506, 0, none⟩ = some (.int .i64 t501) ∧ w'.cell? ⟨gb506, 1, none⟩ = some (.bool t502)) (ds := []) #[false, false, false, false, false, false, false, false, false] (by kernel_rfl) rfl rfl ⟨bc BK506 0, bc BK506 1⟩ (fun hHeld => ?_); refine with_tabW laws_FnLeaving.tab45 laws_FnLeaving.bits45 (fun HT_ HW_ => ?_)
                               generalize w134.drew = w135 at HO_4 HL551_0 BK506 BK523 HR551_0 HB HR557 hHeld ⊢
                               refine pure_ (i := 1) (N := some 247) (v := ?_) (a' := ?_) #[false, true, false, false, false, false, false, false, false] rfl rfl (any_of HT_.out (by kernel_rfl)) (fun _ _ _ h => h) (Or.inl ⟨by rfl, ?_⟩) ?_ ?_
                               rotate_left
                               ·
                                intro w'
                                go_simp
                                with_reducible rfl
                               rotate_left
                               ·
                                simp only [Act.put, List.setIfInBounds_toArray, List.set_cons_zero, List.set_cons_succ, i64_w, i32_w]
                                rfl
                               refine pure_ (i := 2) (N := some 248) (v := ?_) (a' := ?_) #[false, true, true, false, false, false, false, false, false] rfl rfl (any_of HT_.out (by kernel_rfl)) (fun _ _ _ h => h) (Or.inl ⟨by rfl, ?_⟩) ?_ ?_
                               rotate_left
                               ·
                                intro w'
                                go_simp
                                with_reducible rfl
                               rotate_left
                               ·
                                simp only [Act.put, List.setIfInBounds_toArray, List.set_cons_zero, List.set_cons_succ, i64_w, i32_w]
                                rfl
                               refine take_ (i := 0) (N := some 246) (v := ?_) (a' := ?_) #[true, true, true, false, false, false, false, false, false] rfl rfl (take_ofW HT_.out HW_.out (by kernel_rfl)) (fun _ _ _ h => h) (Or.inl ⟨by rfl, ?_⟩) hHeld ?_ ?_
                               rotate_left
                               ·
                                rintro w' ⟨s0, s1⟩
                                go_simp
                                with_reducible rfl
                               rotate_left
                               ·
                                simp only [Act.put, List.setIfInBounds_toArray, List.set_cons_zero, List.set_cons_succ, i64_w, i32_w]
                                rfl
                               refine one_ (i := 3) (N := some 249) #[true, true, true, true, false, false, false, false, false] rfl rfl (one_of HT_.out (by kernel_rfl)) (by decide) (fun K hK => ?_)
                               refine goes_ Try.func33 (by kernel_rfl) rfl #[.agg #[.int .i64 t501, .bool t502], .slice (some ad551) y554.length co11] (by rfl) rfl rfl gq ?_
                               with_reducible refine (impl_WorstLeave.calls kj115 t501 t502 _ _ y554 t558 t559 _ ?side1 ?side2 A125.out).mono ?_
                               (case side1 => repeat (first | exact (by repeat (first | (with_reducible exact HR557.out) | (with_reducible refine Kd.C_alloc ?_ _) | (with_reducible refine Kd.C_drewN ?_ _) | (with_reducible refine Kd.C_drew ?_) | exact HR557.out)) | (with_reducible refine Kd.C_alloc ?_ _) | (with_reducible refine Kd.C_drewN ?_ _) | (with_reducible refine Kd.C_drew ?_)))
                               (case side2 => exact HC557.out)
                               rintro e w137 ⟨rfl, hb⟩
                               refine ⟨_, rfl, ?_⟩
                               have n0_ := A_ (Kd.S_below (sq HO_4) hb)
                               have n1_ := A_ (Kd.R_below (by (with_reducible repeat (first | apply Kd.R_alloc | apply Kd.R_drewN | apply Kd.R_drew)); exact HL551_0.out) hb)
                               have n2_ := A_ (blk_below (bq BK506) hb)
                               have n3_ := A_ (blk_below (bq BK523) hb)
                               have n4_ := A_ (Kd.C_below (by repeat (first | (with_reducible exact HR551_0.out) | (with_reducible refine Kd.C_alloc ?_ _) | (with_reducible refine Kd.C_drewN ?_ _) | (with_reducible refine Kd.C_drew ?_) | exact HR551_0.out)) hb)
                               have n5_ := A_ (Kd.C_below (by repeat (first | (with_reducible exact HR557.out) | (with_reducible refine Kd.C_alloc ?_ _) | (with_reducible refine Kd.C_drewN ?_ _) | (with_reducible refine Kd.C_drew ?_) | exact HR557.out)) hb)
                               have n6_ := A_ (below_step (hq HB) hb)
                               clear HO_4 HL551_0 BK506 BK523 HR551_0 HR557 HB; have HO_4 := n0_; have HL551_0 := n1_; have BK506 := n2_; have BK523 := n3_; have HR551_0 := n4_; have HR557 := n5_; have HB := n6_; clear n0_ n1_ n2_ n3_ n4_ n5_ n6_; (try clear hb); (try clear hb2); (try clear hk); (try clear hi)
                               refine hK.out _ _ ⟨bc BK506 0, bc BK506 1⟩ (fun hHeld => ?_)
                               clear hK K
                               refine norm_ (a' := ?_) ?_ ?_
                               rotate_left
                               ·
                                exact pq (d := some 249)
                               refine pure_ (i := 4) (N := some 245) (v := ?_) (a' := ?_) #[true, true, true, true, true, false, false, false, false] rfl rfl (any_of HT_.out (by kernel_rfl)) (fun _ _ _ h => h) (Or.inl ⟨by rfl, ?_⟩) ?_ ?_
                               rotate_left
                               ·
                                intro w'
                                go_simp
                                with_reducible rfl
                               rotate_left
                               ·
                                simp only [Act.put, List.setIfInBounds_toArray, List.set_cons_zero, List.set_cons_succ, i64_w, i32_w]
                                rfl
                               refine pure_ (i := 5) (N := some 250) (v := ?_) (a' := ?_) #[true, true, true, true, true, true, false, false, false] rfl rfl (any_of HT_.out (by kernel_rfl)) (fun _ _ _ h => h) (Or.inl ⟨by rfl, ?_⟩) ?_ ?_
                               rotate_left
                               ·
                                intro w'
                                go_simp
                                with_reducible rfl
                               rotate_left
                               ·
                                simp only [Act.put, List.setIfInBounds_toArray, List.set_cons_zero, List.set_cons_succ, i64_w, i32_w]
                                rfl
                               refine pure_ (i := 6) (N := some 251) (v := ?_) (a' := ?_) #[true, true, true, true, true, true, true, false, false] rfl rfl (any_of HT_.out (by kernel_rfl)) (fun _ _ _ h => h) (Or.inl ⟨by rfl, ?_⟩) ?_ ?_
                               rotate_left
                               ·
                                intro w'
                                go_simp
                                with_reducible rfl
                               rotate_left
                               ·
                                simp only [Act.put, List.setIfInBounds_toArray, List.set_cons_zero, List.set_cons_succ, i64_w, i32_w]
                                rfl
                               refine pure_ (i := 7) (N := some 32) (v := ?_) (a' := ?_) #[true, true, true, true, true, true, true, true, false] rfl rfl (any_of HT_.out (by kernel_rfl)) (fun _ _ _ h => h) (Or.inl ⟨by rfl, ?_⟩) ?_ ?_
                               rotate_left
                               ·
                                intro w'
                                go_simp
                                with_reducible rfl
                               rotate_left
                               ·
                                simp only [Act.put, List.setIfInBounds_toArray, List.set_cons_zero, List.set_cons_succ, i64_w, i32_w]
                                rfl
                               refine pure_ (i := 8) (N := some 33) (v := ?_) (a' := ?_) #[true, true, true, true, true, true, true, true, true] rfl rfl (any_of HT_.out (by kernel_rfl)) (fun _ _ _ h => h) (Or.inl ⟨by rfl, ?_⟩) ?_ ?_
                               rotate_left
                               ·
                                intro w'
                                go_simp
                                with_reducible rfl
                               rotate_left
                               ·
                                simp only [Act.put, List.setIfInBounds_toArray, List.set_cons_zero, List.set_cons_succ, i64_w, i32_w]
                                rfl
                               refine done_ (done_of HT_.out (by kernel_rfl)) ?_
                               try go_wp2
                               go_ret
                               exact ⟨rt, hq HB⟩
                            ·
                             rw [if_neg c126] at H
                             have c126b0 : (t553 == t559) = false := by simpa using c126
                             (try (have c126b1 : decide (t553 = t559) = false := by simpa using c126))
                             (try (have c126b2 : (t553 == t559) = false := by simpa using c126))
                             (try (have c126b3 : ¬ (t553 = t559) := by simpa using c126))
                             clear c126
                             obtain rfl := Option.some.inj H
                             exact absurd hr_ (by decide)
                           ·
                            rw [if_neg c124] at H
                            exact absurd H (by simp)
                          ·
                           rw [if_neg c122] at H
                           exact absurd H (by simp)
                 ·
                  replace c78 := Bool.eq_false_iff.mpr c78
                  subst c78
                  have H1 : (some true) = some r := by rw [if_neg (show ¬ (false = true) by decide)] at H; exact H
                  clear H
                  have H := H1
                  clear H1
                  obtain rfl := Option.some.inj H
                  go_wp2
                  go_ret
                  exact ⟨rt, hq HB⟩

/-- THE ONE PURE STATEMENT of laws_FnLeaving: yours. -/
def laws_FnLeaving.Pure : Prop := ∀ (l0 : List Int), l0.length ≤ maxLen → l0.length * 1 ≤ 140737488351232 → (∀ x ∈ l0, (Lit.int .u8 x).wf = true) → ∃ k, laws_FnLeaving.f k l0 = some true
theorem laws_FnLeaving.walk (P : laws_FnLeaving.Pure) (a0 : Option Addr) (len0 cap0 : Nat) (z0 : List Int) (w : World) (w0 : (a0 = none ∧ len0 = 0 ∧ cap0 = 0 ∧ z0 = []) ∨ ∃ x, a0 = some x ∧ len0 ≤ cap0 ∧ cap0 ≤ maxLen ∧ z0.length = cap0 ∧ (∀ i, i < z0.length → w.cell? (x.add i) = some (.int .u8 (z0.getD i 0))) ∧ ∀ n ∈ z0, (Lit.int .u8 n).wf = true) (y0 : len0 * 1 ≤ 140737488351232) :
    Calls Try.prog 4 #[.slice a0 len0 cap0] w fun e w' => e = .returned (.bool true) ∧ Below w.heap.size w w' := by
  obtain ⟨l0, rfl, hr0, hm0, hw0, hc0⟩ := ReadsInt.ofRowC w0
  obtain ⟨k, h⟩ := P l0 hm0 y0 hw0
  refine (laws_FnLeaving.calls k _ _ l0 true rfl w (Kd.C_of_reads (d := (0 : Int)) (h1 := fun _ => rfl) hr0) hc0 h).mono ?_
  rintro e w' ⟨rfl, hd⟩
  exact ⟨rfl, hd⟩

end Go.Proofs.Ytmamhnbhahafgaa.PFnLeaving
