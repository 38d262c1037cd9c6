-- Told shorter still by shrink2.py.
-- Printed, and told shorter by this session's program shrink.py.
-- Printed by this session's program myprint.py.
import Derived.Test.YtbjpfnpleajhgadPFnToursx0
import Derived.Test.YtbjpfnpleajhgadPFnToursx3
import Derived.Test.YtbjpfnpleajhgadPFnToursx6
namespace Go.Proofs.Ytbjpfnpleajhgad.PFnTours
open Go.RowKit Go.Proofs.Ytbjpfnpleajhgad.Own Go.Proofs.YtbjpfnpleajhgadW.PrintWords Go.Proofs.YtbjpfnpleajhgadW.PrintLast Go.Proofs.YtbjpfnpleajhgadW.PrintMore
attribute [local go_sem] max2_int min2_int max_two min_two max_three min_three max_four min_four   -- for this text's walks alone
set_option linter.unusedVariables false
set_option linter.unusedSimpArgs false

/-! ### spec_SweepWalk: function 10 -/
def Q17.f (k : Nat) (a0_0 : Int) (a0_1 : Bool) (a1 : Int) : Option (List Int × Bool) := (Q18.f a0_0 a0_1 a1).bind fun t322 => (if t322 = true then (if a0_1 = true then ((Q4.f k a0_0 a0_1 a1 1 (wrap64 (a0_0 - 1))).bind fun t326 => (some (t326, true))) else (if a1 ≤ (wrap64 ((wrap64 (a0_0 - 1)) - a1)) then ((Q4.f k a0_0 a0_1 a1 (-1) a1).bind fun t329 => ((Q4.f k a0_0 a0_1 0 1 (wrap64 (a0_0 - 1))).bind fun t332 => (if 1 ≤ (t332.length : Int) then ((some (t332.drop 1 : List Int)).bind fun y335 => (if t329.length + y335.length < 17592186044416 then (some ((t329 ++ y335), true)) else (none))) else (none)))) else ((Q4.f k a0_0 a0_1 a1 1 (wrap64 ((wrap64 (a0_0 - 1)) - a1))).bind fun t342 => ((Q4.f k a0_0 a0_1 (wrap64 (a0_0 - 1)) (-1) (wrap64 (a0_0 - 1))).bind fun t345 => (if 1 ≤ (t345.length : Int) then ((some (t345.drop 1 : List Int)).bind fun y348 => (if t342.length + y348.length < 17592186044416 then (some ((t342 ++ y348), true)) else (none))) else (none)))))) else (some ((([] : List Int)), false)))
theorem Q17.mono : ∀ a0 a1 a2 k, LeO (Q17.f k a0 a1 a2) (Q17.f (k + 1) a0 a1 a2) := by
  intro a0 a1 a2 k
  unfold Q17.f
  repeat' first
      | (with_reducible exact Q4.mono _ _ _ _ _ _)
      | (with_reducible exact LeO.refl _)
      | (with_reducible exact LeO.none _)
      | (with_reducible refine LeO.ite ?_ ?_)
      | (with_reducible refine LeO.bind ?_ (fun _ => ?_))
      | exact Q4.mono _ _ _ _ _ _
      | exact LeO.none _
      | refine LeO.ite ?_ ?_
      | refine LeO.bind ?_ (fun _ => ?_)
def Q17.T6 : Bool × List (List Nat × List Nat) := (true, [([], []), ([], []), ([], []), ([0, 1, 2], [0, 1, 2]), ([], []), ([], []), ([5], [5]), ([6], [6]), ([4, 7, 3], [4, 7]), ([8], [8]), ([3, 9, 8], [3, 9]), ([10, 10, 0, 1, 2, 3, 4, 5, 6, 7, 8, 9, 10], [10]), ([11, 0, 1, 2, 3, 4, 5, 6, 7, 8, 9, 10, 11], [])])
def Q17.B6 : List Nat := [0, 0, 0, 7, 0, 0, 32, 96, 255, 511, 1023, 2047, 4095]
theorem Q17.tab6 : rtab .any (opsOf Try.f10 6) = Q17.T6 := by kernel_rfl
theorem Q17.bits6 : waitsOk Q17.T6.2 Q17.B6 = true := by kernel_rfl
def Q17.T7 : Bool × List (List Nat × List Nat) := (true, [([], []), ([], []), ([], []), ([2], [2]), ([3], [3]), ([], []), ([4, 5], [4, 5]), ([0, 1, 6], [0, 1, 6]), ([], []), ([], []), ([9], [9]), ([10], [10]), ([], []), ([12], [12]), ([13], [13]), ([8, 11, 14, 7], [8, 11, 14]), ([15], [15]), ([7, 16, 15], [7, 16]), ([17, 17, 0, 1, 2, 3, 4, 5, 6, 7, 8, 9, 10, 11, 12, 13, 14, 15, 16, 17], [17]), ([18, 0, 1, 2, 3, 4, 5, 6, 7, 8, 9, 10, 11, 12, 13, 14, 15, 16, 17, 18], [])])
def Q17.B7 : List Nat := [0, 0, 0, 4, 12, 0, 60, 127, 0, 0, 512, 1536, 0, 4096, 12288, 32767, 65535, 131071, 262143, 524287]
theorem Q17.tab7 : rtab .any (opsOf Try.f10 7) = Q17.T7 := by kernel_rfl
theorem Q17.bits7 : waitsOk Q17.T7.2 Q17.B7 = true := by kernel_rfl
set_option maxHeartbeats 8000000 in
set_option maxRecDepth 100000 in
theorem Q17.calls (k : Nat) (a0_0 : Int) (a0_1 : Bool) (a1 : Int) (r1 : List Int) (r2 : Bool) (w : World) (h : Q17.f k a0_0 a0_1 a1 = some (r1, r2)) :
    Calls Try.prog 10 #[.agg #[.int .i64 a0_0, .bool a0_1], .int .i64 a1] w fun e w' => ∃ v0_ : Value, e = .returned (.tuple #[v0_, .bool r2]) ∧ Kd.R (Kd.int .i64) 3 w' w.heap.size (fun _ => True) v0_ r1 ∧ Below w.heap.size w w' := by
 have hu25 := Try.underlying25; have HB := A_ (Below.refl w.heap.size w); have H : ((Q18.f a0_0 a0_1 a1).bind fun t322 => (if t322 = true then (if a0_1 = true then ((Q4.f k a0_0 a0_1 a1 1 (wrap64 (a0_0 - 1))).bind fun t326 => (some (t326, true))) else (if a1 ≤ (wrap64 ((wrap64 (a0_0 - 1)) - a1)) then ((Q4.f k a0_0 a0_1 a1 (-1) a1).bind fun t329 => ((Q4.f k a0_0 a0_1 0 1 (wrap64 (a0_0 - 1))).bind fun t332 => (if 1 ≤ (t332.length : Int) then ((some (t332.drop 1 : List Int)).bind fun y335 => (if t329.length + y335.length < 17592186044416 then (some ((t329 ++ y335), true)) else (none))) else (none)))) else ((Q4.f k a0_0 a0_1 a1 1 (wrap64 ((wrap64 (a0_0 - 1)) - a1))).bind fun t342 => ((Q4.f k a0_0 a0_1 (wrap64 (a0_0 - 1)) (-1) (wrap64 (a0_0 - 1))).bind fun t345 => (if 1 ≤ (t345.length : Int) then ((some (t345.drop 1 : List Int)).bind fun y348 => (if t342.length + y348.length < 17592186044416 then (some ((t342 ++ y348), true)) else (none))) else (none)))))) else (some ((([] : List Int)), false)))) = some (r1, r2) := h; clear h; replace H := bm H; obtain ⟨t322, A3, H⟩ := H; by_cases c4 : t322 = true
 ·
  subst c4
  have H1 : (if a0_1 = true then ((Q4.f k a0_0 a0_1 a1 1 (wrap64 (a0_0 - 1))).bind fun t326 => (some (t326, true))) else (if a1 ≤ (wrap64 ((wrap64 (a0_0 - 1)) - a1)) then ((Q4.f k a0_0 a0_1 a1 (-1) a1).bind fun t329 => ((Q4.f k a0_0 a0_1 0 1 (wrap64 (a0_0 - 1))).bind fun t332 => (if 1 ≤ (t332.length : Int) then ((some (t332.drop 1 : List Int)).bind fun y335 => (if t329.length + y335.length < 17592186044416 then (some ((t329 ++ y335), true)) else (none))) else (none)))) else ((Q4.f k a0_0 a0_1 a1 1 (wrap64 ((wrap64 (a0_0 - 1)) - a1))).bind fun t342 => ((Q4.f k a0_0 a0_1 (wrap64 (a0_0 - 1)) (-1) (wrap64 (a0_0 - 1))).bind fun t345 => (if 1 ≤ (t345.length : Int) then ((some (t345.drop 1 : List Int)).bind fun y348 => (if t342.length + y348.length < 17592186044416 then (some ((t342 ++ y348), true)) else (none))) else (none)))))) = some (r1, r2) := by rw [if_pos rfl] at H; exact H
  clear H; have H := H1; clear H1; by_cases c5 : a0_1 = true
  ·
   subst c5
   have H1 : ((Q4.f k a0_0 true a1 1 (wrap64 (a0_0 - 1))).bind fun t326 => (some (t326, true))) = some (r1, r2) := by rw [if_pos rfl] at H; exact H
   clear H; have H := H1; clear H1; replace H := bm H; obtain ⟨t326, A6, H⟩ := H; simp only [Option.some.injEq, Prod.mk.injEq] at H
   obtain ⟨rfl, rfl⟩ := H; go_enter Try.func10, Try.ntmps10
   go_wp2_with (first | ((with_reducible refine gate_dst (N := 2) rfl ?_); refine bx (N := 2) #[.int .i64 a0_0, .bool true] 25 ?_; intro gb321 hg w7 hbox hb; have BK321 := A_ (hbox); have GW321 := A_ (bs hg (hq HB) : w.heap.size ≤ gb321); have GE321 := A_ (bs hg (hq HB) : w.heap.size ≤ gb321); replace HB := A_ (below_step (hq HB) hb); clear hb hbox hg; have hcz8_0 : w7.cell? ⟨gb321, 0, none⟩ = some (.int .i64 a0_0) := bc BK321 0; have hcz8_1 : w7.cell? ⟨gb321, 1, none⟩ = some (.bool true) := bc BK321 1; have hfz8_0 := blk_frozen BK321.out 0; have hfz8_1 := blk_frozen BK321.out 1) | ((with_reducible refine gate_callee (f := 27) rfl ?_); refine gL (some 8) Try.func27 #[.agg #[.int .i64 a0_0, .bool true], .int .i64 a1] ?_; (with_reducible refine (Q18.calls a0_0 true a1 true _ A3.out).mono ?_); rintro e w9 ⟨rfl, hb⟩; refine ⟨_, rfl, ?_⟩; replace BK321 := A_ (blk_below (bq BK321) hb); replace HB := A_ (below_step (hq HB) hb); clear hb; have hcz10_0 : w9.cell? ⟨gb321, 0, none⟩ = some (.int .i64 a0_0) := bc BK321 0; have hcz10_1 : w9.cell? ⟨gb321, 1, none⟩ = some (.bool true) := bc BK321 1; have hfz10_0 := blk_frozen BK321.out 0; have hfz10_1 := blk_frozen BK321.out 1) | ((with_reducible refine gate_callee (f := 34) rfl ?_); refine gL (some 18) Try.func34 #[.agg #[.int .i64 a0_0, .bool true], .int .i64 a1, .int .i64 1, .int .i64 (wrap64 (a0_0 - 1))] ?_; (with_reducible refine (Q4.calls k a0_0 true a1 1 (wrap64 (a0_0 - 1)) t326 _ A6.out).mono ?_); rintro e w11 ⟨v327, rfl, ho0, hb⟩; refine ⟨_, rfl, ?_⟩; have HO328 := A_ (Kd.R_lower ho0 (below_size (hq HB))); replace BK321 := A_ (blk_below (bq BK321) hb); replace HB := A_ (below_step (hq HB) hb); clear hb ho0))
   go_ret2
   exact ⟨_, rt, rq HO328, hq HB⟩
  ·
   replace c5 := Bool.eq_false_iff.mpr c5; subst c5
   have H1 : (if a1 ≤ (wrap64 ((wrap64 (a0_0 - 1)) - a1)) then ((Q4.f k a0_0 false a1 (-1) a1).bind fun t329 => ((Q4.f k a0_0 false 0 1 (wrap64 (a0_0 - 1))).bind fun t332 => (if 1 ≤ (t332.length : Int) then ((some (t332.drop 1 : List Int)).bind fun y335 => (if t329.length + y335.length < 17592186044416 then (some ((t329 ++ y335), true)) else (none))) else (none)))) else ((Q4.f k a0_0 false a1 1 (wrap64 ((wrap64 (a0_0 - 1)) - a1))).bind fun t342 => ((Q4.f k a0_0 false (wrap64 (a0_0 - 1)) (-1) (wrap64 (a0_0 - 1))).bind fun t345 => (if 1 ≤ (t345.length : Int) then ((some (t345.drop 1 : List Int)).bind fun y348 => (if t342.length + y348.length < 17592186044416 then (some ((t342 ++ y348), true)) else (none))) else (none))))) = some (r1, r2) := by rw [if_neg (show ¬ (false = true) by decide)] at H; exact H
   clear H; have H := H1; clear H1; by_cases c12 : a1 ≤ (wrap64 ((wrap64 (a0_0 - 1)) - a1))
   ·
    rw [if_pos c12] at H; have c12b0 := decide_eq_true c12; clear c12; replace H := bm H; obtain ⟨t329, A13, H⟩ := H; replace H := bm H; obtain ⟨t332, A14, H⟩ := H; by_cases c15 : 1 ≤ (t332.length : Int)
    ·
     rw [if_pos c15] at H; have c15b0 := eq_true c15; have c15b1 := decide_eq_true c15; clear c15
     obtain ⟨y335, hy335⟩ : ∃ y_ : List Int, y_ = (t332.drop 1) := ⟨_, rfl⟩
     replace H : (if t329.length + y335.length < 17592186044416 then (some ((t329 ++ y335), true)) else (none)) = some (r1, r2) := by first | (rw [hy335]; with_reducible exact H) | (have H2_ := (Option.bind_some _ _).symm.trans H; rw [hy335]; with_reducible exact H2_) | (have H2_ := (Option.bind_some _ _).symm.trans H; with_reducible exact H2_) | with_reducible exact H | (rw [hy335]; exact H) | exact H
     have Ny335 := A_ hy335; clear hy335; by_cases c16 : t329.length + y335.length < 17592186044416
     ·
      rw [if_pos c16] at H; have LMc16 := A_ c16; clear c16
      obtain ⟨y339, hy339⟩ : ∃ y_ : List Int, y_ = (t329 ++ y335) := ⟨_, rfl⟩
      replace H : (some (y339, true)) = some (r1, r2) := by first | (rw [hy339]; with_reducible exact H) | (have H2_ := (Option.bind_some _ _).symm.trans H; rw [hy339]; with_reducible exact H2_) | (have H2_ := (Option.bind_some _ _).symm.trans H; with_reducible exact H2_) | with_reducible exact H | (rw [hy339]; exact H) | exact H
      have Ny339 := A_ hy339; clear hy339; simp only [Option.some.injEq, Prod.mk.injEq] at H
      obtain ⟨rfl, rfl⟩ := H; go_enter Try.func10, Try.ntmps10
      try go_wp2_with (first | ((with_reducible refine gate_dst (N := 2) rfl ?_); refine bx (N := 2) #[.int .i64 a0_0, .bool false] 25 ?_; intro gb321 hg w17 hbox hb; have BK321 := A_ (hbox); have GW321 := A_ (bs hg (hq HB) : w.heap.size ≤ gb321); have GE321 := A_ (bs hg (hq HB) : w.heap.size ≤ gb321); replace HB := A_ (below_step (hq HB) hb); clear hb hbox hg; have hcz18_0 : w17.cell? ⟨gb321, 0, none⟩ = some (.int .i64 a0_0) := bc BK321 0; have hcz18_1 : w17.cell? ⟨gb321, 1, none⟩ = some (.bool false) := bc BK321 1; have hfz18_0 := blk_frozen BK321.out 0; have hfz18_1 := blk_frozen BK321.out 1) | ((with_reducible refine gate_callee (f := 27) rfl ?_); refine gL (some 8) Try.func27 #[.agg #[.int .i64 a0_0, .bool false], .int .i64 a1] ?_; (with_reducible refine (Q18.calls a0_0 false a1 true _ A3.out).mono ?_); rintro e w19 ⟨rfl, hb⟩; refine ⟨_, rfl, ?_⟩; replace BK321 := A_ (blk_below (bq BK321) hb); replace HB := A_ (below_step (hq HB) hb); clear hb; have hcz20_0 : w19.cell? ⟨gb321, 0, none⟩ = some (.int .i64 a0_0) := bc BK321 0; have hcz20_1 : w19.cell? ⟨gb321, 1, none⟩ = some (.bool false) := bc BK321 1; have hfz20_0 := blk_frozen BK321.out 0; have hfz20_1 := blk_frozen BK321.out 1))
      replace BK321 := A_ (blk_drew BK321.out); replace HB := A_ (below_drew1 HB.out); refine start_ (n := 13) (S := fun w' => w'.cell? ⟨gb321, 0, none⟩ = some (.int .i64 a0_0) ∧ w'.cell? ⟨gb321, 1, none⟩ = some (.bool false)) (ds := []) #[false, false, false, false, false, false, false, false, false, false, false, false, false] (by kernel_rfl) rfl rfl ⟨bc BK321 0, bc BK321 1⟩ (fun hHeld => ?_); refine with_tabW Q17.tab6 Q17.bits6 (fun HT_ HW_ => ?_); generalize w19.drew = w21 at BK321 HB hHeld ⊢; refine puT (i := 1) (N := some 27) HT_ #[false, true, false, false, false, false, false, false, false, false, false, false, false] ?_; refine puT (i := 2) (N := some 28) HT_ #[false, true, true, false, false, false, false, false, false, false, false, false, false] ?_; refine puT (i := 5) (N := some 31) HT_ #[false, true, true, false, false, true, false, false, false, false, false, false, false] ?_; refine tkT (i := 0) (N := some 26) HT_ HW_ hHeld #[true, true, true, false, false, true, false, false, false, false, false, false, false] ?_; refine tkT (i := 4) (N := some 30) HT_ HW_ hHeld #[true, true, true, false, true, true, false, false, false, false, false, false, false] ?_; refine tkT (i := 6) (N := some 32) HT_ HW_ hHeld #[true, true, true, false, true, true, true, false, false, false, false, false, false] ?_; refine puT (i := 7) (N := some 33) HT_ #[true, true, true, false, true, true, true, true, false, false, false, false, false] ?_; refine onT (i := 3) (N := some 29) HT_ #[true, true, true, true, true, true, true, true, false, false, false, false, false] (fun K hK => ?_); refine go_ Try.func34 #[.agg #[.int .i64 a0_0, .bool false], .int .i64 a1, .int .i64 (-1), .int .i64 a1] ?_; with_reducible refine (Q4.calls k a0_0 false a1 (-1) a1 t329 _ A13.out).mono ?_
      rintro e w22 ⟨v330, rfl, ho0, hb⟩; refine ⟨_, rfl, ?_⟩; have HO331 := A_ (Kd.R_lower ho0 (below_size (hq HB))); replace BK321 := A_ (blk_below (bq BK321) hb); replace HB := A_ (below_step (hq HB) hb); clear hb ho0; refine hK.out _ _ ⟨bc BK321 0, bc BK321 1⟩ (fun hHeld => ?_); clear hK K; refine nq_ (some 29) ?_; refine onT (i := 8) (N := some 34) HT_ #[true, true, true, true, true, true, true, true, true, false, false, false, false] (fun K hK => ?_); refine go_ Try.func34 #[.agg #[.int .i64 a0_0, .bool false], .int .i64 0, .int .i64 1, .int .i64 (wrap64 (a0_0 - 1))] ?_; with_reducible refine (Q4.calls k a0_0 false 0 1 (wrap64 (a0_0 - 1)) t332 _ A14.out).mono ?_
      rintro e w23 ⟨v333, rfl, ho0, hb⟩; refine ⟨_, rfl, ?_⟩; have HO334 := A_ (Kd.R_lower (Kd.R_new' ho0 (Kd.R_lt (rq HO331))) (below_size (hq HB))); replace HO331 := A_ (Kd.R_elder' (rq HO331) (Kd.R_base ho0) hb); replace BK321 := A_ (blk_below (bq BK321) hb); replace HB := A_ (below_step (hq HB) hb); clear hb ho0; obtain ⟨Ao25, co25, eo25⟩ := Kd.R_slice HO334.out; (first | subst eo25 | (injection eo25 with f1_ f2_ f3_; have f4_ := f1_.symm; have f5_ := f3_.symm; clear f1_ f2_ f3_; subst f4_; subst f5_)); have q24 : (1 : Int) ≤ ((t332.length : Int) : Int) := dq; obtain ⟨i024, hi024, _, hsz24, _⟩ := info_parts info3; have hroom24 : t332.length ≤ co25 := (Kd.R_reads' HO334.out).2.1; have hC24 : Kd.C (Kd.int .i64) _ Ao25 t332.length t332 := (Kd.R_reads' HO334.out).2.2; have hcut24 := cut_from (P := Try.prog) 26 3 .i64 Try.underlying26 hi024 1 hsz24 Ao25 t332.length co25 1 (by omega) q24; have hr24 := Kd.C_drop (m := (1 : Int).toNat) (c := co25) hC24 (by omega) hroom24
      obtain ⟨A24, hA24⟩ : ∃ A1, A1 = (if co25 = (1 : Int).toNat then Ao25 else (Ao25 : Option Addr).map (·.add ((1 : Int).toNat * 1))) := ⟨_, rfl⟩
      obtain ⟨c24, hc24⟩ : ∃ c1, c1 = co25 - (1 : Int).toNat := ⟨_, rfl⟩
      have hy24 : y335.length = t332.length - (1 : Int).toNat := (by rw [Ny335.out, List.length_drop] <;> omega)
      rw [show (t332).drop (1 : Int).toNat = y335 from Ny335.out.symm] at hr24
      replace hr24 : Kd.C (Kd.int .i64) _ A24 y335.length y335 := (by rw [hA24]; exact hr24)
      rw [← hy24, ← hA24, ← hc24] at hcut24; have HR338 := A_ hr24; have HC338 := A_ (show y335.length ≤ c24 from by rw [hy24, hc24]; exact Nat.sub_le_sub_right hroom24 _); clear hr24 hC24 hroom24 hi024 hsz24 hc24; have KY24 := A_ hy24; have KA24 := A_ hA24; clear hy24 hA24; have KL24 := A_ (show 1 ≤ t332.length from by omega); replace q24 := eq_true q24; refine hK.out _ _ ⟨bc BK321 0, bc BK321 1⟩ (fun hHeld => ?_); clear hK K; refine nq_ (some 34) ?_; refine puT (i := 9) (N := some 35) HT_ #[true, true, true, true, true, true, true, true, true, true, false, false, false] ?_; refine onT (i := 10) (N := some 36) HT_ #[true, true, true, true, true, true, true, true, true, true, true, false, false] (fun K hK => ?_); refine Kd.R_append_rows_step (Kd.int .i64) (w0 := w) w.heap.size (by rfl) (.tmp 29) (.tmp 35) 26 3 (.int .i64 0) 8 rfl Try.underlying26 info3 rfl (by decide) (by omega) v330 t329 y335 _ _ _ (fun k_ => some k_ ≠ (.slice Ao25 t332.length co25 : Value).ownBlock) (fun _ => False) rfl rfl ?aO ?aR (fun _ _ h => h) (fun _ h => h.elim) ?aF ?aB ?aS ?aL ?_; (case aR => repeat (first | exact (by repeat (first | (with_reducible exact HR338.out) | (with_reducible refine Kd.C_alloc ?_ _) | (with_reducible refine Kd.C_drewN ?_ _) | (with_reducible refine Kd.C_drew ?_) | exact HR338.out)) | (with_reducible refine Kd.C_alloc ?_ _) | (with_reducible refine Kd.C_drewN ?_ _) | (with_reducible refine Kd.C_drew ?_))); (case aB => exact (hq HB)); (case aF => exact (fun k_ hk => Kd.fresh' (Kd.R_lt (rq HO334)) k_ hk)); (case aO => exact (by (with_reducible repeat (first | apply Kd.R_alloc | apply Kd.R_drewN | apply Kd.R_drew)); exact Kd.R_mono HO331.out (fun _ hk => hk.2))); (case aS => exact (below_size (hq HB))); (case aL => have := LMc16.out; omega); intro v340 w26 ho hb hg hat; rw [← Ny339.out] at ho; have n0_ := A_ (blk_grown (g := gb321) (o := .cells #[.int .i64 a0_0, .bool false] 25 (0, 0)) (bq BK321) hg (Kd.R_ne HO331.out BK321.out (by decide))); have n1_ := A_ (Kd.R_after (ok := (fun _ => True)) (rq HO334) hg hat); have n2_ := A_ (hb); have n3_ := A_ ((show Kd.C (Kd.int .i64) w26 A24 y335.length y335 from by rw [Ny335.out, KA24.out]; exact Kd.C_drop (m := 1) (c := co25) ((Kd.R_reads' (Kd.R_after (ok := (fun _ => True)) (rq HO334) hg hat)).2.2) KL24.out ((Kd.R_reads' (Kd.R_after (ok := (fun _ => True)) (rq HO334) hg hat)).2.1))); have n4_ := A_ (ho); clear BK321 HO334 HB HR338 HO331; have BK321 := n0_; have HO334 := n1_; have HB := n2_; have HR338 := n3_; have HO341 := n4_; clear n0_ n1_ n2_ n3_ n4_ ho hb hg hat; refine hK.out _ _ ⟨bc BK321 0, bc BK321 1⟩ (fun hHeld => ?_); clear hK K; refine nq_ (some 36) ?_; refine puT (i := 11) (N := some 4) HT_ #[true, true, true, true, true, true, true, true, true, true, true, true, false] ?_; refine puT (i := 12) (N := some 5) HT_ #[true, true, true, true, true, true, true, true, true, true, true, true, true] ?_; refine done_ (done_of HT_.out (by kernel_rfl)) ?_; try go_wp2
      go_ret2
      exact ⟨_, rt, by (with_reducible repeat (first | apply Kd.R_alloc | apply Kd.R_drewN | apply Kd.R_drew)); exact Kd.R_mono HO341.out (fun _ hk => trivial), hq HB⟩
     ·
      rw [if_neg c16] at H; exact absurd H (by simp)
    ·
     rw [if_neg c15] at H; exact absurd H (by simp)
   ·
    rw [if_neg c12] at H; have c12b0 := decide_eq_false c12; clear c12; replace H := bm H; obtain ⟨t342, A27, H⟩ := H; replace H := bm H; obtain ⟨t345, A28, H⟩ := H; by_cases c29 : 1 ≤ (t345.length : Int)
    ·
     rw [if_pos c29] at H; have c29b0 := eq_true c29; have c29b1 := decide_eq_true c29; clear c29
     obtain ⟨y348, hy348⟩ : ∃ y_ : List Int, y_ = (t345.drop 1) := ⟨_, rfl⟩
     replace H : (if t342.length + y348.length < 17592186044416 then (some ((t342 ++ y348), true)) else (none)) = some (r1, r2) := by first | (rw [hy348]; with_reducible exact H) | (have H2_ := (Option.bind_some _ _).symm.trans H; rw [hy348]; with_reducible exact H2_) | (have H2_ := (Option.bind_some _ _).symm.trans H; with_reducible exact H2_) | with_reducible exact H | (rw [hy348]; exact H) | exact H
     have Ny348 := A_ hy348; clear hy348; by_cases c30 : t342.length + y348.length < 17592186044416
     ·
      rw [if_pos c30] at H; have LMc30 := A_ c30; clear c30
      obtain ⟨y352, hy352⟩ : ∃ y_ : List Int, y_ = (t342 ++ y348) := ⟨_, rfl⟩
      replace H : (some (y352, true)) = some (r1, r2) := by first | (rw [hy352]; with_reducible exact H) | (have H2_ := (Option.bind_some _ _).symm.trans H; rw [hy352]; with_reducible exact H2_) | (have H2_ := (Option.bind_some _ _).symm.trans H; with_reducible exact H2_) | with_reducible exact H | (rw [hy352]; exact H) | exact H
      have Ny352 := A_ hy352; clear hy352; simp only [Option.some.injEq, Prod.mk.injEq] at H
      obtain ⟨rfl, rfl⟩ := H; go_enter Try.func10, Try.ntmps10
      try go_wp2_with (first | ((with_reducible refine gate_dst (N := 2) rfl ?_); refine bx (N := 2) #[.int .i64 a0_0, .bool false] 25 ?_; intro gb321 hg w31 hbox hb; have BK321 := A_ (hbox); have GW321 := A_ (bs hg (hq HB) : w.heap.size ≤ gb321); have GE321 := A_ (bs hg (hq HB) : w.heap.size ≤ gb321); replace HB := A_ (below_step (hq HB) hb); clear hb hbox hg; have hcz32_0 : w31.cell? ⟨gb321, 0, none⟩ = some (.int .i64 a0_0) := bc BK321 0; have hcz32_1 : w31.cell? ⟨gb321, 1, none⟩ = some (.bool false) := bc BK321 1; have hfz32_0 := blk_frozen BK321.out 0; have hfz32_1 := blk_frozen BK321.out 1) | ((with_reducible refine gate_callee (f := 27) rfl ?_); refine gL (some 8) Try.func27 #[.agg #[.int .i64 a0_0, .bool false], .int .i64 a1] ?_; (with_reducible refine (Q18.calls a0_0 false a1 true _ A3.out).mono ?_); rintro e w33 ⟨rfl, hb⟩; refine ⟨_, rfl, ?_⟩; replace BK321 := A_ (blk_below (bq BK321) hb); replace HB := A_ (below_step (hq HB) hb); clear hb; have hcz34_0 : w33.cell? ⟨gb321, 0, none⟩ = some (.int .i64 a0_0) := bc BK321 0; have hcz34_1 : w33.cell? ⟨gb321, 1, none⟩ = some (.bool false) := bc BK321 1; have hfz34_0 := blk_frozen BK321.out 0; have hfz34_1 := blk_frozen BK321.out 1))
      replace BK321 := A_ (blk_drew BK321.out); replace HB := A_ (below_drew1 HB.out); refine start_ (n := 20) (S := fun w' => w'.cell? ⟨gb321, 0, none⟩ = some (.int .i64 a0_0) ∧ w'.cell? ⟨gb321, 1, none⟩ = some (.bool false)) (ds := []) #[false, false, false, false, false, false, false, false, false, false, false, false, false, false, false, false, false, false, false, false] (by kernel_rfl) rfl rfl ⟨bc BK321 0, bc BK321 1⟩ (fun hHeld => ?_); refine with_tabW Q17.tab7 Q17.bits7 (fun HT_ HW_ => ?_); generalize w33.drew = w35 at BK321 HB hHeld ⊢; refine puT (i := 1) (N := some 38) HT_ #[false, true, false, false, false, false, false, false, false, false, false, false, false, false, false, false, false, false, false, false] ?_; refine puT (i := 2) (N := some 39) HT_ #[false, true, true, false, false, false, false, false, false, false, false, false, false, false, false, false, false, false, false, false] ?_; refine puT (i := 5) (N := some 42) HT_ #[false, true, true, false, false, true, false, false, false, false, false, false, false, false, false, false, false, false, false, false] ?_; refine puT (i := 9) (N := some 46) HT_ #[false, true, true, false, false, true, false, false, false, true, false, false, false, false, false, false, false, false, false, false] ?_; refine puT (i := 12) (N := some 49) HT_ #[false, true, true, false, false, true, false, false, false, true, false, false, true, false, false, false, false, false, false, false] ?_; refine tkT (i := 0) (N := some 37) HT_ HW_ hHeld #[true, true, true, false, false, true, false, false, false, true, false, false, true, false, false, false, false, false, false, false] ?_; refine tkT (i := 3) (N := some 40) HT_ HW_ hHeld #[true, true, true, true, false, true, false, false, false, true, false, false, true, false, false, false, false, false, false, false] ?_; refine puT (i := 4) (N := some 41) HT_ #[true, true, true, true, true, true, false, false, false, true, false, false, true, false, false, false, false, false, false, false] ?_; refine puT (i := 6) (N := some 43) HT_ #[true, true, true, true, true, true, true, false, false, true, false, false, true, false, false, false, false, false, false, false] ?_; refine tkT (i := 8) (N := some 45) HT_ HW_ hHeld #[true, true, true, true, true, true, true, false, true, true, false, false, true, false, false, false, false, false, false, false] ?_; refine tkT (i := 10) (N := some 47) HT_ HW_ hHeld #[true, true, true, true, true, true, true, false, true, true, true, false, true, false, false, false, false, false, false, false] ?_; refine puT (i := 11) (N := some 48) HT_ #[true, true, true, true, true, true, true, false, true, true, true, true, true, false, false, false, false, false, false, false] ?_; refine tkT (i := 13) (N := some 50) HT_ HW_ hHeld #[true, true, true, true, true, true, true, false, true, true, true, true, true, true, false, false, false, false, false, false] ?_; refine puT (i := 14) (N := some 51) HT_ #[true, true, true, true, true, true, true, false, true, true, true, true, true, true, true, false, false, false, false, false] ?_; refine onT (i := 7) (N := some 44) HT_ #[true, true, true, true, true, true, true, true, true, true, true, true, true, true, true, false, false, false, false, false] (fun K hK => ?_); refine go_ Try.func34 #[.agg #[.int .i64 a0_0, .bool false], .int .i64 a1, .int .i64 1, .int .i64 (wrap64 ((wrap64 (a0_0 - 1)) - a1))] ?_; with_reducible refine (Q4.calls k a0_0 false a1 1 (wrap64 ((wrap64 (a0_0 - 1)) - a1)) t342 _ A27.out).mono ?_
      rintro e w36 ⟨v343, rfl, ho0, hb⟩; refine ⟨_, rfl, ?_⟩; have HO344 := A_ (Kd.R_lower ho0 (below_size (hq HB))); replace BK321 := A_ (blk_below (bq BK321) hb); replace HB := A_ (below_step (hq HB) hb); clear hb ho0; refine hK.out _ _ ⟨bc BK321 0, bc BK321 1⟩ (fun hHeld => ?_); clear hK K; refine nq_ (some 44) ?_; refine onT (i := 15) (N := some 52) HT_ #[true, true, true, true, true, true, true, true, true, true, true, true, true, true, true, true, false, false, false, false] (fun K hK => ?_); refine go_ Try.func34 #[.agg #[.int .i64 a0_0, .bool false], .int .i64 (wrap64 (a0_0 - 1)), .int .i64 (-1), .int .i64 (wrap64 (a0_0 - 1))] ?_; with_reducible refine (Q4.calls k a0_0 false (wrap64 (a0_0 - 1)) (-1) (wrap64 (a0_0 - 1)) t345 _ A28.out).mono ?_
      rintro e w37 ⟨v346, rfl, ho0, hb⟩; refine ⟨_, rfl, ?_⟩; have HO347 := A_ (Kd.R_lower (Kd.R_new' ho0 (Kd.R_lt (rq HO344))) (below_size (hq HB))); replace HO344 := A_ (Kd.R_elder' (rq HO344) (Kd.R_base ho0) hb); replace BK321 := A_ (blk_below (bq BK321) hb); replace HB := A_ (below_step (hq HB) hb); clear hb ho0; obtain ⟨Ao39, co39, eo39⟩ := Kd.R_slice HO347.out; (first | subst eo39 | (injection eo39 with f1_ f2_ f3_; have f4_ := f1_.symm; have f5_ := f3_.symm; clear f1_ f2_ f3_; subst f4_; subst f5_)); have q38 : (1 : Int) ≤ ((t345.length : Int) : Int) := dq; obtain ⟨i038, hi038, _, hsz38, _⟩ := info_parts info3; have hroom38 : t345.length ≤ co39 := (Kd.R_reads' HO347.out).2.1; have hC38 : Kd.C (Kd.int .i64) _ Ao39 t345.length t345 := (Kd.R_reads' HO347.out).2.2; have hcut38 := cut_from (P := Try.prog) 26 3 .i64 Try.underlying26 hi038 1 hsz38 Ao39 t345.length co39 1 (by omega) q38; have hr38 := Kd.C_drop (m := (1 : Int).toNat) (c := co39) hC38 (by omega) hroom38
      obtain ⟨A38, hA38⟩ : ∃ A1, A1 = (if co39 = (1 : Int).toNat then Ao39 else (Ao39 : Option Addr).map (·.add ((1 : Int).toNat * 1))) := ⟨_, rfl⟩
      obtain ⟨c38, hc38⟩ : ∃ c1, c1 = co39 - (1 : Int).toNat := ⟨_, rfl⟩
      have hy38 : y348.length = t345.length - (1 : Int).toNat := (by rw [Ny348.out, List.length_drop] <;> omega)
      rw [show (t345).drop (1 : Int).toNat = y348 from Ny348.out.symm] at hr38
      replace hr38 : Kd.C (Kd.int .i64) _ A38 y348.length y348 := (by rw [hA38]; exact hr38)
      rw [← hy38, ← hA38, ← hc38] at hcut38; have HR351 := A_ hr38; have HC351 := A_ (show y348.length ≤ c38 from by rw [hy38, hc38]; exact Nat.sub_le_sub_right hroom38 _); clear hr38 hC38 hroom38 hi038 hsz38 hc38; have KY38 := A_ hy38; have KA38 := A_ hA38; clear hy38 hA38; have KL38 := A_ (show 1 ≤ t345.length from by omega); replace q38 := eq_true q38; refine hK.out _ _ ⟨bc BK321 0, bc BK321 1⟩ (fun hHeld => ?_); clear hK K; refine nq_ (some 52) ?_; refine puT (i := 16) (N := some 53) HT_ #[true, true, true, true, true, true, true, true, true, true, true, true, true, true, true, true, true, false, false, false] ?_; refine onT (i := 17) (N := some 54) HT_ #[true, true, true, true, true, true, true, true, true, true, true, true, true, true, true, true, true, true, false, false] (fun K hK => ?_); refine Kd.R_append_rows_step (Kd.int .i64) (w0 := w) w.heap.size (by rfl) (.tmp 44) (.tmp 53) 26 3 (.int .i64 0) 8 rfl Try.underlying26 info3 rfl (by decide) (by omega) v343 t342 y348 _ _ _ (fun k_ => some k_ ≠ (.slice Ao39 t345.length co39 : Value).ownBlock) (fun _ => False) rfl rfl ?aO ?aR (fun _ _ h => h) (fun _ h => h.elim) ?aF ?aB ?aS ?aL ?_; (case aR => repeat (first | exact (by repeat (first | (with_reducible exact HR351.out) | (with_reducible refine Kd.C_alloc ?_ _) | (with_reducible refine Kd.C_drewN ?_ _) | (with_reducible refine Kd.C_drew ?_) | exact HR351.out)) | (with_reducible refine Kd.C_alloc ?_ _) | (with_reducible refine Kd.C_drewN ?_ _) | (with_reducible refine Kd.C_drew ?_))); (case aB => exact (hq HB)); (case aF => exact (fun k_ hk => Kd.fresh' (Kd.R_lt (rq HO347)) k_ hk)); (case aO => exact (by (with_reducible repeat (first | apply Kd.R_alloc | apply Kd.R_drewN | apply Kd.R_drew)); exact Kd.R_mono HO344.out (fun _ hk => hk.2))); (case aS => exact (below_size (hq HB))); (case aL => have := LMc30.out; omega); intro v353 w40 ho hb hg hat; rw [← Ny352.out] at ho; have n0_ := A_ (blk_grown (g := gb321) (o := .cells #[.int .i64 a0_0, .bool false] 25 (0, 0)) (bq BK321) hg (Kd.R_ne HO344.out BK321.out (by decide))); have n1_ := A_ (Kd.R_after (ok := (fun _ => True)) (rq HO347) hg hat); have n2_ := A_ (hb); have n3_ := A_ ((show Kd.C (Kd.int .i64) w40 A38 y348.length y348 from by rw [Ny348.out, KA38.out]; exact Kd.C_drop (m := 1) (c := co39) ((Kd.R_reads' (Kd.R_after (ok := (fun _ => True)) (rq HO347) hg hat)).2.2) KL38.out ((Kd.R_reads' (Kd.R_after (ok := (fun _ => True)) (rq HO347) hg hat)).2.1))); have n4_ := A_ (ho); clear BK321 HO347 HB HR351 HO344; have BK321 := n0_; have HO347 := n1_; have HB := n2_; have HR351 := n3_; have HO354 := n4_; clear n0_ n1_ n2_ n3_ n4_ ho hb hg hat; refine hK.out _ _ ⟨bc BK321 0, bc BK321 1⟩ (fun hHeld => ?_); clear hK K; refine nq_ (some 54) ?_; refine puT (i := 18) (N := some 4) HT_ #[true, true, true, true, true, true, true, true, true, true, true, true, true, true, true, true, true, true, true, false] ?_; refine puT (i := 19) (N := some 5) HT_ #[true, true, true, true, true, true, true, true, true, true, true, true, true, true, true, true, true, true, true, true] ?_; refine done_ (done_of HT_.out (by kernel_rfl)) ?_; try go_wp2
      go_ret2
      exact ⟨_, rt, by (with_reducible repeat (first | apply Kd.R_alloc | apply Kd.R_drewN | apply Kd.R_drew)); exact Kd.R_mono HO354.out (fun _ hk => trivial), hq HB⟩
     ·
      rw [if_neg c30] at H; exact absurd H (by simp)
    ·
     rw [if_neg c29] at H; exact absurd H (by simp)
 ·
  replace c4 := Bool.eq_false_iff.mpr c4; subst c4
  have H1 : (some ((([] : List Int)), false)) = some (r1, r2) := by rw [if_neg (show ¬ (false = true) by decide)] at H; exact H
  clear H; have H := H1; clear H1
  obtain ⟨y323, hy323⟩ : ∃ y_ : List Int, y_ = (([] : List Int)) := ⟨_, rfl⟩
  replace H : (some (y323, false)) = some (r1, r2) := by first | (rw [hy323]; with_reducible exact H) | (have H2_ := (Option.bind_some _ _).symm.trans H; rw [hy323]; with_reducible exact H2_) | (have H2_ := (Option.bind_some _ _).symm.trans H; with_reducible exact H2_) | with_reducible exact H | (rw [hy323]; exact H) | exact H
  have Ny323 := A_ hy323; clear hy323; simp only [Option.some.injEq, Prod.mk.injEq] at H
  obtain ⟨rfl, rfl⟩ := H; go_enter Try.func10, Try.ntmps10
  go_wp2_with (first | ((with_reducible refine gate_dst (N := 2) rfl ?_); refine bx (N := 2) #[.int .i64 a0_0, .bool a0_1] 25 ?_; intro gb321 hg w41 hbox hb; have BK321 := A_ (hbox); have GW321 := A_ (bs hg (hq HB) : w.heap.size ≤ gb321); have GE321 := A_ (bs hg (hq HB) : w.heap.size ≤ gb321); replace HB := A_ (below_step (hq HB) hb); clear hb hbox hg; have hcz42_0 : w41.cell? ⟨gb321, 0, none⟩ = some (.int .i64 a0_0) := bc BK321 0; have hcz42_1 : w41.cell? ⟨gb321, 1, none⟩ = some (.bool a0_1) := bc BK321 1; have hfz42_0 := blk_frozen BK321.out 0; have hfz42_1 := blk_frozen BK321.out 1) | ((with_reducible refine gate_callee (f := 27) rfl ?_); refine gL (some 8) Try.func27 #[.agg #[.int .i64 a0_0, .bool a0_1], .int .i64 a1] ?_; (with_reducible refine (Q18.calls a0_0 a0_1 a1 false _ A3.out).mono ?_); rintro e w43 ⟨rfl, hb⟩; refine ⟨_, rfl, ?_⟩; replace BK321 := A_ (blk_below (bq BK321) hb); replace HB := A_ (below_step (hq HB) hb); clear hb) | ((with_reducible refine gate_dst (N := 10) rfl ?_); refine Kd.R_lit (Kd.int .i64) _ 3 ?hg (N := 10) ?hd (xs := ([] : List Int)) (inner := []) (ok := fun _ => True) (okp := fun _ => True) ?hr ?hp (fun _ hk => hk) trivial (Below.refl _ _) (Nat.le_refl _) (by simp) ?_; (case hd => rfl); (case hg => rfl); (case hr => first | (go_simp; done) | (go_simp; rfl)); (case hp => exact (Reps.none _ _)); intro v324 w44 ho45 hb hg_ hnew_; clear hg_ hnew_; (first | rw [← Ny323.out] at ho45 | (simp only [Int.reduceToNat] at ho45; rw [← Ny323.out] at ho45)); have HO325 := A_ (Kd.R_lower ho45 (below_size (hq HB))); replace BK321 := A_ (blk_below (bq BK321) hb); replace HB := A_ (below_step (hq HB) hb); clear hb ho45))
  go_ret2
  exact ⟨_, rt, rq HO325, hq HB⟩

/-! ### laws_rInts: function 11 -/
def Q32.l0 : Nat → List Int → List Int → Int → Option (Bool)
  | 0, _, _, _ => none
  | k + 1, x0, x1, x5 => if x5 < (x0.length : Int) then (if 0 ≤ x5 then (if x5 < (x1.length : Int) then (if (rd x0 x5) = (rd x1 x5) then (Q32.l0 k x0 x1 (wrap64 (x5 + 1))) else (some false)) else (none)) else (none)) else (some true)
def Q32.f (k : Nat) (l0 : List Int) (l1 : List Int) : Option (Bool) := if (l0.length : Int) = (l1.length : Int) then (Q32.l0 k l0 l1 0) else (some false)
set_option maxHeartbeats 8000000 in
set_option maxRecDepth 100000 in
theorem Q32.calls (k : Nat) (A0 : Option Addr) (c0 : Nat) (l0 : List Int) (A1 : Option Addr) (c1 : Nat) (l1 : List Int) (r : Bool) (w : World) (hr0 : Kd.C (Kd.int .i64) w A0 l0.length l0) (hc0 : l0.length ≤ c0) (hr1 : Kd.C (Kd.int .i64) w A1 l1.length l1) (hc1 : l1.length ≤ c1) (h : Q32.f k l0 l1 = some r) :
    Calls Try.prog 11 #[.slice A0 l0.length c0, .slice A1 l1.length c1] w fun e w' => e = .returned (.bool r) ∧ Drawn0 w w' := by
 have HR0 := A_ hr0; have HC0 := A_ hc0; clear hr0 hc0; have HR1 := A_ hr1; have HC1 := A_ hc1; clear hr1 hc1; have H : (if (l0.length : Int) = (l1.length : Int) then (Q32.l0 k l0 l1 0) else (some false)) = some r := h; clear h; by_cases c3 : (l0.length : Int) = (l1.length : Int)
 ·
  rw [if_pos c3] at H; have c3b0 : ((l0.length : Int) == (l1.length : Int)) = true := beq_iff_eq.mpr c3; have c3b1 : ((l0.length : Int) != (l1.length : Int)) = false := bne_eq_false_iff_eq.mpr c3
  have c3b2 : (l0.length == l1.length) = true := by first | simpa using c3 | (simp at c3 ⊢; omega)
  clear c3; have H' := A_ H; clear H; go_enter Try.func11, Try.ntmps11
  go_wp2
  repeat (go_quiet (fail); try go_wp2)
  go_loopg [5] k (fun kq v5 w' => ∃ (x5_1 : Int), v5 = .int .i64 x5_1 ∧ Aside0 (Q32.l0 kq l0 l1 x5_1 = some r) ∧ Aside0 (kq ≤ k) ∧ Drawn0 w w')
  case atStart => exact ⟨(0), rf, H', ⟨Nat.le_refl _⟩, by repeat (first | exact Drawn0.refl _ | apply Drawn0.step)⟩
  case round =>
   clear H'; (try clear c3); (try clear c3b0); (try clear c3b1); (try clear c3b2); obtain ⟨x5_1, rfl, HA, HK1, ⟨m1, rfl⟩⟩ := hrel
   cases gk with
   | zero => exact absurd HA.out (by simp [Q32.l0])
   | succ k1 =>
    have H := HA.out; clear HA; simp only [Q32.l0] at H
    by_cases c4 : x5_1 < (l0.length : Int)
    ·
     rw [if_pos c4] at H; have c4b0 := decide_eq_true c4; clear c4; by_cases c5 : 0 ≤ x5_1
     ·
      rw [if_pos c5] at H; have c5b0 := decide_eq_true c5; clear c5; by_cases c6 : x5_1 < (l1.length : Int)
      ·
       rw [if_pos c6] at H; have c6b0 := decide_eq_true c6; clear c6; by_cases c7 : (rd l0 x5_1) = (rd l1 x5_1)
       ·
        rw [if_pos c7] at H; have c7b0 : ((rd l0 x5_1) == (rd l1 x5_1)) = true := beq_iff_eq.mpr c7; have c7b1 : ((rd l0 x5_1) != (rd l1 x5_1)) = false := bne_eq_false_iff_eq.mpr c7; clear c7; have H' := A_ H; clear H; have p355 : 0 ≤ (x5_1 : Int) := dq; have q355 : x5_1 < (l0.length : Int) := dq; obtain ⟨ad355, e355, hx355_0⟩ := Kd.at_int HR0.out x5_1 p355 q355
        cases e355
        replace p355 := eq_true p355; replace q355 := eq_true q355; have p356 : 0 ≤ (x5_1 : Int) := dq; have q356 : x5_1 < (l1.length : Int) := dq; obtain ⟨ad356, e356, hx356_0⟩ := Kd.at_int HR1.out x5_1 p356 q356
        cases e356
        replace p356 := eq_true p356; replace q356 := eq_true q356; go_wp2
        repeat (go_quiet (fail); try go_wp2)
        go_roundg k1
        case measure => have := HK1.out; omega
        case rel => exact ⟨(wrap64 (x5_1 + 1)), rf, H', ⟨by have := HK1.out; omega⟩, by repeat (first | exact Drawn0.refl _ | apply Drawn0.step)⟩
       ·
        rw [if_neg c7] at H; have c7b0 : ((rd l0 x5_1) == (rd l1 x5_1)) = false := beq_eq_false_iff_ne.mpr c7; have c7b1 : ((rd l0 x5_1) != (rd l1 x5_1)) = true := bne_iff_ne.mpr c7; obtain rfl := Option.some.inj H; have p355 : 0 ≤ (x5_1 : Int) := dq; have q355 : x5_1 < (l0.length : Int) := dq; obtain ⟨ad355, e355, hx355_0⟩ := Kd.at_int HR0.out x5_1 p355 q355
        cases e355
        replace p355 := eq_true p355; replace q355 := eq_true q355; have p356 : 0 ≤ (x5_1 : Int) := dq; have q356 : x5_1 < (l1.length : Int) := dq; obtain ⟨ad356, e356, hx356_0⟩ := Kd.at_int HR1.out x5_1 p356 q356
        cases e356
        replace p356 := eq_true p356; replace q356 := eq_true q356; go_wp2
        repeat (go_quiet (fail); try go_wp2)
        go_ret
        exact ⟨rf, by repeat (first | exact Drawn0.refl _ | apply Drawn0.step)⟩
      ·
       rw [if_neg c6] at H; exact absurd H (by simp)
     ·
      rw [if_neg c5] at H; exact absurd H (by simp)
    ·
     rw [if_neg c4] at H; have c4b0 := decide_eq_false c4; clear c4; obtain rfl := Option.some.inj H; go_wp2
     repeat (go_quiet (fail); try go_wp2)
     go_ret
     exact ⟨rf, by repeat (first | exact Drawn0.refl _ | apply Drawn0.step)⟩
 ·
  rw [if_neg c3] at H; have c3b0 : ((l0.length : Int) == (l1.length : Int)) = false := beq_eq_false_iff_ne.mpr c3; have c3b1 : ((l0.length : Int) != (l1.length : Int)) = true := bne_iff_ne.mpr c3
  have c3b2 : (l0.length == l1.length) = false := by first | simpa using c3 | (simp at c3 ⊢; omega)
  obtain rfl := Option.some.inj H; go_enter Try.func11, Try.ntmps11
  go_wp2
  repeat (go_quiet (fail); try go_wp2)
  go_ret
  exact ⟨rf, by repeat (first | exact Drawn0.refl _ | apply Drawn0.step)⟩

end Go.Proofs.Ytbjpfnpleajhgad.PFnTours
