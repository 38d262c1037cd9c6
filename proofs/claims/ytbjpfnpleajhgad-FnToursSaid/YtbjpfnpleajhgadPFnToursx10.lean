-- Told shorter still by shrink2.py.
-- Printed, and told shorter by this session's program shrink.py.
-- Printed by this session's program myprint.py.
import Derived.Test.YtbjpfnpleajhgadPFnToursx0
import Derived.Test.YtbjpfnpleajhgadPFnToursx2
import Derived.Test.YtbjpfnpleajhgadPFnToursx9
namespace Go.Proofs.Ytbjpfnpleajhgad.PFnTours
open Go.RowKit Go.Proofs.Ytbjpfnpleajhgad.Own Go.Proofs.YtbjpfnpleajhgadW.PrintWords Go.Proofs.YtbjpfnpleajhgadW.PrintLast Go.Proofs.YtbjpfnpleajhgadW.PrintMore
attribute [local go_sem] max2_int min2_int max_two min_two max_three min_three max_four min_four   -- for this text's walks alone
set_option linter.unusedVariables false
set_option linter.unusedSimpArgs false

/-! ### impl_Road_gap: function 50 -/
def Q40.f (a0_0 : Int) (a0_1 : Bool) (a1 : Int) (a2 : Int) : Option (Int) := if a0_1 = true then (some (mn (mx (wrap64 (a1 - a2)) (wrap64 (a2 - a1))) (wrap64 (a0_0 - (mx (wrap64 (a1 - a2)) (wrap64 (a2 - a1))))))) else (some (mx (wrap64 (a1 - a2)) (wrap64 (a2 - a1))))
set_option maxHeartbeats 8000000 in
set_option maxRecDepth 100000 in
theorem Q40.calls (a0_0 : Int) (a0_1 : Bool) (a1 : Int) (a2 : Int) (r : Int) (w : World) (h : Q40.f a0_0 a0_1 a1 a2 = some r) :
    Calls Try.prog 50 #[.agg #[.int .i64 a0_0, .bool a0_1], .int .i64 a1, .int .i64 a2] w fun e w' => e = .returned (.int .i64 r) ∧ Below w.heap.size w w' := by
 have hu25 := Try.underlying25; have HB := A_ (Below.refl w.heap.size w); have H : (if a0_1 = true then (some (mn (mx (wrap64 (a1 - a2)) (wrap64 (a2 - a1))) (wrap64 (a0_0 - (mx (wrap64 (a1 - a2)) (wrap64 (a2 - a1))))))) else (some (mx (wrap64 (a1 - a2)) (wrap64 (a2 - a1))))) = some r := h; clear h
 obtain ⟨ji4, hji4⟩ : ∃ j_ : Int, (mx (wrap64 (a1 - a2)) (wrap64 (a2 - a1))) = j_ := ⟨_, rfl⟩
 replace H : (if a0_1 = true then (some (mn (ji4) (wrap64 (a0_0 - (ji4))))) else (some ji4)) = some r := by first | (rw [hji4] at H; exact H) | (simp only [hji4] at H ⊢; exact H)
 have hji4_ : (if (wrap64 (a1 - a2)) < (wrap64 (a2 - a1)) then (wrap64 (a2 - a1)) else (wrap64 (a1 - a2))) = ji4 := hji4; by_cases c5 : a0_1 = true
 ·
  subst c5
  have H1 : (some (mn (ji4) (wrap64 (a0_0 - (ji4))))) = some r := by rw [if_pos rfl] at H; exact H
  clear H; have H := H1; clear H1
  obtain ⟨ji6, hji6⟩ : ∃ j_ : Int, (mn (ji4) (wrap64 (a0_0 - (ji4)))) = j_ := ⟨_, rfl⟩
  replace H : (some ji6) = some r := by first | (rw [hji6] at H; exact H) | (simp only [hji6] at H ⊢; exact H)
  have hji6_ : (if (wrap64 (a0_0 - (ji4))) < (ji4) then (wrap64 (a0_0 - (ji4))) else (ji4)) = ji6 := hji6; obtain rfl := Option.some.inj H; go_enter Try.func50, Try.ntmps50
  go_wp2_with (first | ((with_reducible refine gate_dst (N := 3) rfl ?_); refine bx (N := 3) #[.int .i64 a0_0, .bool true] 25 ?_; intro gb447 hg w7 hbox hb; have BK447 := A_ (hbox); have GW447 := A_ (bs hg (hq HB) : w.heap.size ≤ gb447); have GE447 := A_ (bs hg (hq HB) : w.heap.size ≤ gb447); replace HB := A_ (below_step (hq HB) hb); clear hb hbox hg; have hcz8_0 : w7.cell? ⟨gb447, 0, none⟩ = some (.int .i64 a0_0) := bc BK447 0; have hcz8_1 : w7.cell? ⟨gb447, 1, none⟩ = some (.bool true) := bc BK447 1; have hfz8_0 := blk_frozen BK447.out 0; have hfz8_1 := blk_frozen BK447.out 1))
  go_ret
  exact ⟨by first | rfl | (simp [errW_none, errW_some] <;> rfl) | (simp only [← hji4, ← hji6]; first | rfl | (simp [errW_none, errW_some] <;> rfl)) | (simp [*, errW_none, errW_some] <;> rfl), hq HB⟩
 ·
  replace c5 := Bool.eq_false_iff.mpr c5; subst c5
  have H1 : (some ji4) = some r := by rw [if_neg (show ¬ (false = true) by decide)] at H; exact H
  clear H; have H := H1; clear H1; obtain rfl := Option.some.inj H; go_enter Try.func50, Try.ntmps50
  go_wp2_with (first | ((with_reducible refine gate_dst (N := 3) rfl ?_); refine bx (N := 3) #[.int .i64 a0_0, .bool false] 25 ?_; intro gb447 hg w9 hbox hb; have BK447 := A_ (hbox); have GW447 := A_ (bs hg (hq HB) : w.heap.size ≤ gb447); have GE447 := A_ (bs hg (hq HB) : w.heap.size ≤ gb447); replace HB := A_ (below_step (hq HB) hb); clear hb hbox hg; have hcz10_0 : w9.cell? ⟨gb447, 0, none⟩ = some (.int .i64 a0_0) := bc BK447 0; have hcz10_1 : w9.cell? ⟨gb447, 1, none⟩ = some (.bool false) := bc BK447 1; have hfz10_0 := blk_frozen BK447.out 0; have hfz10_1 := blk_frozen BK447.out 1))
  go_ret
  exact ⟨by first | rfl | (simp [errW_none, errW_some] <;> rfl) | (simp only [← hji4]; first | rfl | (simp [errW_none, errW_some] <;> rfl)) | (simp [*, errW_none, errW_some] <;> rfl), hq HB⟩

/-! ### impl_Road_isWalk: function 65 -/
mutual
def Q12.j0 : Nat → List Int → Bool → Int → Bool → Option (Bool)
  | 0, _, _, _, _ => none
  | k + 1, x1, x15, x449000, x449001 => if x15 = true then (some false) else (Q12.l0 k x1 1 x449000 x449001)
def Q12.l0 : Nat → List Int → Int → Int → Bool → Option (Bool)
  | 0, _, _, _, _ => none
  | k + 1, x1, x5, x449000, x449001 => if x5 < (x1.length : Int) then (if 0 ≤ (wrap64 (x5 - 1)) then (if (wrap64 (x5 - 1)) < (x1.length : Int) then (if 0 ≤ x5 then ((Q40.f x449000 x449001 (rd x1 (wrap64 (x5 - 1))) (rd x1 x5)).bind fun t453 => (if t453 > 1 then (some false) else (Q12.l0 k x1 (wrap64 (x5 + 1)) x449000 x449001))) else (none)) else (none)) else (none)) else (some true)
end
def Q12.f (k : Nat) (a0_0 : Int) (a0_1 : Bool) (l1 : List Int) : Option (Bool) := (Q19.f (l1.length : Int) 1 61).bind fun t449 => (if t449 = true then ((Q10.f k a0_0 a0_1 l1).bind fun t450 => (Q12.j0 k l1 (!t450) a0_0 a0_1)) else (Q12.j0 k l1 true a0_0 a0_1))
def Q12.T6 : Bool × List (List Nat × List Nat) := (true, [([], []), ([], []), ([], []), ([2], [2]), ([1, 3], [1, 3]), ([4], [4]), ([], []), ([], []), ([6, 7], [6, 7]), ([8], [8]), ([0, 5, 9], [0, 5, 9]), ([10], [10])])
def Q12.B6 : List Nat := [0, 0, 0, 4, 14, 30, 0, 0, 192, 448, 1023, 2047]
theorem Q12.tab6 : rtab .any (opsOf Try.f65 6) = Q12.T6 := by kernel_rfl
theorem Q12.bits6 : waitsOk Q12.T6.2 Q12.B6 = true := by kernel_rfl
set_option maxHeartbeats 8000000 in
set_option maxRecDepth 100000 in
theorem Q12.calls (k : Nat) (a0_0 : Int) (a0_1 : Bool) (A1 : Option Addr) (c1 : Nat) (l1 : List Int) (r : Bool) (w : World) (hr1 : Kd.C (Kd.int .i64) w A1 l1.length l1) (hc1 : l1.length ≤ c1) (h : Q12.f k a0_0 a0_1 l1 = some r) :
    Calls Try.prog 65 #[.agg #[.int .i64 a0_0, .bool a0_1], .slice A1 l1.length c1] w fun e w' => e = .returned (.bool r) ∧ Below w.heap.size w w' := by
 have hu25 := Try.underlying25; have HR1 := A_ hr1; have HC1 := A_ hc1; clear hr1 hc1; have HB := A_ (Below.refl w.heap.size w); have H : ((Q19.f (l1.length : Int) 1 61).bind fun t449 => (if t449 = true then ((Q10.f k a0_0 a0_1 l1).bind fun t450 => (Q12.j0 k l1 (!t450) a0_0 a0_1)) else (Q12.j0 k l1 true a0_0 a0_1))) = some r := h; clear h; have HC3 := A_ H; clear H; go_enter Try.func65, Try.ntmps65
 go_upto_region 1 with (first | ((with_reducible refine gate_dst (N := 2) rfl ?_); refine bx (N := 2) #[.int .i64 a0_0, .bool a0_1] 25 ?_; intro gb448 hg w4 hbox hb; have BK448 := A_ (hbox); have GW448 := A_ (bs hg (hq HB) : w.heap.size ≤ gb448); have GE448 := A_ (bs hg (hq HB) : w.heap.size ≤ gb448); replace HB := A_ (below_step (hq HB) hb); clear hb hbox hg))
 (try simp only [Act.put, List.setIfInBounds_toArray, List.set_cons_zero, List.set_cons_succ]); go_cut [15] (fun v15 wc => ∃ (kq : Nat) (x15_2 : Bool), v15 = .bool x15_2 ∧ Aside0 (Q12.j0 kq l1 x15_2 a0_0 a0_1 = some r) ∧ Aside0 (kq ≤ k) ∧ Aside0 (wc.heap[gb448]? = some (.cells #[.int .i64 a0_0, .bool a0_1] 25 (0, 0))) ∧ Aside0 (Below w.heap.size w wc))
 case first =>
  have H := HC3.out; clear HC3; replace H := bm H; obtain ⟨t449, A5, H⟩ := H; by_cases c6 : t449 = true
  ·
   subst c6
   have H1 : ((Q10.f k a0_0 a0_1 l1).bind fun t450 => (Q12.j0 k l1 (!t450) a0_0 a0_1)) = some r := by rw [if_pos rfl] at H; exact H
   clear H; have H := H1; clear H1; replace H := bm H; obtain ⟨t450, A7, H⟩ := H; have H' := A_ H; clear H; go_wp2_with (first | ((with_reducible refine gate_callee (f := 44) rfl ?_); refine gL (some 8) Try.func44 #[.int .i64 (l1.length : Int), .int .i64 1, .int .i64 61] ?_; (with_reducible refine (Q19.calls (l1.length : Int) 1 61 true _ A5.out).mono ?_); rintro e w' ⟨rfl, ⟨nd, rfl⟩⟩; refine ⟨_, rfl, ?_⟩; have hcz8_0 : w4.cell? ⟨gb448, 0, none⟩ = some (.int .i64 a0_0) := bc BK448 0; have hcz8_1 : w4.cell? ⟨gb448, 1, none⟩ = some (.bool a0_1) := bc BK448 1; have hfz8_0 := blk_frozen BK448.out 0; have hfz8_1 := blk_frozen BK448.out 1) | (go_at_call 25; (with_reducible refine (Q10.calls k a0_0 a0_1 _ _ l1 t450 _ ?side1 ?side2 A7.out).mono ?_); (case side1 => exact cq (Kd.C_below HR1.out (hq HB))); (case side2 => exact HC1.out); rintro e w9 ⟨rfl, hb⟩; replace BK448 := A_ (blk_below (bq BK448) hb); replace HB := A_ (below_step (hq HB) hb); clear hb))
   go_meet
   case rel => exact ⟨_, (!t450), rf, H', ⟨by first | omega | exact Nat.le_refl _⟩, ⟨bq BK448⟩, ⟨hq HB⟩⟩
  ·
   replace c6 := Bool.eq_false_iff.mpr c6; subst c6
   have H1 : (Q12.j0 k l1 true a0_0 a0_1) = some r := by rw [if_neg (show ¬ (false = true) by decide)] at H; exact H
   clear H; have H := H1; clear H1; have H' := A_ H; clear H; go_wp2_with (first | ((with_reducible refine gate_callee (f := 44) rfl ?_); refine gL (some 8) Try.func44 #[.int .i64 (l1.length : Int), .int .i64 1, .int .i64 61] ?_; (with_reducible refine (Q19.calls (l1.length : Int) 1 61 false _ A5.out).mono ?_); rintro e w' ⟨rfl, ⟨nd, rfl⟩⟩; refine ⟨_, rfl, ?_⟩))
   go_meet
   case rel => exact ⟨_, (true), rf, H', ⟨by first | omega | exact Nat.le_refl _⟩, ⟨bq BK448⟩, ⟨hq HB⟩⟩
 case rest =>
  clear HC3; (try clear c6); (try clear hcz8_0); (try clear hcz8_1); (try clear hfz8_0); (try clear hfz8_1); obtain ⟨kq, x15_2, rfl, HA, HJ2, BK448, HB⟩ := hcut
  cases kq with
  | zero => exact absurd HA.out (by simp [Q12.j0])
  | succ kj2 =>
   have H := HA.out; clear HA; simp only [Q12.j0] at H
   by_cases c10 : x15_2 = true
   ·
    subst c10
    have H1 : (some false) = some r := by rw [if_pos rfl] at H; exact H
    clear H; have H := H1; clear H1; obtain rfl := Option.some.inj H; go_wp2
    go_ret
    exact ⟨rt, hq HB⟩
   ·
    replace c10 := Bool.eq_false_iff.mpr c10; subst c10
    have H1 : (Q12.l0 kj2 l1 1 a0_0 a0_1) = some r := by rw [if_neg (show ¬ (false = true) by decide)] at H; exact H
    clear H; have H := H1; clear H1; have H' := A_ H; clear H; go_wp2
    go_loopg [5] kj2 (fun kq v5 w' => ∃ (x5_2 : Int), v5 = .int .i64 x5_2 ∧ Aside0 (Q12.l0 kq l1 x5_2 a0_0 a0_1 = some r) ∧ Aside0 (kq ≤ kj2) ∧ Aside0 (w'.heap[gb448]? = some (.cells #[.int .i64 a0_0, .bool a0_1] 25 (0, 0))) ∧ Aside0 (Below w.heap.size w w'))
    case atStart => exact ⟨(1), rf, H', ⟨Nat.le_refl _⟩, ⟨bq BK448⟩, ⟨hq HB⟩⟩
    case round =>
     clear H'; (try clear c6); (try clear c10); (try clear hcz8_0); (try clear hcz8_1); (try clear hfz8_0); (try clear hfz8_1); obtain ⟨x5_2, rfl, HA, HK2, BK448, HB⟩ := hrel
     cases gk with
     | zero => exact absurd HA.out (by simp [Q12.l0])
     | succ k2 =>
      have H := HA.out; clear HA; simp only [Q12.l0] at H
      by_cases c11 : x5_2 < (l1.length : Int)
      ·
       rw [if_pos c11] at H; have c11b0 := decide_eq_true c11; clear c11
       obtain ⟨ji12, hji12⟩ : ∃ j_ : Int, (wrap64 (x5_2 - 1)) = j_ := ⟨_, rfl⟩
       replace H : (if 0 ≤ (ji12) then (if (ji12) < (l1.length : Int) then (if 0 ≤ x5_2 then ((Q40.f a0_0 a0_1 (rd l1 (ji12)) (rd l1 x5_2)).bind fun t453 => (if t453 > 1 then (some false) else (Q12.l0 k2 l1 (wrap64 (x5_2 + 1)) a0_0 a0_1))) else (none)) else (none)) else (none)) = some r := by first | (rw [hji12] at H; exact H) | (simp only [hji12] at H ⊢; exact H)
       have hji12w : (IntKind.i64.wrap (x5_2 - 1)) = ji12 := (i64_w _).trans hji12; by_cases c13 : 0 ≤ (ji12)
       ·
        rw [if_pos c13] at H; have c13b0 := decide_eq_true c13; clear c13; by_cases c14 : (ji12) < (l1.length : Int)
        ·
         rw [if_pos c14] at H; have c14b0 := decide_eq_true c14; clear c14; by_cases c15 : 0 ≤ x5_2
         ·
          rw [if_pos c15] at H; have c15b0 := decide_eq_true c15; clear c15; replace H := bm H; obtain ⟨t453, A16, H⟩ := H; by_cases c17 : t453 > 1
          ·
           rw [if_pos c17] at H; have c17b0 : decide (1 < t453) = true := decide_eq_true c17; clear c17; obtain rfl := Option.some.inj H; try go_wp2
           replace BK448 := A_ (blk_drew BK448.out); replace HB := A_ (below_drew1 HB.out); have p451 : 0 ≤ ((ji12) : Int) := dq; have q451 : (ji12) < (l1.length : Int) := dq; obtain ⟨ad451, e451, hx451_0⟩ := Kd.at_int HR1.out (ji12) p451 q451; have hw451_0 := hx451_0
           cases e451
           replace hx451_0 := (HB.out.cell (World.block_lt_of_cell? w _ hx451_0)).trans hx451_0; replace p451 := eq_true p451; replace q451 := eq_true q451; have p452 : 0 ≤ (x5_2 : Int) := dq; have q452 : x5_2 < (l1.length : Int) := dq; obtain ⟨ad452, e452, hx452_0⟩ := Kd.at_int HR1.out x5_2 p452 q452; have hw452_0 := hx452_0
           obtain rfl : ad451 = ad452 := (by injection e452)
           replace hx452_0 := (HB.out.cell (World.block_lt_of_cell? w _ hx452_0)).trans hx452_0; replace p452 := eq_true p452; replace q452 := eq_true q452; refine start_ (n := 12) (S := fun w' => w'.cell? ⟨gb448, 0, none⟩ = some (.int .i64 a0_0) ∧ w'.cell? ⟨gb448, 1, none⟩ = some (.bool a0_1) ∧ w'.cell? (ad451.add ((ji12)).toNat) = some (.int .i64 (rd l1 (ji12))) ∧ w'.cell? (ad451.add (x5_2).toNat) = some (.int .i64 (rd l1 x5_2))) (ds := []) #[false, false, false, false, false, false, false, false, false, false, false, false] (by kernel_rfl) rfl rfl ⟨bc BK448 0, bc BK448 1, ((HB.out.cell (World.block_lt_of_cell? w _ hw451_0)).trans hw451_0), ((HB.out.cell (World.block_lt_of_cell? w _ hw452_0)).trans hw452_0)⟩ (fun hHeld => ?_); refine with_tabW Q12.tab6 Q12.bits6 (fun HT_ HW_ => ?_); generalize wr.drew = w18 at BK448 HB hx451_0 hx452_0 hHeld ⊢; refine puT (i := 1) (N := some 23) HT_ #[false, true, false, false, false, false, false, false, false, false, false, false] ?_; refine puT (i := 2) (N := some 24) HT_ #[false, true, true, false, false, false, false, false, false, false, false, false] ?_; refine puT (i := 3) (N := some 25) HT_ #[false, true, true, true, false, false, false, false, false, false, false, false] ?_; refine puT (i := 4) (N := some 26) HT_ #[false, true, true, true, true, false, false, false, false, false, false, false] ?_; refine puT (i := 6) (N := some 28) HT_ #[false, true, true, true, true, false, true, false, false, false, false, false] ?_; refine puT (i := 7) (N := some 29) HT_ #[false, true, true, true, true, false, true, true, false, false, false, false] ?_; refine puT (i := 8) (N := some 30) HT_ #[false, true, true, true, true, false, true, true, true, false, false, false] ?_; refine tkT (i := 0) (N := some 22) HT_ HW_ hHeld #[true, true, true, true, true, false, true, true, true, false, false, false] ?_; refine tkT (i := 5) (N := some 27) HT_ HW_ hHeld #[true, true, true, true, true, true, true, true, true, false, false, false] ?_; refine tkT (i := 9) (N := some 31) HT_ HW_ hHeld #[true, true, true, true, true, true, true, true, true, true, false, false] ?_; refine onT (i := 10) (N := some 32) HT_ #[true, true, true, true, true, true, true, true, true, true, true, false] (fun K hK => ?_); refine goes_ Try.func50 (by kernel_rfl) rfl #[.agg #[.int .i64 a0_0, .bool a0_1], .int .i64 (rd l1 (ji12)), .int .i64 (rd l1 x5_2)] (by rfl) rfl rfl (by (try simp only [List.map_toArray, List.map_cons, List.map_nil]); first | done | (simp only [hji12]; rfl) | rfl | (simp only [List.length_drop, List.length_take]; rfl)) ?_; with_reducible refine (Q40.calls a0_0 a0_1 (rd l1 (ji12)) (rd l1 x5_2) t453 _ A16.out).mono ?_
           rintro e w19 ⟨rfl, hb⟩; refine ⟨_, rfl, ?_⟩; replace BK448 := A_ (blk_below (bq BK448) hb); replace HB := A_ (below_step (hq HB) hb); clear hb; refine hK.out _ _ ⟨bc BK448 0, bc BK448 1, ((HB.out.cell (World.block_lt_of_cell? w _ hw451_0)).trans hw451_0), ((HB.out.cell (World.block_lt_of_cell? w _ hw452_0)).trans hw452_0)⟩ (fun hHeld => ?_); clear hK K; refine nq_ (some 32) ?_; refine puT (i := 11) (N := some 33) HT_ #[true, true, true, true, true, true, true, true, true, true, true, true] ?_; refine done_ (done_of HT_.out (by kernel_rfl)) ?_; try go_wp2
           go_ret
           exact ⟨by first | rfl | (simp [errW_none, errW_some] <;> rfl) | (simp only [← hji12]; first | rfl | (simp [errW_none, errW_some] <;> rfl)) | (simp [*, errW_none, errW_some] <;> rfl), hq HB⟩
          ·
           rw [if_neg c17] at H; have c17b0 : decide (1 < t453) = false := decide_eq_false c17; clear c17; have H' := A_ H; clear H; try go_wp2
           replace BK448 := A_ (blk_drew BK448.out); replace HB := A_ (below_drew1 HB.out); have p451 : 0 ≤ ((ji12) : Int) := dq; have q451 : (ji12) < (l1.length : Int) := dq; obtain ⟨ad451, e451, hx451_0⟩ := Kd.at_int HR1.out (ji12) p451 q451; have hw451_0 := hx451_0
           cases e451
           replace hx451_0 := (HB.out.cell (World.block_lt_of_cell? w _ hx451_0)).trans hx451_0; replace p451 := eq_true p451; replace q451 := eq_true q451; have p452 : 0 ≤ (x5_2 : Int) := dq; have q452 : x5_2 < (l1.length : Int) := dq; obtain ⟨ad452, e452, hx452_0⟩ := Kd.at_int HR1.out x5_2 p452 q452; have hw452_0 := hx452_0
           obtain rfl : ad451 = ad452 := (by injection e452)
           replace hx452_0 := (HB.out.cell (World.block_lt_of_cell? w _ hx452_0)).trans hx452_0; replace p452 := eq_true p452; replace q452 := eq_true q452; refine start_ (n := 12) (S := fun w' => w'.cell? ⟨gb448, 0, none⟩ = some (.int .i64 a0_0) ∧ w'.cell? ⟨gb448, 1, none⟩ = some (.bool a0_1) ∧ w'.cell? (ad451.add ((ji12)).toNat) = some (.int .i64 (rd l1 (ji12))) ∧ w'.cell? (ad451.add (x5_2).toNat) = some (.int .i64 (rd l1 x5_2))) (ds := []) #[false, false, false, false, false, false, false, false, false, false, false, false] (by kernel_rfl) rfl rfl ⟨bc BK448 0, bc BK448 1, ((HB.out.cell (World.block_lt_of_cell? w _ hw451_0)).trans hw451_0), ((HB.out.cell (World.block_lt_of_cell? w _ hw452_0)).trans hw452_0)⟩ (fun hHeld => ?_); refine with_tabW Q12.tab6 Q12.bits6 (fun HT_ HW_ => ?_); generalize wr.drew = w20 at BK448 HB hx451_0 hx452_0 hHeld ⊢; refine puT (i := 1) (N := some 23) HT_ #[false, true, false, false, false, false, false, false, false, false, false, false] ?_; refine puT (i := 2) (N := some 24) HT_ #[false, true, true, false, false, false, false, false, false, false, false, false] ?_; refine puT (i := 3) (N := some 25) HT_ #[false, true, true, true, false, false, false, false, false, false, false, false] ?_; refine puT (i := 4) (N := some 26) HT_ #[false, true, true, true, true, false, false, false, false, false, false, false] ?_; refine puT (i := 6) (N := some 28) HT_ #[false, true, true, true, true, false, true, false, false, false, false, false] ?_; refine puT (i := 7) (N := some 29) HT_ #[false, true, true, true, true, false, true, true, false, false, false, false] ?_; refine puT (i := 8) (N := some 30) HT_ #[false, true, true, true, true, false, true, true, true, false, false, false] ?_; refine tkT (i := 0) (N := some 22) HT_ HW_ hHeld #[true, true, true, true, true, false, true, true, true, false, false, false] ?_; refine tkT (i := 5) (N := some 27) HT_ HW_ hHeld #[true, true, true, true, true, true, true, true, true, false, false, false] ?_; refine tkT (i := 9) (N := some 31) HT_ HW_ hHeld #[true, true, true, true, true, true, true, true, true, true, false, false] ?_; refine onT (i := 10) (N := some 32) HT_ #[true, true, true, true, true, true, true, true, true, true, true, false] (fun K hK => ?_); refine goes_ Try.func50 (by kernel_rfl) rfl #[.agg #[.int .i64 a0_0, .bool a0_1], .int .i64 (rd l1 (ji12)), .int .i64 (rd l1 x5_2)] (by rfl) rfl rfl (by (try simp only [List.map_toArray, List.map_cons, List.map_nil]); first | done | (simp only [hji12]; rfl) | rfl | (simp only [List.length_drop, List.length_take]; rfl)) ?_; with_reducible refine (Q40.calls a0_0 a0_1 (rd l1 (ji12)) (rd l1 x5_2) t453 _ A16.out).mono ?_
           rintro e w21 ⟨rfl, hb⟩; refine ⟨_, rfl, ?_⟩; replace BK448 := A_ (blk_below (bq BK448) hb); replace HB := A_ (below_step (hq HB) hb); clear hb; refine hK.out _ _ ⟨bc BK448 0, bc BK448 1, ((HB.out.cell (World.block_lt_of_cell? w _ hw451_0)).trans hw451_0), ((HB.out.cell (World.block_lt_of_cell? w _ hw452_0)).trans hw452_0)⟩ (fun hHeld => ?_); clear hK K; refine nq_ (some 32) ?_; refine puT (i := 11) (N := some 33) HT_ #[true, true, true, true, true, true, true, true, true, true, true, true] ?_; refine done_ (done_of HT_.out (by kernel_rfl)) ?_; try go_wp2
           go_roundg k2
           case measure => have := HJ2.out; have := HK2.out; omega
           case rel => exact ⟨(wrap64 (x5_2 + 1)), rf, H', ⟨by have := HJ2.out; have := HK2.out; omega⟩, ⟨bq BK448⟩, ⟨hq HB⟩⟩
         ·
          rw [if_neg c15] at H; exact absurd H (by simp)
        ·
         rw [if_neg c14] at H; exact absurd H (by simp)
       ·
        rw [if_neg c13] at H; exact absurd H (by simp)
      ·
       rw [if_neg c11] at H; have c11b0 := decide_eq_false c11; clear c11; obtain rfl := Option.some.inj H; go_wp2
       go_ret
       exact ⟨rt, hq HB⟩

/-! ### impl_areWalks$1: the predicate areWalks hands on -/
set_option maxHeartbeats 4000000 in
theorem areWalks_1.calls (k : Nat) (s : Int) (r0 : Bool) (gb : Nat) (x : List Int) (A' : Option Addr) (c' : Nat) (b : Bool) (w : World) (hbk : w.heap[gb]? = some (.cells #[.int .i64 s, .bool r0] 25 (0, 0))) (hr0 : Kd.C (Kd.int .i64) w A' x.length x) (hc0 : x.length ≤ c')
  (h : (Q12.f k s r0 x).bind (fun b => some (!b)) = some b) :
    Calls Try.prog 64 (#[.slice A' x.length c'] ++ #[.pointer (some ⟨gb, 0, none⟩)]) w fun e w' => e = .returned (.bool b) ∧ Below w.heap.size w w' := by
 obtain ⟨b0, hb0, hb1⟩ := Option.bind_eq_some_iff.mp h; obtain rfl := Option.some.inj hb1; clear hb1 h; have HR0 := A_ hr0; have HC0 := A_ hc0; have A8 := A_ hb0; have HB := A_ (Below.refl w.heap.size w); have hx0 : w.cell? ⟨gb, 0, none⟩ = some (.int .i64 s) := (blk_cell hbk 0).trans rfl; have hx1 : w.cell? ⟨gb, 1, none⟩ = some (.bool r0) := (blk_cell hbk 1).trans rfl; have hlt : gb < w.heap.size := blk_lt hbk; clear hr0 hc0 hb0 hbk; go_enter Try.func64, Try.ntmps64
 go_wp2_with (first | ((with_reducible refine gate_callee (f := 65) rfl ?_); refine goesL_ (some 6) rfl rfl Try.func65 (by kernel_rfl) rfl #[.agg #[.int .i64 s, .bool r0], .slice A' x.length c'] rfl (by (try simp only [List.map_toArray, List.map_cons, List.map_nil]); first | done | rfl) ?_; (with_reducible refine (Q12.calls k s r0 _ _ x b0 _ ?side1 ?side2 A8.out).mono ?_); (case side1 => repeat (first | exact (Kd.C_below HR0.out HB.out) | exact HR0.out | (with_reducible refine Kd.C_alloc ?_ _) | (with_reducible refine Kd.C_drewN ?_ _))); (case side2 => exact HC0.out); rintro e w8 ⟨rfl, hb⟩; refine ⟨_, rfl, ?_⟩; have n_HB := A_ (below_step (hq HB) hb); clear HB; have HB := n_HB; clear n_HB hb))
 go_ret
 exact ⟨rfl, hq HB⟩
/-! ### impl_areWalks -/
def Q14.f (k : Nat) (a0_0 : Int) (a0_1 : Bool) (l1 : List (List Int)) : Option (Bool) := (Q28.f a0_0 a0_1).bind fun t => (if t = true then ((anyO (fun x : List Int => (Q12.f k a0_0 a0_1 x).bind fun b => some (!b)) l1).bind fun c => some (!c)) else (some false))
set_option maxHeartbeats 8000000 in
set_option maxRecDepth 100000 in
theorem Q14.calls (k : Nat) (a0_0 : Int) (a0_1 : Bool) (A1 : Option Addr) (c1 : Nat) (l1 : List (List Int)) (r : Bool) (w : World) (hr1 : Kd.C (Kd.slice 3 (Kd.int .i64)) w A1 l1.length l1) (hc1 : l1.length ≤ c1) (h : Q14.f k a0_0 a0_1 l1 = some r) :
    Calls Try.prog 38 #[.agg #[.int .i64 a0_0, .bool a0_1], .slice A1 l1.length c1] w fun e w' => e = .returned (.bool r) ∧ Below w.heap.size w w' := by
 have HR1 := A_ hr1; have HC1 := A_ hc1; clear hr1 hc1; have HB := A_ (Below.refl w.heap.size w); have hu := Try.underlying25; obtain ⟨t, ht, h1⟩ := Option.bind_eq_some_iff.mp h; have A2 := A_ ht; clear ht h
 cases t with
 | true =>
  rw [if_pos rfl] at h1; obtain ⟨c, hc, h2⟩ := Option.bind_eq_some_iff.mp h1; have A3 := A_ hc; obtain rfl := Option.some.inj h2; clear hc h1 h2; have EG := A_ (show ∀ (args : Array Value) (w : World), (callFunc 64 args).run Try.prog w = .ok (.enter 64 args) w from enters_of Try.func64 (by kernel_rfl) rfl); go_enter Try.func38, Try.ntmps38
  go_wp2_with (first | ((with_reducible refine gate_dst (N := 2) rfl ?_); refine bx (N := 2) #[.int .i64 a0_0, .bool a0_1] 25 ?_; intro gb2 hg wb2 hbox hb; replace HB := A_ (below_step (hq HB) hb); have BK2 := A_ (hbox); clear hb hbox hg; have hczb2_0 : wb2.cell? ⟨gb2, 0, none⟩ = some (.int .i64 a0_0) := bc BK2 0; have hczb2_1 : wb2.cell? ⟨gb2, 1, none⟩ = some (.bool a0_1) := bc BK2 1) | ((with_reducible refine gate_callee (f := 24) rfl ?_); refine goesL_ (some 6) rfl rfl Try.func24 (by kernel_rfl) rfl #[.agg #[.int .i64 a0_0, .bool a0_1]] rfl (by (try simp only [List.map_toArray, List.map_cons, List.map_nil]); first | done | rfl) ?_; (with_reducible refine (Q28.calls a0_0 a0_1 true _ A2.out).mono ?_); rintro e w3 ⟨rfl, hb⟩; refine ⟨_, rfl, ?_⟩; have n_BK2 := A_ (blk_below (bq BK2) hb); have n_HB := A_ (below_step (hq HB) hb); clear BK2; have BK2 := n_BK2; clear n_BK2; clear HB; have HB := n_HB; clear n_HB hb) | (go_at_call 63; (with_reducible refine (conf_ints.calls (fun x : List Int => (Q12.f k a0_0 a0_1 x).bind fun b => some (!b)) 64 #[.pointer (some ⟨gb2, 0, none⟩)] EG.out _ _ l1 c _ ?side1 ?side2 ?side3 A3.out).mono ?_); (case side1 => repeat (first | exact (Kd.C_below HR1.out HB.out) | (with_reducible refine Kd.C_alloc ?_ _) | (with_reducible refine Kd.C_drewN ?_ _))); (case side2 => exact HC1.out); (case side3 => exact fun x A' c' b W hbW hC hl hq => areWalks_1.calls k a0_0 a0_1 gb2 x A' c' b W (blk_below (bq BK2) hbW) hC hl hq); rintro e w10 ⟨rfl, hb⟩; have n_HB := A_ (below_step (hq HB) hb); clear HB; have HB := n_HB; clear n_HB hb))
  go_ret
  exact ⟨rfl, hq HB⟩
 | false =>
  rw [if_neg (by decide)] at h1; obtain rfl := Option.some.inj h1; clear h1; go_enter Try.func38, Try.ntmps38
  go_wp2_with (first | ((with_reducible refine gate_dst (N := 2) rfl ?_); refine bx (N := 2) #[.int .i64 a0_0, .bool a0_1] 25 ?_; intro gb2 hg wb2 hbox hb; replace HB := A_ (below_step (hq HB) hb); have BK2 := A_ (hbox); clear hb hbox hg; have hczb2_0 : wb2.cell? ⟨gb2, 0, none⟩ = some (.int .i64 a0_0) := bc BK2 0; have hczb2_1 : wb2.cell? ⟨gb2, 1, none⟩ = some (.bool a0_1) := bc BK2 1) | ((with_reducible refine gate_callee (f := 24) rfl ?_); refine goesL_ (some 6) rfl rfl Try.func24 (by kernel_rfl) rfl #[.agg #[.int .i64 a0_0, .bool a0_1]] rfl (by (try simp only [List.map_toArray, List.map_cons, List.map_nil]); first | done | rfl) ?_; (with_reducible refine (Q28.calls a0_0 a0_1 false _ A2.out).mono ?_); rintro e w3 ⟨rfl, hb⟩; refine ⟨_, rfl, ?_⟩; have n_BK2 := A_ (blk_below (bq BK2) hb); have n_HB := A_ (below_step (hq HB) hb); clear BK2; have BK2 := n_BK2; clear n_BK2; clear HB; have HB := n_HB; clear n_HB hb))
  go_ret
  exact ⟨rfl, hq HB⟩

-- NOT PRINTED: function 66 (slices_Grow_int_int)

/-! ### slices_Grow_nil_int_int: function 66 -/
def Q65.f (a0 : Int) : Option (List Int) := if a0 < 0 then (none) else (if (wrap64 (a0)) > 0 then (if 0 ≤ (wrap64 (a0)) then (if ([] : List Int).length + (wrap64 (a0) : Int).toNat < 17592186044416 then ((some (([] : List Int) ++ List.replicate (wrap64 (a0) : Int).toNat 0 : List Int)).bind fun y454 => (if 0 ≤ (y454.length : Int) then (some (y454.take (0 : Int).toNat)) else (none))) else (none)) else (none)) else (some ([] : List Int)))
set_option maxHeartbeats 8000000 in
set_option maxRecDepth 100000 in
theorem Q65.calls (a0 : Int) (r : List Int) (w : World) (h : Q65.f a0 = some r) :
    Calls Try.prog 66 #[.slice none 0 0, .int .i64 a0] w fun e w' => ∃ v0_ : Value, e = .returned (v0_) ∧ Kd.R (Kd.int .i64) 3 w' w.heap.size (fun _ => True) v0_ r ∧ Below w.heap.size w w' := by
 have HB := A_ (Below.refl w.heap.size w); have H : (if a0 < 0 then (none) else (if (wrap64 (a0)) > 0 then (if 0 ≤ (wrap64 (a0)) then (if ([] : List Int).length + (wrap64 (a0) : Int).toNat < 17592186044416 then ((some (([] : List Int) ++ List.replicate (wrap64 (a0) : Int).toNat 0 : List Int)).bind fun y454 => (if 0 ≤ (y454.length : Int) then (some (y454.take (0 : Int).toNat)) else (none))) else (none)) else (none)) else (some ([] : List Int)))) = some r := h; clear h; by_cases c2 : a0 < 0
 ·
  rw [if_pos c2] at H; exact absurd H (by simp)
 ·
  rw [if_neg c2] at H; have c2b0 := decide_eq_false c2; clear c2; by_cases c3 : (wrap64 (a0)) > 0
  ·
   rw [if_pos c3] at H; have c3b0 : decide (0 < (wrap64 (a0))) = true := decide_eq_true c3; clear c3
   obtain ⟨ji4, hji4⟩ : ∃ j_ : Int, (wrap64 (a0)) = j_ := ⟨_, rfl⟩
   replace H : (if 0 ≤ (ji4) then (if ([] : List Int).length + (ji4 : Int).toNat < 17592186044416 then ((some (([] : List Int) ++ List.replicate (ji4 : Int).toNat 0 : List Int)).bind fun y454 => (if 0 ≤ (y454.length : Int) then (some (y454.take (0 : Int).toNat)) else (none))) else (none)) else (none)) = some r := by first | (rw [hji4] at H; exact H) | (simp only [hji4] at H ⊢; exact H)
   (try rw [hji4] at c3b0); have hji4w : (IntKind.i64.wrap (a0)) = ji4 := (i64_w _).trans hji4; by_cases c5 : 0 ≤ (ji4)
   ·
    rw [if_pos c5] at H; have c5b0 := eq_true c5; have c5b1 := decide_eq_true c5; clear c5; by_cases c6 : ([] : List Int).length + (ji4 : Int).toNat < 17592186044416
    ·
     rw [if_pos c6] at H; have LMc6 := A_ c6; clear c6
     obtain ⟨y454, hy454⟩ : ∃ y_ : List Int, y_ = (([] : List Int) ++ List.replicate (ji4 : Int).toNat 0) := ⟨_, rfl⟩
     replace H : (if 0 ≤ (y454.length : Int) then (some (y454.take (0 : Int).toNat)) else (none)) = some r := by first | (rw [hy454]; with_reducible exact H) | (have H2_ := (Option.bind_some _ _).symm.trans H; rw [hy454]; with_reducible exact H2_) | (have H2_ := (Option.bind_some _ _).symm.trans H; with_reducible exact H2_) | with_reducible exact H | (rw [hy454]; exact H) | exact H
     have Ny454 := A_ hy454; clear hy454; by_cases c7 : 0 ≤ (y454.length : Int)
     ·
      rw [if_pos c7] at H; have c7b0 := eq_true c7; have c7b1 := decide_eq_true c7; clear c7
      obtain ⟨y457, hy457⟩ : ∃ y_ : List Int, y_ = (y454.take (0 : Int).toNat) := ⟨_, rfl⟩
      replace H : (some y457) = some r := by first | (rw [hy457]; with_reducible exact H) | (have H2_ := (Option.bind_some _ _).symm.trans H; rw [hy457]; with_reducible exact H2_) | (have H2_ := (Option.bind_some _ _).symm.trans H; with_reducible exact H2_) | with_reducible exact H | (rw [hy457]; exact H) | exact H
      have Ny457 := A_ hy457; clear hy457; obtain rfl := Option.some.inj H; go_enter Try.func66, Try.ntmps66
      go_wp2_with (first | (at_builtin; refine Kd.R_append_zeros (Kd.int .i64) (w0 := w) w.heap.size rfl (.tmp 20) (.tmp 21) 26 3 3 (.int .i64 0) 8 rfl Try.underlying26 Try.underlying3 info3 rfl (by decide) (by omega) (.slice none 0 0) ([] : List Int) 0 (ji4 : Int) (fun _ => True) rfl rfl rfl ?aF ?aO (dq) ?aB ?aS ?aL ?_; (case aB => exact (hq HB)); (case aF => exact (fun _ _ => trivial)); (case aO => exact ((Kd.R_nil _ _ _ _ (fun _ => True)))); (case aS => exact (below_size (hq HB))); (case aL => have := LMc6.out; omega); intro v455 w8 ho hb hg hat; rw [← Ny454.out] at ho; replace HB := A_ (hb); have HO456 := A_ (ho); clear ho hb hg hat; obtain ⟨Ao9, co9, eo9⟩ := Kd.R_slice HO456.out; subst eo9; have q10 : (0 : Int) ≤ ((y454.length : Int) : Int) := dq; obtain ⟨i010, hi010, _, hsz10, _⟩ := info_parts info3; have hcut10 := cut_to (P := Try.prog) 26 3 .i64 Try.underlying26 hi010 Ao9 y454.length co9 0 (by omega) q10 (Kd.R_reads' HO456.out).2.1; have hr10 := Kd.R_take (m := (0 : Int).toNat) HO456.out (by omega); have hy10 : y457.length = (0 : Int).toNat := (by rw [Ny457.out, List.length_take]; omega); rw [← Ny457.out] at hr10; rw [← hy10] at hr10 hcut10; clear hy10 hi010 hsz10 HO456; have HO459 := A_ hr10; clear hr10; replace q10 := eq_true q10))
      go_ret
      exact ⟨_, by first | rfl | (simp [errW_none, errW_some] <;> rfl) | (simp only [← hji4]; first | rfl | (simp [errW_none, errW_some] <;> rfl)) | (simp [*, errW_none, errW_some] <;> rfl), rq HO459, hq HB⟩
     ·
      rw [if_neg c7] at H; exact absurd H (by simp)
    ·
     rw [if_neg c6] at H; exact absurd H (by simp)
   ·
    rw [if_neg c5] at H; exact absurd H (by simp)
  ·
   rw [if_neg c3] at H; have c3b0 : decide (0 < (wrap64 (a0))) = false := decide_eq_false c3; clear c3; obtain rfl := Option.some.inj H; go_enter Try.func66, Try.ntmps66
   go_wp2
   go_ret
   exact ⟨_, rt, by first | exact Kd.R_nil _ _ _ _ _ | exact Kd.N_nil _ _ _ _ _ | exact Kd.V_nil _ _ _ _ _ | exact Kd.Q_nil _ _ _ _ _ | exact Kd.S_nil _ _ _ _ _, hq HB⟩

/-! ### slices_Concat_int_int: function 39 -/
mutual
def Q25.l0 : Nat → List (List Int) → Int → List (List Int) → Int → Int → Option (List Int)
  | 0, _, _, _, _, _ => none
  | k + 1, x0, x3, x9, x10, x11 => if x11 < x10 then (if 0 ≤ x11 then (if x11 < (x9.length : Int) then (if (wrap64 (x3 + ((rd_L2 x9 x11).length : Int))) < 0 then (none) else (Q25.l0 k x0 (wrap64 (x3 + ((rd_L2 x9 x11).length : Int))) x9 x10 (wrap64 (x11 + 1)))) else (none)) else (none)) else ((Q65.f x3).bind fun t461 => (Q25.l1 k t461 x0 (x0.length : Int) 0))
def Q25.l1 : Nat → List Int → List (List Int) → Int → Int → Option (List Int)
  | 0, _, _, _, _ => none
  | k + 1, x6, x25, x26, x27 => if x27 < x26 then (if 0 ≤ x27 then (if x27 < (x25.length : Int) then (if x6.length + (rd_L2 x25 x27).length < 17592186044416 then (Q25.l1 k (x6 ++ (rd_L2 x25 x27)) x25 x26 (wrap64 (x27 + 1))) else (none)) else (none)) else (none)) else (some x6)
end
def Q25.f (k : Nat) (l0 : List (List Int)) : Option (List Int) := Q25.l0 k l0 0 l0 (l0.length : Int) 0
set_option maxHeartbeats 8000000 in
set_option maxRecDepth 100000 in
theorem Q25.calls (k : Nat) (A0 : Option Addr) (c0 : Nat) (l0 : List (List Int)) (r : List Int) (w : World) (hr0 : Kd.C (Kd.slice 3 (Kd.int .i64)) w A0 l0.length l0) (hc0 : l0.length ≤ c0) (h : Q25.f k l0 = some r) :
    Calls Try.prog 39 #[.slice A0 l0.length c0] w fun e w' => ∃ v0_ : Value, e = .returned (v0_) ∧ Kd.R (Kd.int .i64) 3 w' w.heap.size (fun _ => True) v0_ r ∧ Below w.heap.size w w' := by
 have HR0 := A_ hr0; have HC0 := A_ hc0; clear hr0 hc0; have HB := A_ (Below.refl w.heap.size w); have H : (Q25.l0 k l0 0 l0 (l0.length : Int) 0) = some r := h; clear h; have H' := A_ H; clear H; go_enter Try.func39, Try.ntmps39
 go_wp2
 go_loopg [3, 11] k (fun kq v3 v11 w' => ∃ (x3_1 : Int) (x11_1 : Int), v3 = .int .i64 x3_1 ∧ v11 = .int .i64 x11_1 ∧ Aside0 (Q25.l0 kq l0 x3_1 l0 (l0.length : Int) x11_1 = some r) ∧ Aside0 (kq ≤ k) ∧ Aside0 (Below w.heap.size w w'))
 case atStart => exact ⟨(0), (0), rf, rf, H', ⟨Nat.le_refl _⟩, ⟨hq HB⟩⟩
 case round =>
  clear H'; obtain ⟨x3_1, x11_1, rfl, rfl, HA, HK1, HB⟩ := hrel
  cases gk with
  | zero => exact absurd HA.out (by simp [Q25.l0])
  | succ k1 =>
   have H := HA.out; clear HA; simp only [Q25.l0] at H
   by_cases c2 : x11_1 < (l0.length : Int)
   ·
    rw [if_pos c2] at H; have c2b0 := decide_eq_true c2; clear c2; by_cases c3 : 0 ≤ x11_1
    ·
     rw [if_pos c3] at H; have c3b0 := decide_eq_true c3; clear c3; by_cases c4 : x11_1 < (l0.length : Int)
     ·
      rw [if_pos c4] at H; have c4b0 := decide_eq_true c4; clear c4; by_cases c5 : (wrap64 (x3_1 + ((rd_L2 l0 x11_1).length : Int))) < 0
      ·
       rw [if_pos c5] at H; exact absurd H (by simp)
      ·
       rw [if_neg c5] at H; have c5b0 := decide_eq_false c5; clear c5; have H' := A_ H; clear H; have p460 : 0 ≤ (x11_1 : Int) := dq; have q460 : x11_1 < (l0.length : Int) := dq; obtain ⟨ad460, A460_0, c460_0, e460, hx460_0, hl460_0, hi460_0⟩ := at_L2 HR0.out x11_1 p460 q460
       cases e460
       replace hx460_0 := (HB.out.cell (World.block_lt_of_cell? w _ hx460_0)).trans hx460_0; have HR460_0 := A_ hi460_0; have HC460_0 := A_ hl460_0; clear hi460_0 hl460_0; replace p460 := eq_true p460; replace q460 := eq_true q460; go_wp2
       go_roundg k1
       case measure => have := HK1.out; omega
       case rel => exact ⟨(wrap64 (x3_1 + ((rd_L2 l0 x11_1).length : Int))), (wrap64 (x11_1 + 1)), rf, rf, H', ⟨by have := HK1.out; omega⟩, ⟨hq HB⟩⟩
     ·
      rw [if_neg c4] at H; exact absurd H (by simp)
    ·
     rw [if_neg c3] at H; exact absurd H (by simp)
   ·
    rw [if_neg c2] at H; have c2b0 := decide_eq_false c2; clear c2; replace H := bm H; obtain ⟨t461, A6, H⟩ := H; have H' := A_ H; clear H; go_wp2_with (first | ((with_reducible refine gate_callee (f := 66) rfl ?_); refine gL (some 24) Try.func66 #[.slice none 0 0, .int .i64 x3_1] ?_; (with_reducible refine (Q65.calls x3_1 t461 _ A6.out).mono ?_); rintro e w7 ⟨v462, rfl, ho0, hb⟩; refine ⟨_, rfl, ?_⟩; have HO463 := A_ (Kd.R_lower ho0 (below_size (hq HB))); replace HB := A_ (below_step (hq HB) hb); clear hb ho0))
    go_loopg [6, 27] k1 (fun kq v6 v27 w' => ∃ (x6_2 : List Int) (x27_2 : Int), v27 = .int .i64 x27_2 ∧ Aside0 (Q25.l1 kq x6_2 l0 (l0.length : Int) x27_2 = some r) ∧ Aside0 (kq ≤ k1) ∧ Aside0 (Kd.R (Kd.int .i64) 3 w' w.heap.size (fun _ => True) v6 x6_2) ∧ Aside0 (Below w.heap.size w w'))
    case atStart => exact ⟨(t461), (0), rf, H', ⟨Nat.le_refl _⟩, ⟨rq HO463⟩, ⟨hq HB⟩⟩
    case round =>
     clear H'; (try clear c2); (try clear c2b0); (try clear c3); (try clear c3b0); (try clear c4); (try clear c4b0); (try clear c5); (try clear c5b0); (try clear hx460_0); (try clear p460); (try clear q460); obtain ⟨x6_2, x27_2, rfl, HA, HK2, HO_6, HB⟩ := hrel
     cases gk with
     | zero => exact absurd HA.out (by simp [Q25.l1])
     | succ k2 =>
      have H := HA.out; clear HA; simp only [Q25.l1] at H
      by_cases c8 : x27_2 < (l0.length : Int)
      ·
       rw [if_pos c8] at H; have c8b0 := decide_eq_true c8; clear c8; by_cases c9 : 0 ≤ x27_2
       ·
        rw [if_pos c9] at H; have c9b0 := decide_eq_true c9; clear c9; by_cases c10 : x27_2 < (l0.length : Int)
        ·
         rw [if_pos c10] at H; have c10b0 := decide_eq_true c10; clear c10; by_cases c11 : x6_2.length + (rd_L2 l0 x27_2).length < 17592186044416
         ·
          rw [if_pos c11] at H; have LMc11 := A_ c11; clear c11
          obtain ⟨y465, hy465⟩ : ∃ y_ : List Int, y_ = (x6_2 ++ (rd_L2 l0 x27_2)) := ⟨_, rfl⟩
          replace H : (Q25.l1 k2 y465 l0 (l0.length : Int) (wrap64 (x27_2 + 1))) = some r := by first | (rw [hy465]; with_reducible exact H) | (have H2_ := (Option.bind_some _ _).symm.trans H; rw [hy465]; with_reducible exact H2_) | (have H2_ := (Option.bind_some _ _).symm.trans H; with_reducible exact H2_) | with_reducible exact H | (rw [hy465]; exact H) | exact H
          have Ny465 := A_ hy465; clear hy465; have H' := A_ H; clear H; have p464 : 0 ≤ (x27_2 : Int) := dq; have q464 : x27_2 < (l0.length : Int) := dq; obtain ⟨ad464, A464_0, c464_0, e464, hx464_0, hl464_0, hi464_0⟩ := at_L2 HR0.out x27_2 p464 q464
          cases e464
          replace hx464_0 := (HB.out.cell (World.block_lt_of_cell? w _ hx464_0)).trans hx464_0; have HR464_0 := A_ hi464_0; have HC464_0 := A_ hl464_0; clear hi464_0 hl464_0; replace p464 := eq_true p464; replace q464 := eq_true q464; go_wp2_with (first | ((with_reducible refine gate_builtin (b := .append) (xs := #[.tmp 31, .tmp 32]) rfl ?_); at_builtin; refine Kd.R_append_rows (Kd.int .i64) (w0 := w) w.heap.size rfl (.tmp 31) (.tmp 32) 26 3 (.int .i64 0) 8 rfl Try.underlying26 info3 rfl (by decide) (by omega) u6 x6_2 (rd_L2 l0 x27_2) _ _ _ (fun _ => True) (fun _ => False) rfl rfl ?aO ?aR (fun _ _ h => h) (fun _ h => h.elim) ?aF ?aB ?aS ?aL ?_; (case aR => repeat (first | exact (Kd.C_below HR464_0.out HB.out) | (with_reducible refine Kd.C_alloc ?_ _) | (with_reducible refine Kd.C_drewN ?_ _) | (with_reducible refine Kd.C_drew ?_))); (case aB => exact (hq HB)); (case aF => exact (fun _ _ => trivial)); (case aO => exact (rq HO_6)); (case aS => exact (below_size (hq HB))); (case aL => have := LMc11.out; omega); intro v466 w12 ho hb hg hat; rw [← Ny465.out] at ho; have n0_ := A_ (hb); have n1_ := A_ (ho); clear HB; clear HO_6; have HB := n0_; have HO467 := n1_; clear n0_ n1_; clear ho hb hg hat))
          go_roundg k2
          case measure => have := HK1.out; have := HK2.out; omega
          case rel => exact ⟨(y465), (wrap64 (x27_2 + 1)), rf, H', ⟨by have := HK1.out; have := HK2.out; omega⟩, ⟨rq HO467⟩, ⟨hq HB⟩⟩
         ·
          rw [if_neg c11] at H; exact absurd H (by simp)
        ·
         rw [if_neg c10] at H; exact absurd H (by simp)
       ·
        rw [if_neg c9] at H; exact absurd H (by simp)
      ·
       rw [if_neg c8] at H; have c8b0 := decide_eq_false c8; clear c8; obtain rfl := Option.some.inj H; go_wp2
       go_ret
       exact ⟨_, rt, rq HO_6, hq HB⟩

end Go.Proofs.Ytbjpfnpleajhgad.PFnTours
