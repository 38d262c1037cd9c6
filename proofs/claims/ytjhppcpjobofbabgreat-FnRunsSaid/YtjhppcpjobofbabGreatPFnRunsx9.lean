-- Told shorter still by shrink2.py.
-- Printed, and told shorter by this session's program shrink.py.
-- Printed by this session's program myprint.py.
import Derived.Test.YtjhppcpjobofbabGreatPFnRunsx0
import Derived.Test.YtjhppcpjobofbabGreatPFnRunsx4
import Derived.Test.YtjhppcpjobofbabGreatPFnRunsx5
import Derived.Test.YtjhppcpjobofbabGreatPFnRunsx8
namespace Go.Proofs.YtjhppcpjobofbabGreat.PFnRuns
open Go.RowKit Go.Proofs.YtjhppcpjobofbabGreat.Own Go.Proofs.YtjhppcpjobofbabGreatW.PrintWords Go.Proofs.YtjhppcpjobofbabGreatW.PrintLast Go.Proofs.YtjhppcpjobofbabGreatW.PrintMore
attribute [local go_sem] max2_int min2_int max_two min_two max_three min_three max_four min_four   -- for this text's walks alone
set_option linter.unusedVariables false
set_option linter.unusedSimpArgs false

/-! ### impl_runs_taken: function 34 -/
mutual
def Q18.l0 : Nat → List Int → Int → List Int → Int → List Int → Int → Int → Int → Bool → List (List (List Int)) → Option (List Int × Bool)
  | 0, _, _, _, _, _, _, _, _, _, _ => none
  | k + 1, x1, x2, x10, x11, x19, x20, x21, x420000, x420001, x420002 => if x21 < x20 then (if 0 ≤ x21 then (if x21 < (x19.length : Int) then (if 0 ≤ (rd x19 x21) then (if (rd x19 x21) < (x420002.length : Int) then (if x420000 = 0 then (none) else (if 0 ≤ (Int.tmod (wrap64 (x2 + x11)) x420000) then (if (Int.tmod (wrap64 (x2 + x11)) x420000) < ((rd_L3 x420002 (rd x19 x21)).length : Int) then (Q18.l1 k x1 x2 x10 x11 (rd x19 x21) (rd_L2 (rd_L3 x420002 (rd x19 x21)) (Int.tmod (wrap64 (x2 + x11)) x420000)) (wrap64 (x420000 - x11)) x19 x20 x21 x420000 x420001 x420002) else (none)) else (none))) else (none)) else (none)) else (none)) else (none)) else (some (x10, (x11 == x420000)))
def Q18.l1 : Nat → List Int → Int → List Int → Int → Int → List Int → Int → List Int → Int → Int → Int → Bool → List (List (List Int)) → Option (List Int × Bool)
  | 0, _, _, _, _, _, _, _, _, _, _, _, _, _ => none
  | k + 1, x1, x2, x10, x11, x13, x14, x15, x19, x20, x21, x420000, x420001, x420002 => if x15 > 0 then (if 0 ≤ x15 then (if x15 < (x14.length : Int) then (if 0 ≤ x13 then (if x13 < (x1.length : Int) then (if (rd x14 x15) > (rd x1 x13) then (Q18.l1 k x1 x2 x10 x11 x13 x14 (wrap64 (x15 - 1)) x19 x20 x21 x420000 x420001 x420002) else (if x13 < (x10.length : Int) then (Q18.l0 k x1 x2 (x10.set (x13 : Int).toNat x15) (wrap64 (x11 + x15)) x19 x20 (wrap64 (x21 + 1)) x420000 x420001 x420002) else (none))) else (none)) else (none)) else (none)) else (none)) else (if 0 ≤ x13 then (if x13 < (x10.length : Int) then (Q18.l0 k x1 x2 (x10.set (x13 : Int).toNat x15) (wrap64 (x11 + x15)) x19 x20 (wrap64 (x21 + 1)) x420000 x420001 x420002) else (none)) else (none))
end
def Q18.f (k : Nat) (a0_0 : Int) (a0_1 : Bool) (l0_2 : List (List (List Int))) (l1 : List Int) (a2 : Int) (l3 : List Int) : Option (List Int × Bool) := if 0 ≤ (l1.length : Int) then (if ((l1.length : Int) : Int).toNat ≤ 35184372088832 then (Q18.l0 k l1 a2 (List.replicate ((l1.length : Int) : Int).toNat 0) 0 l3 (l3.length : Int) 0 a0_0 a0_1 l0_2) else (none)) else (none)
set_option maxHeartbeats 8000000 in
set_option maxRecDepth 100000 in
theorem Q18.calls (k : Nat) (a0_0 : Int) (a0_1 : Bool) (A0_2 : Option Addr) (c0_2 : Nat) (l0_2 : List (List (List Int))) (A1 : Option Addr) (c1 : Nat) (l1 : List Int) (a2 : Int) (A3 : Option Addr) (c3 : Nat) (l3 : List Int) (r1 : List Int) (r2 : Bool) (w : World) (hr0_2 : Kd.C (Kd.slice 26 (Kd.slice 3 (Kd.int .i64))) w A0_2 l0_2.length l0_2) (hc0_2 : l0_2.length ≤ c0_2) (hr1 : Kd.C (Kd.int .i64) w A1 l1.length l1) (hc1 : l1.length ≤ c1) (hr3 : Kd.C (Kd.int .i64) w A3 l3.length l3) (hc3 : l3.length ≤ c3) (h : Q18.f k a0_0 a0_1 l0_2 l1 a2 l3 = some (r1, r2)) :
    Calls Tryz.prog 34 #[.agg #[.int .i64 a0_0, .bool a0_1, .slice A0_2 l0_2.length c0_2], .slice A1 l1.length c1, .int .i64 a2, .slice A3 l3.length c3] w fun e w' => ∃ v0_ : Value, e = .returned (.tuple #[v0_, .bool r2]) ∧ Kd.R (Kd.int .i64) 3 w' w.heap.size (fun _ => True) v0_ r1 ∧ Below w.heap.size w w' := by
 have hu65 := Tryz.underlying65; have HR0_2 := A_ hr0_2; have HC0_2 := A_ hc0_2; clear hr0_2 hc0_2; have HR1 := A_ hr1; have HC1 := A_ hc1; clear hr1 hc1; have HR3 := A_ hr3; have HC3 := A_ hc3; clear hr3 hc3; have HB := A_ (Below.refl w.heap.size w); have H : (if 0 ≤ (l1.length : Int) then (if ((l1.length : Int) : Int).toNat ≤ 35184372088832 then (Q18.l0 k l1 a2 (List.replicate ((l1.length : Int) : Int).toNat 0) 0 l3 (l3.length : Int) 0 a0_0 a0_1 l0_2) else (none)) else (none)) = some (r1, r2) := h; clear h; by_cases c5 : 0 ≤ (l1.length : Int)
 ·
  rw [if_pos c5] at H; have c5b0 := eq_true c5; have c5b1 := decide_eq_true c5; clear c5; by_cases c6 : ((l1.length : Int) : Int).toNat ≤ 35184372088832
  ·
   rw [if_pos c6] at H; have c6b0 := eq_true c6; have c6b1 := decide_eq_true c6; clear c6
   obtain ⟨y420, hy420⟩ : ∃ y_ : List Int, y_ = (List.replicate ((l1.length : Int) : Int).toNat 0) := ⟨_, rfl⟩
   replace H : (Q18.l0 k l1 a2 y420 0 l3 (l3.length : Int) 0 a0_0 a0_1 l0_2) = some (r1, r2) := by first | (rw [hy420]; with_reducible exact H) | (have H2_ := (Option.bind_some _ _).symm.trans H; rw [hy420]; with_reducible exact H2_) | (have H2_ := (Option.bind_some _ _).symm.trans H; with_reducible exact H2_) | with_reducible exact H | (rw [hy420]; exact H) | exact H
   have Ny420 := A_ hy420; clear hy420; have H' := A_ H; clear H; go_enter Tryz.func34, Tryz.ntmps34
   go_wp2_with (first | ((with_reducible refine gate_dst (N := 4) rfl ?_); refine bx (N := 4) #[.int .i64 a0_0, .bool a0_1, .slice A0_2 l0_2.length c0_2] 65 ?_; intro gb419 hg w7 hbox hb; have BK419 := A_ (hbox); have GW419 := A_ (bs hg (hq HB) : w.heap.size ≤ gb419); have GE419 := A_ (bs hg (hq HB) : w.heap.size ≤ gb419); replace HB := A_ (below_step (hq HB) hb); clear hb hbox hg) | ((with_reducible refine gate_dst (N := 18) rfl ?_); refine Kd.R_make (Kd.int .i64) _ 3 rfl (N := 18) rfl 26 _ _ rfl (l1.length : Int) rfl rfl Tryz.underlying26 (.int .i64 0) 8 info3 rfl (by decide) (by omega) 0 (ok := fun _ => True) (okp := fun _ => True) rfl (fun _ hk => hk) trivial (dq) (Nat.le_trans (Nat.mul_le_mul_right _ (dq : (l1.length : Int).toNat ≤ 35184372088832)) (by omega)) (Below.refl _ _) (Nat.le_refl _) ?_; intro v421 w8 ho9 hb hg_ hnew_; clear hg_ hnew_; (first | rw [← Ny420.out] at ho9 | (simp only [Int.reduceToNat] at ho9; rw [← Ny420.out] at ho9)); have HO422 := A_ (Kd.R_lower ho9 (below_size (hq HB))); replace BK419 := A_ (blk_below (bq BK419) hb); replace HB := A_ (below_step (hq HB) hb); clear hb ho9))
   repeat (go_quiet (first | ((with_reducible refine gate_dst (N := 4) rfl ?_); refine bx (N := 4) #[.int .i64 a0_0, .bool a0_1, .slice A0_2 l0_2.length c0_2] 65 ?_; intro gb419 hg w7 hbox hb; have BK419 := A_ (hbox); have GW419 := A_ (bs hg (hq HB) : w.heap.size ≤ gb419); have GE419 := A_ (bs hg (hq HB) : w.heap.size ≤ gb419); replace HB := A_ (below_step (hq HB) hb); clear hb hbox hg) | ((with_reducible refine gate_dst (N := 18) rfl ?_); refine Kd.R_make (Kd.int .i64) _ 3 rfl (N := 18) rfl 26 _ _ rfl (l1.length : Int) rfl rfl Tryz.underlying26 (.int .i64 0) 8 info3 rfl (by decide) (by omega) 0 (ok := fun _ => True) (okp := fun _ => True) rfl (fun _ hk => hk) trivial (dq) (Nat.le_trans (Nat.mul_le_mul_right _ (dq : (l1.length : Int).toNat ≤ 35184372088832)) (by omega)) (Below.refl _ _) (Nat.le_refl _) ?_; intro v421 w8 ho9 hb hg_ hnew_; clear hg_ hnew_; (first | rw [← Ny420.out] at ho9 | (simp only [Int.reduceToNat] at ho9; rw [← Ny420.out] at ho9)); have HO422 := A_ (Kd.R_lower ho9 (below_size (hq HB))); replace BK419 := A_ (blk_below (bq BK419) hb); replace HB := A_ (below_step (hq HB) hb); clear hb ho9)); try go_wp2_with (first | ((with_reducible refine gate_dst (N := 4) rfl ?_); refine bx (N := 4) #[.int .i64 a0_0, .bool a0_1, .slice A0_2 l0_2.length c0_2] 65 ?_; intro gb419 hg w7 hbox hb; have BK419 := A_ (hbox); have GW419 := A_ (bs hg (hq HB) : w.heap.size ≤ gb419); have GE419 := A_ (bs hg (hq HB) : w.heap.size ≤ gb419); replace HB := A_ (below_step (hq HB) hb); clear hb hbox hg) | ((with_reducible refine gate_dst (N := 18) rfl ?_); refine Kd.R_make (Kd.int .i64) _ 3 rfl (N := 18) rfl 26 _ _ rfl (l1.length : Int) rfl rfl Tryz.underlying26 (.int .i64 0) 8 info3 rfl (by decide) (by omega) 0 (ok := fun _ => True) (okp := fun _ => True) rfl (fun _ hk => hk) trivial (dq) (Nat.le_trans (Nat.mul_le_mul_right _ (dq : (l1.length : Int).toNat ≤ 35184372088832)) (by omega)) (Below.refl _ _) (Nat.le_refl _) ?_; intro v421 w8 ho9 hb hg_ hnew_; clear hg_ hnew_; (first | rw [← Ny420.out] at ho9 | (simp only [Int.reduceToNat] at ho9; rw [← Ny420.out] at ho9)); have HO422 := A_ (Kd.R_lower ho9 (below_size (hq HB))); replace BK419 := A_ (blk_below (bq BK419) hb); replace HB := A_ (below_step (hq HB) hb); clear hb ho9)))
   go_loopg [11, 21] k (fun kq v11 v21 w' => ∃ (x10_1 : List Int) (x11_1 : Int) (x21_1 : Int), v11 = .int .i64 x11_1 ∧ v21 = .int .i64 x21_1 ∧ Aside0 (Q18.l0 kq l1 a2 x10_1 x11_1 l3 (l3.length : Int) x21_1 a0_0 a0_1 l0_2 = some (r1, r2)) ∧ Aside0 (kq ≤ k) ∧ Aside0 (Kd.R (Kd.int .i64) 3 w' w.heap.size (fun _ => True) v421 x10_1) ∧ Aside0 (w'.heap[gb419]? = some (.cells #[.int .i64 a0_0, .bool a0_1, (.slice A0_2 l0_2.length c0_2)] 65 (0, 0))) ∧ Aside0 (Below w.heap.size w w'))
   case atStart => exact ⟨(y420), (0), (0), rf, rf, H', ⟨Nat.le_refl _⟩, ⟨rq HO422⟩, ⟨bq BK419⟩, ⟨hq HB⟩⟩
   case round =>
    clear H'; (try clear c5); (try clear c5b0); (try clear c5b1); (try clear c6); (try clear c6b0); (try clear c6b1); obtain ⟨x10_1, x11_1, x21_1, rfl, rfl, HA, HK1, HO_10, BK419, HB⟩ := hrel
    cases gk with
    | zero => exact absurd HA.out (by simp [Q18.l0])
    | succ k1 =>
     have H := HA.out; clear HA; simp only [Q18.l0] at H
     by_cases c10 : x21_1 < (l3.length : Int)
     ·
      rw [if_pos c10] at H; have c10b0 := decide_eq_true c10; clear c10; by_cases c11 : 0 ≤ x21_1
      ·
       rw [if_pos c11] at H; have c11b0 := decide_eq_true c11; clear c11; by_cases c12 : x21_1 < (l3.length : Int)
       ·
        rw [if_pos c12] at H; have c12b0 := decide_eq_true c12; clear c12; by_cases c13 : 0 ≤ (rd l3 x21_1)
        ·
         rw [if_pos c13] at H; have c13b0 := decide_eq_true c13; clear c13; by_cases c14 : (rd l3 x21_1) < (l0_2.length : Int)
         ·
          rw [if_pos c14] at H; have c14b0 := decide_eq_true c14; clear c14; by_cases c15 : a0_0 = 0
          ·
           rw [if_pos c15] at H; exact absurd H (by simp)
          ·
           rw [if_neg c15] at H; have c15b0 : (a0_0 == 0) = false := beq_eq_false_iff_ne.mpr c15; have c15b1 : (a0_0 != 0) = true := bne_iff_ne.mpr c15
           obtain ⟨ji16, hji16⟩ : ∃ j_ : Int, (Int.tmod (wrap64 (a2 + x11_1)) a0_0) = j_ := ⟨_, rfl⟩
           replace H : (if 0 ≤ (ji16) then (if (ji16) < ((rd_L3 l0_2 (rd l3 x21_1)).length : Int) then (Q18.l1 k1 l1 a2 x10_1 x11_1 (rd l3 x21_1) (rd_L2 (rd_L3 l0_2 (rd l3 x21_1)) (ji16)) (wrap64 (a0_0 - x11_1)) l3 (l3.length : Int) x21_1 a0_0 a0_1 l0_2) else (none)) else (none)) = some (r1, r2) := by first | (rw [hji16] at H; exact H) | (simp only [hji16] at H ⊢; exact H)
           by_cases c17 : 0 ≤ (ji16)
           ·
            rw [if_pos c17] at H; have c17b0 := decide_eq_true c17; clear c17; by_cases c18 : (ji16) < ((rd_L3 l0_2 (rd l3 x21_1)).length : Int)
            ·
             rw [if_pos c18] at H; have c18b0 := decide_eq_true c18; clear c18; have H' := A_ H; clear H; have p423 : 0 ≤ (x21_1 : Int) := dq; have q423 : x21_1 < (l3.length : Int) := dq; obtain ⟨ad423, e423, hx423_0⟩ := Kd.at_int HR3.out x21_1 p423 q423
             cases e423
             replace hx423_0 := (HB.out.cell (World.block_lt_of_cell? w _ hx423_0)).trans hx423_0; replace p423 := eq_true p423; replace q423 := eq_true q423; have hcz19_0 : wr.cell? ⟨gb419, 0, none⟩ = some (.int .i64 a0_0) := bc BK419 0; have hcz19_1 : wr.cell? ⟨gb419, 1, none⟩ = some (.bool a0_1) := bc BK419 1; have hcz19_2 : wr.cell? ⟨gb419, 2, none⟩ = some (.slice A0_2 l0_2.length c0_2) := bc BK419 2; have hfz19_0 := blk_frozen BK419.out 0; have hfz19_1 := blk_frozen BK419.out 1; have hfz19_2 := blk_frozen BK419.out 2; have p424 : 0 ≤ ((rd l3 x21_1) : Int) := dq; have q424 : (rd l3 x21_1) < (l0_2.length : Int) := dq; obtain ⟨ad424, A424_0, c424_0, e424, hx424_0, hl424_0, hi424_0⟩ := at_L3 HR0_2.out (rd l3 x21_1) p424 q424
             cases e424
             replace hx424_0 := (HB.out.cell (World.block_lt_of_cell? w _ hx424_0)).trans hx424_0; have HR424_0 := A_ hi424_0; have HC424_0 := A_ hl424_0; clear hi424_0 hl424_0; replace p424 := eq_true p424; replace q424 := eq_true q424; have p425 : 0 ≤ ((ji16) : Int) := dq; have q425 : (ji16) < ((rd_L3 l0_2 (rd l3 x21_1)).length : Int) := dq; obtain ⟨ad425, A425_0, c425_0, e425, hx425_0, hl425_0, hi425_0⟩ := at_L2 HR424_0.out (ji16) p425 q425
             cases e425
             replace hx425_0 := (HB.out.cell (World.block_lt_of_cell? w _ hx425_0)).trans hx425_0; have HR425_0 := A_ hi425_0; have HC425_0 := A_ hl425_0; clear hi425_0 hl425_0; replace p425 := eq_true p425; replace q425 := eq_true q425; go_wp2
             repeat (go_quiet (fail); try go_wp2)
             go_loopg [15] k1 (fun kq v15 w' => ∃ (x15_2 : Int), v15 = .int .i64 x15_2 ∧ Aside0 (Q18.l1 kq l1 a2 x10_1 x11_1 (rd l3 x21_1) (rd_L2 (rd_L3 l0_2 (rd l3 x21_1)) (ji16)) x15_2 l3 (l3.length : Int) x21_1 a0_0 a0_1 l0_2 = some (r1, r2)) ∧ Aside0 (kq ≤ k1) ∧ Aside0 (Kd.R (Kd.int .i64) 3 w' w.heap.size (fun _ => True) v421 x10_1) ∧ Aside0 (w'.heap[gb419]? = some (.cells #[.int .i64 a0_0, .bool a0_1, (.slice (some ad424) l0_2.length c0_2)] 65 (0, 0))) ∧ Aside0 (Below w.heap.size w w'))
             case atStart => exact ⟨(wrap64 (a0_0 - x11_1)), rf, H', ⟨Nat.le_refl _⟩, ⟨rq HO_10⟩, ⟨bq BK419⟩, ⟨hq HB⟩⟩
             case round =>
              clear H'; (try clear c5); (try clear c5b0); (try clear c5b1); (try clear c6); (try clear c6b0); (try clear c6b1); (try clear c10); (try clear c10b0); (try clear c11); (try clear c11b0); (try clear c12); (try clear c12b0); (try clear c13); (try clear c13b0); (try clear c14); (try clear c14b0); (try clear c15); (try clear c15b0); (try clear c15b1); (try clear c17); (try clear c17b0); (try clear c18); (try clear c18b0); (try clear hcz19_0); (try clear hcz19_1); (try clear hcz19_2); (try clear hfz19_0); (try clear hfz19_1); (try clear hfz19_2); (try clear hx423_0); (try clear hx424_0); (try clear hx425_0); (try clear p423); (try clear p424); (try clear p425); (try clear q423); (try clear q424); (try clear q425); obtain ⟨x15_2, rfl, HA, HK2, HO_10, BK419, HB⟩ := hrel
              cases gk with
              | zero => exact absurd HA.out (by simp [Q18.l1])
              | succ k2 =>
               have H := HA.out; clear HA; simp only [Q18.l1] at H
               by_cases c20 : x15_2 > 0
               ·
                rw [if_pos c20] at H; have c20b0 : decide (0 < x15_2) = true := decide_eq_true c20; clear c20; by_cases c21 : 0 ≤ x15_2
                ·
                 rw [if_pos c21] at H; have c21b0 := decide_eq_true c21; clear c21; by_cases c22 : x15_2 < ((rd_L2 (rd_L3 l0_2 (rd l3 x21_1)) (ji16)).length : Int)
                 ·
                  rw [if_pos c22] at H; have c22b0 := decide_eq_true c22; clear c22; by_cases c23 : 0 ≤ (rd l3 x21_1)
                  ·
                   rw [if_pos c23] at H; have c23b0 := decide_eq_true c23; clear c23; by_cases c24 : (rd l3 x21_1) < (l1.length : Int)
                   ·
                    rw [if_pos c24] at H; have c24b0 := decide_eq_true c24; clear c24; by_cases c25 : (rd (rd_L2 (rd_L3 l0_2 (rd l3 x21_1)) (ji16)) x15_2) > (rd l1 (rd l3 x21_1))
                    ·
                     rw [if_pos c25] at H; have c25b0 : decide ((rd l1 (rd l3 x21_1)) < (rd (rd_L2 (rd_L3 l0_2 (rd l3 x21_1)) (ji16)) x15_2)) = true := decide_eq_true c25; clear c25; have H' := A_ H; clear H; have p426 : 0 ≤ (x15_2 : Int) := dq; have q426 : x15_2 < ((rd_L2 (rd_L3 l0_2 (rd l3 x21_1)) (ji16)).length : Int) := dq; obtain ⟨ad426, e426, hx426_0⟩ := Kd.at_int HR425_0.out x15_2 p426 q426
                     cases e426
                     replace hx426_0 := (HB.out.cell (World.block_lt_of_cell? w _ hx426_0)).trans hx426_0; replace p426 := eq_true p426; replace q426 := eq_true q426; have p427 : 0 ≤ ((rd l3 x21_1) : Int) := dq; have q427 : (rd l3 x21_1) < (l1.length : Int) := dq; obtain ⟨ad427, e427, hx427_0⟩ := Kd.at_int HR1.out (rd l3 x21_1) p427 q427
                     cases e427
                     replace hx427_0 := (HB.out.cell (World.block_lt_of_cell? w _ hx427_0)).trans hx427_0; replace p427 := eq_true p427; replace q427 := eq_true q427; go_wp2
                     repeat (go_quiet (fail); try go_wp2)
                     go_roundg k2
                     case measure => have := HK1.out; have := HK2.out; omega
                     case rel => exact ⟨(wrap64 (x15_2 - 1)), rf, H', ⟨by have := HK1.out; have := HK2.out; omega⟩, ⟨rq HO_10⟩, ⟨bq BK419⟩, ⟨hq HB⟩⟩
                    ·
                     rw [if_neg c25] at H; have c25b0 : decide ((rd l1 (rd l3 x21_1)) < (rd (rd_L2 (rd_L3 l0_2 (rd l3 x21_1)) (ji16)) x15_2)) = false := decide_eq_false c25; clear c25; by_cases c26 : (rd l3 x21_1) < (x10_1.length : Int)
                     ·
                      rw [if_pos c26] at H; have c26b0 := decide_eq_true c26; clear c26
                      obtain ⟨y428, hy428⟩ : ∃ y_ : List Int, y_ = (x10_1.set ((rd l3 x21_1) : Int).toNat x15_2) := ⟨_, rfl⟩
                      replace H : (Q18.l0 k2 l1 a2 y428 (wrap64 (x11_1 + x15_2)) l3 (l3.length : Int) (wrap64 (x21_1 + 1)) a0_0 a0_1 l0_2) = some (r1, r2) := by first | (rw [hy428]; with_reducible exact H) | (have H2_ := (Option.bind_some _ _).symm.trans H; rw [hy428]; with_reducible exact H2_) | (have H2_ := (Option.bind_some _ _).symm.trans H; with_reducible exact H2_) | with_reducible exact H | (rw [hy428]; exact H) | exact H
                      have Ny428 := A_ hy428; clear hy428; have H' := A_ H; clear H; have p426 : 0 ≤ (x15_2 : Int) := dq; have q426 : x15_2 < ((rd_L2 (rd_L3 l0_2 (rd l3 x21_1)) (ji16)).length : Int) := dq; obtain ⟨ad426, e426, hx426_0⟩ := Kd.at_int HR425_0.out x15_2 p426 q426
                      cases e426
                      replace hx426_0 := (HB.out.cell (World.block_lt_of_cell? w _ hx426_0)).trans hx426_0; replace p426 := eq_true p426; replace q426 := eq_true q426; have p427 : 0 ≤ ((rd l3 x21_1) : Int) := dq; have q427 : (rd l3 x21_1) < (l1.length : Int) := dq; obtain ⟨ad427, e427, hx427_0⟩ := Kd.at_int HR1.out (rd l3 x21_1) p427 q427
                      cases e427
                      replace hx427_0 := (HB.out.cell (World.block_lt_of_cell? w _ hx427_0)).trans hx427_0; replace p427 := eq_true p427; replace q427 := eq_true q427; have p27 : 0 ≤ ((rd l3 x21_1) : Int) := dq; have q27 : ((rd l3 x21_1) : Int) < ((x10_1.length : Int) : Int) := dq; obtain ⟨go27, co27, eo27, gb27, gl27, cl27, HG27⟩ := Kd.R_form HO_10.out (by omega); (first | cases eo27 | (injection eo27 with ea_ en_ ec_; (first | subst ea_ | (injection ea_ with ea_; subst ea_)); subst ec_; clear en_)); have GB27 := A_ gb27; have GG27 := A_ HG27; clear gb27 gl27 HG27; obtain ⟨hx27_0, hf27_0⟩ := Kd.R_celln 0 HO_10.out ((rd l3 x21_1) : Int) p27 q27; replace p27 := eq_true p27; replace q27 := eq_true q27; have HP28 := Kd.R_putg HO_10.out ((rd l3 x21_1) : Int) x15_2; go_wp2_with (first | ((with_reducible refine gate_store (t := 3) (p := 65) rfl ?_); (try (rw [drewN_self wr]; generalize hq_ : World.drewN wr _ = wr; have n0_ := A_ (Kd.R_at hq_ HO_10.out); have n1_ := A_ (blk_at hq_ BK419.out); have n2_ := A_ (below_at hq_ HB.out); clear hq_ HO_10 BK419 HB; have HO_10 := n0_; have BK419 := n1_; have HB := n2_; clear n0_ n1_ n2_; (try (have HP28 := Kd.R_putg HO_10.out ((rd l3 x21_1) : Int) x15_2)); (try (obtain ⟨hx27_0, hf27_0⟩ := Kd.R_celln 0 HO_10.out ((rd l3 x21_1) : Int) (of_eq_true p27) (of_eq_true q27))))); refine store_event (t := 3) (p := 65) (v := ?vo_w29) (w1 := (wr.setCell ⟨go27, ((rd l3 x21_1) : Int).toNat, none⟩ (.int .i64 x15_2))) ?hg ?ho ?hn ?hr ?_; (case ho => rfl); (case hg => rfl); (case hn => rfl); (case hr => first | (go_simp; done) | (go_simp; rfl)); intro w29 hw; have hg : wr.grownBy w29 (some go27) := (by rw [hw]; exact HP28.2); have hp_ : Kd.R (Kd.int .i64) 3 w29 w.heap.size (fun _ => True) (.slice (some ⟨go27, 0, none⟩) x10_1.length co27) y428 := (by rw [hw, Ny428.out]; exact HP28.1); clear HP28; replace BK419 := A_ (blk_grown (g := gb419) (o := .cells #[.int .i64 a0_0, .bool a0_1, .slice (some ad424) l0_2.length c0_2] 65 (0, 0)) (bq BK419) hg (Kd.R_ne HO_10.out BK419.out (by decide))); replace HO_10 := A_ (hp_); replace HB := A_ ((by rw [hw]; exact below_set (HB.out) GB27.out : Below w.heap.size w w29)); clear hg hw hp_))
                      repeat (go_quiet (first | ((with_reducible refine gate_store (t := 3) (p := 65) rfl ?_); (try (rw [drewN_self wr]; generalize hq_ : World.drewN wr _ = wr; have n0_ := A_ (Kd.R_at hq_ HO_10.out); have n1_ := A_ (blk_at hq_ BK419.out); have n2_ := A_ (below_at hq_ HB.out); clear hq_ HO_10 BK419 HB; have HO_10 := n0_; have BK419 := n1_; have HB := n2_; clear n0_ n1_ n2_; (try (have HP28 := Kd.R_putg HO_10.out ((rd l3 x21_1) : Int) x15_2)); (try (obtain ⟨hx27_0, hf27_0⟩ := Kd.R_celln 0 HO_10.out ((rd l3 x21_1) : Int) (of_eq_true p27) (of_eq_true q27))))); refine store_event (t := 3) (p := 65) (v := ?vo_w29) (w1 := (wr.setCell ⟨go27, ((rd l3 x21_1) : Int).toNat, none⟩ (.int .i64 x15_2))) ?hg ?ho ?hn ?hr ?_; (case ho => rfl); (case hg => rfl); (case hn => rfl); (case hr => first | (go_simp; done) | (go_simp; rfl)); intro w29 hw; have hg : wr.grownBy w29 (some go27) := (by rw [hw]; exact HP28.2); have hp_ : Kd.R (Kd.int .i64) 3 w29 w.heap.size (fun _ => True) (.slice (some ⟨go27, 0, none⟩) x10_1.length co27) y428 := (by rw [hw, Ny428.out]; exact HP28.1); clear HP28; replace BK419 := A_ (blk_grown (g := gb419) (o := .cells #[.int .i64 a0_0, .bool a0_1, .slice (some ad424) l0_2.length c0_2] 65 (0, 0)) (bq BK419) hg (Kd.R_ne HO_10.out BK419.out (by decide))); replace HO_10 := A_ (hp_); replace HB := A_ ((by rw [hw]; exact below_set (HB.out) GB27.out : Below w.heap.size w w29)); clear hg hw hp_)); try go_wp2_with (first | ((with_reducible refine gate_store (t := 3) (p := 65) rfl ?_); (try (rw [drewN_self wr]; generalize hq_ : World.drewN wr _ = wr; have n0_ := A_ (Kd.R_at hq_ HO_10.out); have n1_ := A_ (blk_at hq_ BK419.out); have n2_ := A_ (below_at hq_ HB.out); clear hq_ HO_10 BK419 HB; have HO_10 := n0_; have BK419 := n1_; have HB := n2_; clear n0_ n1_ n2_; (try (have HP28 := Kd.R_putg HO_10.out ((rd l3 x21_1) : Int) x15_2)); (try (obtain ⟨hx27_0, hf27_0⟩ := Kd.R_celln 0 HO_10.out ((rd l3 x21_1) : Int) (of_eq_true p27) (of_eq_true q27))))); refine store_event (t := 3) (p := 65) (v := ?vo_w29) (w1 := (wr.setCell ⟨go27, ((rd l3 x21_1) : Int).toNat, none⟩ (.int .i64 x15_2))) ?hg ?ho ?hn ?hr ?_; (case ho => rfl); (case hg => rfl); (case hn => rfl); (case hr => first | (go_simp; done) | (go_simp; rfl)); intro w29 hw; have hg : wr.grownBy w29 (some go27) := (by rw [hw]; exact HP28.2); have hp_ : Kd.R (Kd.int .i64) 3 w29 w.heap.size (fun _ => True) (.slice (some ⟨go27, 0, none⟩) x10_1.length co27) y428 := (by rw [hw, Ny428.out]; exact HP28.1); clear HP28; replace BK419 := A_ (blk_grown (g := gb419) (o := .cells #[.int .i64 a0_0, .bool a0_1, .slice (some ad424) l0_2.length c0_2] 65 (0, 0)) (bq BK419) hg (Kd.R_ne HO_10.out BK419.out (by decide))); replace HO_10 := A_ (hp_); replace HB := A_ ((by rw [hw]; exact below_set (HB.out) GB27.out : Below w.heap.size w w29)); clear hg hw hp_)))
                      go_roundg k2
                      case measure => have := HK1.out; have := HK2.out; omega
                      case rel => exact ⟨(y428), (wrap64 (x11_1 + x15_2)), (wrap64 (x21_1 + 1)), rf, rf, H', ⟨by have := HK1.out; have := HK2.out; omega⟩, ⟨rq HO_10⟩, ⟨bq BK419⟩, ⟨hq HB⟩⟩
                     ·
                      rw [if_neg c26] at H; exact absurd H (by simp)
                   ·
                    rw [if_neg c24] at H; exact absurd H (by simp)
                  ·
                   rw [if_neg c23] at H; exact absurd H (by simp)
                 ·
                  rw [if_neg c22] at H; exact absurd H (by simp)
                ·
                 rw [if_neg c21] at H; exact absurd H (by simp)
               ·
                rw [if_neg c20] at H; have c20b0 : decide (0 < x15_2) = false := decide_eq_false c20; clear c20; by_cases c30 : 0 ≤ (rd l3 x21_1)
                ·
                 rw [if_pos c30] at H; have c30b0 := decide_eq_true c30; clear c30; by_cases c31 : (rd l3 x21_1) < (x10_1.length : Int)
                 ·
                  rw [if_pos c31] at H; have c31b0 := decide_eq_true c31; clear c31
                  obtain ⟨y429, hy429⟩ : ∃ y_ : List Int, y_ = (x10_1.set ((rd l3 x21_1) : Int).toNat x15_2) := ⟨_, rfl⟩
                  replace H : (Q18.l0 k2 l1 a2 y429 (wrap64 (x11_1 + x15_2)) l3 (l3.length : Int) (wrap64 (x21_1 + 1)) a0_0 a0_1 l0_2) = some (r1, r2) := by first | (rw [hy429]; with_reducible exact H) | (have H2_ := (Option.bind_some _ _).symm.trans H; rw [hy429]; with_reducible exact H2_) | (have H2_ := (Option.bind_some _ _).symm.trans H; with_reducible exact H2_) | with_reducible exact H | (rw [hy429]; exact H) | exact H
                  have Ny429 := A_ hy429; clear hy429; have H' := A_ H; clear H; have p32 : 0 ≤ ((rd l3 x21_1) : Int) := dq; have q32 : ((rd l3 x21_1) : Int) < ((x10_1.length : Int) : Int) := dq; obtain ⟨go32, co32, eo32, gb32, gl32, cl32, HG32⟩ := Kd.R_form HO_10.out (by omega); (first | cases eo32 | (injection eo32 with ea_ en_ ec_; (first | subst ea_ | (injection ea_ with ea_; subst ea_)); subst ec_; clear en_)); have GB32 := A_ gb32; have GG32 := A_ HG32; clear gb32 gl32 HG32; obtain ⟨hx32_0, hf32_0⟩ := Kd.R_celln 0 HO_10.out ((rd l3 x21_1) : Int) p32 q32; replace p32 := eq_true p32; replace q32 := eq_true q32; have HP33 := Kd.R_putg HO_10.out ((rd l3 x21_1) : Int) x15_2; go_wp2_with (first | ((with_reducible refine gate_store (t := 3) (p := 65) rfl ?_); (try (rw [drewN_self wr]; generalize hq_ : World.drewN wr _ = wr; have n0_ := A_ (Kd.R_at hq_ HO_10.out); have n1_ := A_ (blk_at hq_ BK419.out); have n2_ := A_ (below_at hq_ HB.out); clear hq_ HO_10 BK419 HB; have HO_10 := n0_; have BK419 := n1_; have HB := n2_; clear n0_ n1_ n2_; (try (have HP33 := Kd.R_putg HO_10.out ((rd l3 x21_1) : Int) x15_2)); (try (obtain ⟨hx32_0, hf32_0⟩ := Kd.R_celln 0 HO_10.out ((rd l3 x21_1) : Int) (of_eq_true p32) (of_eq_true q32))))); refine store_event (t := 3) (p := 65) (v := ?vo_w34) (w1 := (wr.setCell ⟨go32, ((rd l3 x21_1) : Int).toNat, none⟩ (.int .i64 x15_2))) ?hg ?ho ?hn ?hr ?_; (case ho => rfl); (case hg => rfl); (case hn => rfl); (case hr => first | (go_simp; done) | (go_simp; rfl)); intro w34 hw; have hg : wr.grownBy w34 (some go32) := (by rw [hw]; exact HP33.2); have hp_ : Kd.R (Kd.int .i64) 3 w34 w.heap.size (fun _ => True) (.slice (some ⟨go32, 0, none⟩) x10_1.length co32) y429 := (by rw [hw, Ny429.out]; exact HP33.1); clear HP33; replace BK419 := A_ (blk_grown (g := gb419) (o := .cells #[.int .i64 a0_0, .bool a0_1, .slice (some ad424) l0_2.length c0_2] 65 (0, 0)) (bq BK419) hg (Kd.R_ne HO_10.out BK419.out (by decide))); replace HO_10 := A_ (hp_); replace HB := A_ ((by rw [hw]; exact below_set (HB.out) GB32.out : Below w.heap.size w w34)); clear hg hw hp_))
                  repeat (go_quiet (first | ((with_reducible refine gate_store (t := 3) (p := 65) rfl ?_); (try (rw [drewN_self wr]; generalize hq_ : World.drewN wr _ = wr; have n0_ := A_ (Kd.R_at hq_ HO_10.out); have n1_ := A_ (blk_at hq_ BK419.out); have n2_ := A_ (below_at hq_ HB.out); clear hq_ HO_10 BK419 HB; have HO_10 := n0_; have BK419 := n1_; have HB := n2_; clear n0_ n1_ n2_; (try (have HP33 := Kd.R_putg HO_10.out ((rd l3 x21_1) : Int) x15_2)); (try (obtain ⟨hx32_0, hf32_0⟩ := Kd.R_celln 0 HO_10.out ((rd l3 x21_1) : Int) (of_eq_true p32) (of_eq_true q32))))); refine store_event (t := 3) (p := 65) (v := ?vo_w34) (w1 := (wr.setCell ⟨go32, ((rd l3 x21_1) : Int).toNat, none⟩ (.int .i64 x15_2))) ?hg ?ho ?hn ?hr ?_; (case ho => rfl); (case hg => rfl); (case hn => rfl); (case hr => first | (go_simp; done) | (go_simp; rfl)); intro w34 hw; have hg : wr.grownBy w34 (some go32) := (by rw [hw]; exact HP33.2); have hp_ : Kd.R (Kd.int .i64) 3 w34 w.heap.size (fun _ => True) (.slice (some ⟨go32, 0, none⟩) x10_1.length co32) y429 := (by rw [hw, Ny429.out]; exact HP33.1); clear HP33; replace BK419 := A_ (blk_grown (g := gb419) (o := .cells #[.int .i64 a0_0, .bool a0_1, .slice (some ad424) l0_2.length c0_2] 65 (0, 0)) (bq BK419) hg (Kd.R_ne HO_10.out BK419.out (by decide))); replace HO_10 := A_ (hp_); replace HB := A_ ((by rw [hw]; exact below_set (HB.out) GB32.out : Below w.heap.size w w34)); clear hg hw hp_)); try go_wp2_with (first | ((with_reducible refine gate_store (t := 3) (p := 65) rfl ?_); (try (rw [drewN_self wr]; generalize hq_ : World.drewN wr _ = wr; have n0_ := A_ (Kd.R_at hq_ HO_10.out); have n1_ := A_ (blk_at hq_ BK419.out); have n2_ := A_ (below_at hq_ HB.out); clear hq_ HO_10 BK419 HB; have HO_10 := n0_; have BK419 := n1_; have HB := n2_; clear n0_ n1_ n2_; (try (have HP33 := Kd.R_putg HO_10.out ((rd l3 x21_1) : Int) x15_2)); (try (obtain ⟨hx32_0, hf32_0⟩ := Kd.R_celln 0 HO_10.out ((rd l3 x21_1) : Int) (of_eq_true p32) (of_eq_true q32))))); refine store_event (t := 3) (p := 65) (v := ?vo_w34) (w1 := (wr.setCell ⟨go32, ((rd l3 x21_1) : Int).toNat, none⟩ (.int .i64 x15_2))) ?hg ?ho ?hn ?hr ?_; (case ho => rfl); (case hg => rfl); (case hn => rfl); (case hr => first | (go_simp; done) | (go_simp; rfl)); intro w34 hw; have hg : wr.grownBy w34 (some go32) := (by rw [hw]; exact HP33.2); have hp_ : Kd.R (Kd.int .i64) 3 w34 w.heap.size (fun _ => True) (.slice (some ⟨go32, 0, none⟩) x10_1.length co32) y429 := (by rw [hw, Ny429.out]; exact HP33.1); clear HP33; replace BK419 := A_ (blk_grown (g := gb419) (o := .cells #[.int .i64 a0_0, .bool a0_1, .slice (some ad424) l0_2.length c0_2] 65 (0, 0)) (bq BK419) hg (Kd.R_ne HO_10.out BK419.out (by decide))); replace HO_10 := A_ (hp_); replace HB := A_ ((by rw [hw]; exact below_set (HB.out) GB32.out : Below w.heap.size w w34)); clear hg hw hp_)))
                  go_roundg k2
                  case measure => have := HK1.out; have := HK2.out; omega
                  case rel => exact ⟨(y429), (wrap64 (x11_1 + x15_2)), (wrap64 (x21_1 + 1)), rf, rf, H', ⟨by have := HK1.out; have := HK2.out; omega⟩, ⟨rq HO_10⟩, ⟨bq BK419⟩, ⟨hq HB⟩⟩
                 ·
                  rw [if_neg c31] at H; exact absurd H (by simp)
                ·
                 rw [if_neg c30] at H; exact absurd H (by simp)
            ·
             rw [if_neg c18] at H; exact absurd H (by simp)
           ·
            rw [if_neg c17] at H; exact absurd H (by simp)
         ·
          rw [if_neg c14] at H; exact absurd H (by simp)
        ·
         rw [if_neg c13] at H; exact absurd H (by simp)
       ·
        rw [if_neg c12] at H; exact absurd H (by simp)
      ·
       rw [if_neg c11] at H; exact absurd H (by simp)
     ·
      rw [if_neg c10] at H; have c10b0 := decide_eq_false c10; clear c10; simp only [Option.some.injEq, Prod.mk.injEq] at H
      obtain ⟨rfl, rfl⟩ := H; have hcz35_0 : wr.cell? ⟨gb419, 0, none⟩ = some (.int .i64 a0_0) := bc BK419 0; have hcz35_1 : wr.cell? ⟨gb419, 1, none⟩ = some (.bool a0_1) := bc BK419 1; have hcz35_2 : wr.cell? ⟨gb419, 2, none⟩ = some (.slice A0_2 l0_2.length c0_2) := bc BK419 2; have hfz35_0 := blk_frozen BK419.out 0; have hfz35_1 := blk_frozen BK419.out 1; have hfz35_2 := blk_frozen BK419.out 2; go_wp2
      repeat (go_quiet (fail); try go_wp2)
      go_ret2
      exact ⟨_, rt, rq HO_10, hq HB⟩
  ·
   rw [if_neg c6] at H; exact absurd H (by simp)
 ·
  rw [if_neg c5] at H; exact absurd H (by simp)

/-! ### impl_TakenRuns: function 6 -/
mutual
def Q7.j0 : Nat → List Int → List Int → Int → List Int → Bool → Bool → Int → Bool → Option (List Int × Bool)
  | 0, _, _, _, _, _, _, _, _ => none
  | k + 1, x1, x2, x3, x4, x5, x37, x431000, x431001 => if x37 = true then (some (([] : List Int), false)) else ((Q71.f k x4).bind fun t436 => (if (x4.length : Int) = (x1.length : Int) then ((Q55.f k (x1.length : Int)).bind fun t439 => (if 0 < (t439.length : Int) then ((Q49.f k t436 (rd_L2 t439 0)).bind fun t443 => (Q7.j1 k x1 x2 x3 x4 x5 (!t443) x431000 x431001)) else (none))) else (Q7.j1 k x1 x2 x3 x4 x5 true x431000 x431001)))
def Q7.j1 : Nat → List Int → List Int → Int → List Int → Bool → Bool → Int → Bool → Option (List Int × Bool)
  | 0, _, _, _, _, _, _, _, _ => none
  | k + 1, x1, x2, x3, x4, x5, x55, x431000, x431001 => if x55 = true then (some (([] : List Int), false)) else ((Q11.f k x431000 x431001 x1 x5).bind fun bt444 => ((Q18.f k bt444.1 bt444.2.1 bt444.2.2 x2 x3 x4).bind fun bt449 => (some (bt449.1, true))))
end
def Q7.f (k : Nat) (a0_0 : Int) (a0_1 : Bool) (l1 : List Int) (l2 : List Int) (a3 : Int) (l4 : List Int) (a5 : Bool) : Option (List Int × Bool) := (Q50.f k a0_0 a0_1 l1 l2).bind fun t431 => (if t431 = true then ((Q6.f k a0_0 a0_1 (([a3] : List Int))).bind fun t435 => (if t435 = true then (if a0_1 = true then (Q7.j0 k l1 l2 a3 l4 a5 false a0_0 a0_1) else (Q7.j0 k l1 l2 a3 l4 a5 (a3 != 0) a0_0 a0_1)) else (Q7.j0 k l1 l2 a3 l4 a5 true a0_0 a0_1))) else (Q7.j0 k l1 l2 a3 l4 a5 true a0_0 a0_1))
set_option maxHeartbeats 8000000 in
set_option maxRecDepth 100000 in
theorem Q7.calls (k : Nat) (a0_0 : Int) (a0_1 : Bool) (A1 : Option Addr) (c1 : Nat) (l1 : List Int) (A2 : Option Addr) (c2 : Nat) (l2 : List Int) (a3 : Int) (A4 : Option Addr) (c4 : Nat) (l4 : List Int) (a5 : Bool) (r1 : List Int) (r2 : Bool) (w : World) (hr1 : Kd.C (Kd.int .i64) w A1 l1.length l1) (hc1 : l1.length ≤ c1) (hr2 : Kd.C (Kd.int .i64) w A2 l2.length l2) (hc2 : l2.length ≤ c2) (hr4 : Kd.C (Kd.int .i64) w A4 l4.length l4) (hc4 : l4.length ≤ c4) (h : Q7.f k a0_0 a0_1 l1 l2 a3 l4 a5 = some (r1, r2)) :
    Calls Tryz.prog 6 #[.agg #[.int .i64 a0_0, .bool a0_1], .slice A1 l1.length c1, .slice A2 l2.length c2, .int .i64 a3, .slice A4 l4.length c4, .bool a5] w fun e w' => ∃ v0_ : Value, e = .returned (.tuple #[v0_, .bool r2]) ∧ Kd.R (Kd.int .i64) 3 w' w.heap.size (fun _ => True) v0_ r1 ∧ Below w.heap.size w w' := by
 have hu25 := Tryz.underlying25; have HR1 := A_ hr1; have HC1 := A_ hc1; clear hr1 hc1; have HR2 := A_ hr2; have HC2 := A_ hc2; clear hr2 hc2; have HR4 := A_ hr4; have HC4 := A_ hc4; clear hr4 hc4; have HB := A_ (Below.refl w.heap.size w); have H : ((Q50.f k a0_0 a0_1 l1 l2).bind fun t431 => (if t431 = true then ((Q6.f k a0_0 a0_1 (([a3] : List Int))).bind fun t435 => (if t435 = true then (if a0_1 = true then (Q7.j0 k l1 l2 a3 l4 a5 false a0_0 a0_1) else (Q7.j0 k l1 l2 a3 l4 a5 (a3 != 0) a0_0 a0_1)) else (Q7.j0 k l1 l2 a3 l4 a5 true a0_0 a0_1))) else (Q7.j0 k l1 l2 a3 l4 a5 true a0_0 a0_1))) = some (r1, r2) := h; clear h; have HC7 := A_ H; clear H; go_enter Tryz.func6, Tryz.ntmps6
 go_upto_region 1 with (first | ((with_reducible refine gate_dst (N := 6) rfl ?_); (try (refine gate_guard (by rfl) ?_; dsimp only)); refine bx (N := 6) #[.int .i64 a0_0, .bool a0_1] 25 ?_; intro gb430 hg w8 hbox hb; have BK430 := A_ (hbox); have GW430 := A_ (bs hg (hq HB) : w.heap.size ≤ gb430); have GE430 := A_ (bs hg (hq HB) : w.heap.size ≤ gb430); replace HB := A_ (below_step (hq HB) hb); clear hb hbox hg))
 (try simp only [Act.put, List.setIfInBounds_toArray, List.set_cons_zero, List.set_cons_succ]); go_cut [37] (fun v37 wc => ∃ (kq : Nat) (x37_6 : Bool), v37 = .bool x37_6 ∧ Aside0 (Q7.j0 kq l1 l2 a3 l4 a5 x37_6 a0_0 a0_1 = some (r1, r2)) ∧ Aside0 (kq ≤ k) ∧ Aside0 (wc.heap[gb430]? = some (.cells #[.int .i64 a0_0, .bool a0_1] 25 (0, 0))) ∧ Aside0 (Below w.heap.size w wc))
 case first =>
  have H := HC7.out; clear HC7; replace H := bm H; obtain ⟨t431, A9, H⟩ := H; by_cases c10 : t431 = true
  ·
   subst c10
   have H1 : ((Q6.f k a0_0 a0_1 (([a3] : List Int))).bind fun t435 => (if t435 = true then (if a0_1 = true then (Q7.j0 k l1 l2 a3 l4 a5 false a0_0 a0_1) else (Q7.j0 k l1 l2 a3 l4 a5 (a3 != 0) a0_0 a0_1)) else (Q7.j0 k l1 l2 a3 l4 a5 true a0_0 a0_1))) = some (r1, r2) := by rw [if_pos rfl] at H; exact H
   clear H; have H := H1; clear H1
   obtain ⟨y432, hy432⟩ : ∃ y_ : List Int, y_ = (([a3] : List Int)) := ⟨_, rfl⟩
   replace H : ((Q6.f k a0_0 a0_1 y432).bind fun t435 => (if t435 = true then (if a0_1 = true then (Q7.j0 k l1 l2 a3 l4 a5 false a0_0 a0_1) else (Q7.j0 k l1 l2 a3 l4 a5 (a3 != 0) a0_0 a0_1)) else (Q7.j0 k l1 l2 a3 l4 a5 true a0_0 a0_1))) = some (r1, r2) := by first | (rw [hy432]; with_reducible exact H) | (have H2_ := (Option.bind_some _ _).symm.trans H; rw [hy432]; with_reducible exact H2_) | (have H2_ := (Option.bind_some _ _).symm.trans H; with_reducible exact H2_) | with_reducible exact H | (rw [hy432]; exact H) | exact H
   have Ny432 := A_ hy432; clear hy432; replace H := bm H; obtain ⟨t435, A11, H⟩ := H; by_cases c12 : t435 = true
   ·
    subst c12
    have H1 : (if a0_1 = true then (Q7.j0 k l1 l2 a3 l4 a5 false a0_0 a0_1) else (Q7.j0 k l1 l2 a3 l4 a5 (a3 != 0) a0_0 a0_1)) = some (r1, r2) := by rw [if_pos rfl] at H; exact H
    clear H; have H := H1; clear H1; by_cases c13 : a0_1 = true
    ·
     subst c13
     have H1 : (Q7.j0 k l1 l2 a3 l4 a5 false a0_0 true) = some (r1, r2) := by rw [if_pos rfl] at H; exact H
     clear H; have H := H1; clear H1; have H' := A_ H; clear H; obtain ⟨hcz14_0, hcz14_1, hfz14_0, hfz14_1⟩ := zc4 BK430; go_wp2_with (first | ((with_reducible refine gate_callee (f := 27) rfl ?_); refine gL (some 20) Tryz.func27 #[.agg #[.int .i64 a0_0, .bool true], .slice A1 l1.length c1, .slice A2 l2.length c2] ?_; (with_reducible refine (Q50.calls k a0_0 true _ _ l1 _ _ l2 true _ ?side1 ?side2 ?side3 ?side4 A9.out).mono ?_); (case side1 => exact cq (Kd.C_below HR1.out HB.out)); (case side2 => exact HC1.out); (case side3 => exact cq (Kd.C_below HR2.out HB.out)); (case side4 => exact HC2.out); rintro e w15 ⟨rfl, hb⟩; refine ⟨_, rfl, ?_⟩; replace BK430 := A_ (blk_below (bq BK430) hb); replace HB := A_ (below_step (hq HB) hb); clear hb; obtain ⟨hcz16_0, hcz16_1, hfz16_0, hfz16_1⟩ := zc4 BK430) | ((with_reducible refine gate_dst (N := 25) rfl ?_); (try (refine gate_guard (by rfl) ?_; dsimp only)); refine Kd.R_lit (Kd.int .i64) _ 3 ?hg (N := 25) ?hd (xs := ([a3] : List Int)) (inner := [.int .i64 a3]) (ok := fun _ => True) (okp := fun _ => True) ?hr ?hp (fun _ hk => hk) trivial (Below.refl _ _) (Nat.le_refl _) (by simp) ?_; (case hd => rfl); (case hg => rfl); (case hr => first | (go_simp; done) | (go_simp; rfl)); (case hp => exact (Reps.one (show Kd.M (Kd.int .i64) _ _ _ a3 [.int .i64 a3] from rfl) (Reps.none _ _))); intro v433 w17 ho18 hb hg_ hnew_; clear hg_ hnew_; (first | rw [← Ny432.out] at ho18 | (simp only [Int.reduceToNat] at ho18; rw [← Ny432.out] at ho18)); have HO434 := A_ (Kd.R_lower ho18 (below_size (hq HB))); replace BK430 := A_ (blk_below (bq BK430) hb); replace HB := A_ (below_step (hq HB) hb); clear hb ho18; obtain ⟨Ao19, co19, eo19⟩ := Kd.R_slice HO434.out; subst eo19) | (go_at_call 28; (with_reducible refine (Q6.calls k a0_0 true _ _ y432 true _ ?side1 ?side2 A11.out).mono ?_); (case side1 => exact cq (Kd.R_reads' HO434.out).2.2); (case side2 => exact (Kd.R_reads' HO434.out).2.1); rintro e w20 ⟨rfl, hb⟩; replace HO434 := A_ (Kd.R_below (rq HO434) hb); replace BK430 := A_ (blk_below (bq BK430) hb); replace HB := A_ (below_step (hq HB) hb); clear hb; obtain ⟨hcz21_0, hcz21_1, hfz21_0, hfz21_1⟩ := zc4 BK430))
     go_meet
     case rel => exact ⟨_, (false), rf, H', ⟨by first | omega | exact Nat.le_refl _⟩, ⟨bq BK430⟩, ⟨hq HB⟩⟩
    ·
     replace c13 := Bool.eq_false_iff.mpr c13; subst c13
     have H1 : (Q7.j0 k l1 l2 a3 l4 a5 (a3 != 0) a0_0 false) = some (r1, r2) := by rw [if_neg (show ¬ (false = true) by decide)] at H; exact H
     clear H; have H := H1; clear H1; have H' := A_ H; clear H; obtain ⟨hcz22_0, hcz22_1, hfz22_0, hfz22_1⟩ := zc4 BK430; go_wp2_with (first | ((with_reducible refine gate_callee (f := 27) rfl ?_); refine gL (some 20) Tryz.func27 #[.agg #[.int .i64 a0_0, .bool false], .slice A1 l1.length c1, .slice A2 l2.length c2] ?_; (with_reducible refine (Q50.calls k a0_0 false _ _ l1 _ _ l2 true _ ?side1 ?side2 ?side3 ?side4 A9.out).mono ?_); (case side1 => exact cq (Kd.C_below HR1.out HB.out)); (case side2 => exact HC1.out); (case side3 => exact cq (Kd.C_below HR2.out HB.out)); (case side4 => exact HC2.out); rintro e w23 ⟨rfl, hb⟩; refine ⟨_, rfl, ?_⟩; replace BK430 := A_ (blk_below (bq BK430) hb); replace HB := A_ (below_step (hq HB) hb); clear hb; obtain ⟨hcz24_0, hcz24_1, hfz24_0, hfz24_1⟩ := zc4 BK430) | ((with_reducible refine gate_dst (N := 25) rfl ?_); (try (refine gate_guard (by rfl) ?_; dsimp only)); refine Kd.R_lit (Kd.int .i64) _ 3 ?hg (N := 25) ?hd (xs := ([a3] : List Int)) (inner := [.int .i64 a3]) (ok := fun _ => True) (okp := fun _ => True) ?hr ?hp (fun _ hk => hk) trivial (Below.refl _ _) (Nat.le_refl _) (by simp) ?_; (case hd => rfl); (case hg => rfl); (case hr => first | (go_simp; done) | (go_simp; rfl)); (case hp => exact (Reps.one (show Kd.M (Kd.int .i64) _ _ _ a3 [.int .i64 a3] from rfl) (Reps.none _ _))); intro v433 w25 ho26 hb hg_ hnew_; clear hg_ hnew_; (first | rw [← Ny432.out] at ho26 | (simp only [Int.reduceToNat] at ho26; rw [← Ny432.out] at ho26)); have HO434 := A_ (Kd.R_lower ho26 (below_size (hq HB))); replace BK430 := A_ (blk_below (bq BK430) hb); replace HB := A_ (below_step (hq HB) hb); clear hb ho26; obtain ⟨Ao27, co27, eo27⟩ := Kd.R_slice HO434.out; subst eo27) | (go_at_call 28; (with_reducible refine (Q6.calls k a0_0 false _ _ y432 true _ ?side1 ?side2 A11.out).mono ?_); (case side1 => exact cq (Kd.R_reads' HO434.out).2.2); (case side2 => exact (Kd.R_reads' HO434.out).2.1); rintro e w28 ⟨rfl, hb⟩; replace HO434 := A_ (Kd.R_below (rq HO434) hb); replace BK430 := A_ (blk_below (bq BK430) hb); replace HB := A_ (below_step (hq HB) hb); clear hb; obtain ⟨hcz29_0, hcz29_1, hfz29_0, hfz29_1⟩ := zc4 BK430))
     go_meet
     case rel => exact ⟨_, ((a3 != 0)), rf, H', ⟨by first | omega | exact Nat.le_refl _⟩, ⟨bq BK430⟩, ⟨hq HB⟩⟩
   ·
    replace c12 := Bool.eq_false_iff.mpr c12; subst c12
    have H1 : (Q7.j0 k l1 l2 a3 l4 a5 true a0_0 a0_1) = some (r1, r2) := by rw [if_neg (show ¬ (false = true) by decide)] at H; exact H
    clear H; have H := H1; clear H1; have H' := A_ H; clear H; obtain ⟨hcz30_0, hcz30_1, hfz30_0, hfz30_1⟩ := zc4 BK430; go_wp2_with (first | ((with_reducible refine gate_callee (f := 27) rfl ?_); refine gL (some 20) Tryz.func27 #[.agg #[.int .i64 a0_0, .bool a0_1], .slice A1 l1.length c1, .slice A2 l2.length c2] ?_; (with_reducible refine (Q50.calls k a0_0 a0_1 _ _ l1 _ _ l2 true _ ?side1 ?side2 ?side3 ?side4 A9.out).mono ?_); (case side1 => exact cq (Kd.C_below HR1.out HB.out)); (case side2 => exact HC1.out); (case side3 => exact cq (Kd.C_below HR2.out HB.out)); (case side4 => exact HC2.out); rintro e w31 ⟨rfl, hb⟩; refine ⟨_, rfl, ?_⟩; replace BK430 := A_ (blk_below (bq BK430) hb); replace HB := A_ (below_step (hq HB) hb); clear hb; obtain ⟨hcz32_0, hcz32_1, hfz32_0, hfz32_1⟩ := zc4 BK430) | ((with_reducible refine gate_dst (N := 25) rfl ?_); (try (refine gate_guard (by rfl) ?_; dsimp only)); refine Kd.R_lit (Kd.int .i64) _ 3 ?hg (N := 25) ?hd (xs := ([a3] : List Int)) (inner := [.int .i64 a3]) (ok := fun _ => True) (okp := fun _ => True) ?hr ?hp (fun _ hk => hk) trivial (Below.refl _ _) (Nat.le_refl _) (by simp) ?_; (case hd => rfl); (case hg => rfl); (case hr => first | (go_simp; done) | (go_simp; rfl)); (case hp => exact (Reps.one (show Kd.M (Kd.int .i64) _ _ _ a3 [.int .i64 a3] from rfl) (Reps.none _ _))); intro v433 w33 ho34 hb hg_ hnew_; clear hg_ hnew_; (first | rw [← Ny432.out] at ho34 | (simp only [Int.reduceToNat] at ho34; rw [← Ny432.out] at ho34)); have HO434 := A_ (Kd.R_lower ho34 (below_size (hq HB))); replace BK430 := A_ (blk_below (bq BK430) hb); replace HB := A_ (below_step (hq HB) hb); clear hb ho34; obtain ⟨Ao35, co35, eo35⟩ := Kd.R_slice HO434.out; subst eo35) | (go_at_call 28; (with_reducible refine (Q6.calls k a0_0 a0_1 _ _ y432 false _ ?side1 ?side2 A11.out).mono ?_); (case side1 => exact cq (Kd.R_reads' HO434.out).2.2); (case side2 => exact (Kd.R_reads' HO434.out).2.1); rintro e w36 ⟨rfl, hb⟩; replace HO434 := A_ (Kd.R_below (rq HO434) hb); replace BK430 := A_ (blk_below (bq BK430) hb); replace HB := A_ (below_step (hq HB) hb); clear hb))
    go_meet
    case rel => exact ⟨_, (true), rf, H', ⟨by first | omega | exact Nat.le_refl _⟩, ⟨bq BK430⟩, ⟨hq HB⟩⟩
  ·
   replace c10 := Bool.eq_false_iff.mpr c10; subst c10
   have H1 : (Q7.j0 k l1 l2 a3 l4 a5 true a0_0 a0_1) = some (r1, r2) := by rw [if_neg (show ¬ (false = true) by decide)] at H; exact H
   clear H; have H := H1; clear H1; have H' := A_ H; clear H; obtain ⟨hcz37_0, hcz37_1, hfz37_0, hfz37_1⟩ := zc4 BK430; go_wp2_with (first | ((with_reducible refine gate_callee (f := 27) rfl ?_); refine gL (some 20) Tryz.func27 #[.agg #[.int .i64 a0_0, .bool a0_1], .slice A1 l1.length c1, .slice A2 l2.length c2] ?_; (with_reducible refine (Q50.calls k a0_0 a0_1 _ _ l1 _ _ l2 false _ ?side1 ?side2 ?side3 ?side4 A9.out).mono ?_); (case side1 => exact cq (Kd.C_below HR1.out HB.out)); (case side2 => exact HC1.out); (case side3 => exact cq (Kd.C_below HR2.out HB.out)); (case side4 => exact HC2.out); rintro e w38 ⟨rfl, hb⟩; refine ⟨_, rfl, ?_⟩; replace BK430 := A_ (blk_below (bq BK430) hb); replace HB := A_ (below_step (hq HB) hb); clear hb))
   go_meet
   case rel => exact ⟨_, (true), rf, H', ⟨by first | omega | exact Nat.le_refl _⟩, ⟨bq BK430⟩, ⟨hq HB⟩⟩
 case rest =>
  clear HC7; (try clear c10); (try clear c12); (try clear c13); (try clear hcz14_0); (try clear hcz14_1); (try clear hcz16_0); (try clear hcz16_1); (try clear hcz21_0); (try clear hcz21_1); (try clear hcz22_0); (try clear hcz22_1); (try clear hcz24_0); (try clear hcz24_1); (try clear hcz29_0); (try clear hcz29_1); (try clear hcz30_0); (try clear hcz30_1); (try clear hcz32_0); (try clear hcz32_1); (try clear hcz37_0); (try clear hcz37_1); (try clear hfz14_0); (try clear hfz14_1); (try clear hfz16_0); (try clear hfz16_1); (try clear hfz21_0); (try clear hfz21_1); (try clear hfz22_0); (try clear hfz22_1); (try clear hfz24_0); (try clear hfz24_1); (try clear hfz29_0); (try clear hfz29_1); (try clear hfz30_0); (try clear hfz30_1); (try clear hfz32_0); (try clear hfz32_1); (try clear hfz37_0); (try clear hfz37_1); obtain ⟨kq, x37_6, rfl, HA, HJ6, BK430, HB⟩ := hcut
  cases kq with
  | zero => exact absurd HA.out (by simp [Q7.j0])
  | succ kj6 =>
   have H := HA.out; clear HA; simp only [Q7.j0] at H
   by_cases c39 : x37_6 = true
   ·
    subst c39
    have H1 : (some (([] : List Int), false)) = some (r1, r2) := by rw [if_pos rfl] at H; exact H
    clear H; have H := H1; clear H1; simp only [Option.some.injEq, Prod.mk.injEq] at H
    obtain ⟨rfl, rfl⟩ := H; go_wp2
    go_ret2
    exact ⟨_, rt, by first | exact Kd.R_nil _ _ _ _ _ | exact Kd.N_nil _ _ _ _ _ | exact Kd.V_nil _ _ _ _ _ | exact Kd.Q_nil _ _ _ _ _ | exact Kd.S_nil _ _ _ _ _, hq HB⟩
   ·
    replace c39 := Bool.eq_false_iff.mpr c39; subst c39
    have H1 : ((Q71.f kj6 l4).bind fun t436 => (if (l4.length : Int) = (l1.length : Int) then ((Q55.f kj6 (l1.length : Int)).bind fun t439 => (if 0 < (t439.length : Int) then ((Q49.f kj6 t436 (rd_L2 t439 0)).bind fun t443 => (Q7.j1 kj6 l1 l2 a3 l4 a5 (!t443) a0_0 a0_1)) else (none))) else (Q7.j1 kj6 l1 l2 a3 l4 a5 true a0_0 a0_1))) = some (r1, r2) := by rw [if_neg (show ¬ (false = true) by decide)] at H; exact H
    clear H; have H := H1; clear H1; replace H := bm H; obtain ⟨t436, A40, H⟩ := H; have HC41 := A_ H; clear H; go_upto_region 4 with (first | ((with_reducible refine gate_callee (f := 30) rfl ?_); refine gL (some 39) Tryz.func30 #[.slice A4 l4.length c4] ?_; refine (Go.Proofs.YtjhppcpjobofbabGreat.Iter.values _ _ _ _).mono ?_; rintro e w' ⟨rfl, rfl⟩; refine ⟨_, rfl, ?_⟩) | ((with_reducible refine gate_callee (f := 29) rfl ?_); refine gL (some 40) Tryz.func29 #[.func (.func 57) #[] #[.pointer (some ⟨_, 0, none⟩)]] ?_; (with_reducible refine (Q71.calls kj6 _ _ l4 t436 _ ?side1 ?side2 A40.out).mono ?_); (case side1 => exact cq (Kd.C_below HR4.out HB.out)); (case side2 => exact HC4.out); rintro e w42 ⟨v437, rfl, ho0, hb⟩; refine ⟨_, rfl, ?_⟩; have HO438 := A_ (Kd.R_lower ho0 (below_size (hq HB))); replace BK430 := A_ (blk_below (bq BK430) hb); replace HB := A_ (below_step (hq HB) hb); clear hb ho0))
    (try simp only [Act.put, List.setIfInBounds_toArray, List.set_cons_zero, List.set_cons_succ]); go_cut [55] (fun v55 wc => ∃ (kq : Nat) (x55_40 : Bool), v55 = .bool x55_40 ∧ Aside0 (Q7.j1 kq l1 l2 a3 l4 a5 x55_40 a0_0 a0_1 = some (r1, r2)) ∧ Aside0 (kq ≤ kj6) ∧ Aside0 (wc.heap[gb430]? = some (.cells #[.int .i64 a0_0, .bool a0_1] 25 (0, 0))) ∧ Aside0 (Below w.heap.size w wc))
    case first =>
     have H := HC41.out; clear HC41; by_cases c43 : (l4.length : Int) = (l1.length : Int)
     ·
      rw [if_pos c43] at H; have c43b0 : ((l4.length : Int) == (l1.length : Int)) = true := beq_iff_eq.mpr c43; have c43b1 : ((l4.length : Int) != (l1.length : Int)) = false := bne_eq_false_iff_eq.mpr c43
      have c43b2 : (l4.length == l1.length) = true := by first | simpa using c43 | (simp at c43 ⊢; omega)
      clear c43; (first | rw [c43b0] | (simp only [i64_w, i32_w]; rw [c43b0]) | skip); replace H := bm H; obtain ⟨t439, A44, H⟩ := H; by_cases c45 : 0 < (t439.length : Int)
      ·
       rw [if_pos c45] at H; have c45b0 := decide_eq_true c45; have c45b1 : decide (0 < t439.length) = true := decide_eq_true (by omega); clear c45; replace H := bm H; obtain ⟨t443, A46, H⟩ := H; have H' := A_ H; clear H; go_wp2_with (first | (go_at_call 32; (with_reducible refine (Q55.calls kj6 (l1.length : Int) t439 _ A44.out).mono ?_); rintro e w47 ⟨v440, rfl, ho0, hb⟩; have HO441 := A_ (Kd.S_lower (Kd.S_new' ho0 (Kd.R_lt (rq HO438))) (below_size (hq HB))); replace HO438 := A_ (Kd.R_below (rq HO438) hb); replace BK430 := A_ (blk_below (bq BK430) hb); replace HB := A_ (below_step (hq HB) hb); clear hb ho0; obtain ⟨Ao48, co48, eo48⟩ := Kd.S_slice HO441.out; subst eo48; have p442 : 0 ≤ (0 : Int) := (by omega); have q442 : 0 < (t439.length : Int) := dq; obtain ⟨ad442, A442_0, c442_0, e442, hx442_0, hl442_0, hi442_0⟩ := at_L2 (Kd.S_reads' HO441.out).2.2 0 p442 q442; cases e442; obtain ⟨ce442, hce442, hMe442, hcc442⟩ := Kd.S_get HO441.out [] 0 p442 (by first | exact q442 | exact dq | (have e_ := (Kd.S_reads' HO441.out).1; omega)); obtain ⟨ve442_0, rfl, ge442_0⟩ := hMe442; have hv442_0 := hcc442 0 _ rfl; rw [Nat.add_zero, show ((Kd.slice 3 (Kd.int .i64))).sz = 1 from rfl, Nat.mul_one] at hv442_0; replace hv442_0 := Option.some.inj (hv442_0.symm.trans hx442_0); rw [hv442_0] at ge442_0; have HL442_0 := A_ (show Kd.R (Kd.int .i64) 3 _ _ _ _ (rd_L2 t439 0) from ge442_0); clear hv442_0 ge442_0; clear hcc442 hce442; have qi442 : (0 < t439.length) = True := eq_true (by omega); (try rw [show ((0 : Int)).toNat = 0 from rfl] at hx442_0); (try rw [Addr.add_zero'] at hx442_0); have HR442_0 := A_ hi442_0; have HC442_0 := A_ hl442_0; clear hi442_0 hl442_0; replace p442 := eq_true p442; replace q442 := eq_true q442; obtain ⟨Ao49, co49, eo49⟩ := Kd.R_slice HO438.out; subst eo49) | (go_at_call 31; (with_reducible refine (Q49.calls kj6 _ _ t436 _ _ (rd_L2 t439 0) t443 _ ?side1 ?side2 ?side3 ?side4 A46.out).mono ?_); (case side1 => exact cq (Kd.R_reads' HO438.out).2.2); (case side2 => exact (Kd.R_reads' HO438.out).2.1); (case side3 => repeat (first | exact (by repeat (first | (with_reducible exact HR442_0.out) | (with_reducible refine Kd.C_alloc ?_ _) | (with_reducible refine Kd.C_drewN ?_ _) | (with_reducible refine Kd.C_drew ?_) | exact HR442_0.out)) | (with_reducible refine Kd.C_alloc ?_ _) | (with_reducible refine Kd.C_drewN ?_ _) | (with_reducible refine Kd.C_drew ?_))); (case side4 => exact HC442_0.out); rintro e w' ⟨rfl, ⟨nd, rfl⟩⟩))
       go_meet
       case rel => exact ⟨_, (!t443), rf, H', ⟨by have := HJ6.out; first | omega | exact Nat.le_refl _⟩, ⟨bq BK430⟩, ⟨hq HB⟩⟩
      ·
       rw [if_neg c45] at H; exact absurd H (by simp)
     ·
      rw [if_neg c43] at H; have c43b0 : ((l4.length : Int) == (l1.length : Int)) = false := beq_eq_false_iff_ne.mpr c43; have c43b1 : ((l4.length : Int) != (l1.length : Int)) = true := bne_iff_ne.mpr c43
      have c43b2 : (l4.length == l1.length) = false := by first | simpa using c43 | (simp at c43 ⊢; omega)
      (first | rw [c43b0] | (simp only [i64_w, i32_w]; rw [c43b0]) | skip); have H' := A_ H; clear H; go_wp2
      go_meet
      case rel => exact ⟨_, (true), rf, H', ⟨by have := HJ6.out; first | omega | exact Nat.le_refl _⟩, ⟨bq BK430⟩, ⟨hq HB⟩⟩
    case rest =>
     clear HC41; (try clear c10); (try clear c12); (try clear c13); (try clear c39); (try clear c43); (try clear c43b0); (try clear c43b1); (try clear c43b2); (try clear c45); (try clear c45b0); (try clear c45b1); (try clear hcz14_0); (try clear hcz14_1); (try clear hcz16_0); (try clear hcz16_1); (try clear hcz21_0); (try clear hcz21_1); (try clear hcz22_0); (try clear hcz22_1); (try clear hcz24_0); (try clear hcz24_1); (try clear hcz29_0); (try clear hcz29_1); (try clear hcz30_0); (try clear hcz30_1); (try clear hcz32_0); (try clear hcz32_1); (try clear hcz37_0); (try clear hcz37_1); (try clear hfz14_0); (try clear hfz14_1); (try clear hfz16_0); (try clear hfz16_1); (try clear hfz21_0); (try clear hfz21_1); (try clear hfz22_0); (try clear hfz22_1); (try clear hfz24_0); (try clear hfz24_1); (try clear hfz29_0); (try clear hfz29_1); (try clear hfz30_0); (try clear hfz30_1); (try clear hfz32_0); (try clear hfz32_1); (try clear hfz37_0); (try clear hfz37_1); (try clear hx442_0); (try clear p442); (try clear q442); obtain ⟨kq, x55_40, rfl, HA, HJ40, BK430, HB⟩ := hcut
     cases kq with
     | zero => exact absurd HA.out (by simp [Q7.j1])
     | succ kj40 =>
      have H := HA.out; clear HA; simp only [Q7.j1] at H
      by_cases c50 : x55_40 = true
      ·
       subst c50
       have H1 : (some (([] : List Int), false)) = some (r1, r2) := by rw [if_pos rfl] at H; exact H
       clear H; have H := H1; clear H1; simp only [Option.some.injEq, Prod.mk.injEq] at H
       obtain ⟨rfl, rfl⟩ := H; go_wp2
       go_ret2
       exact ⟨_, rt, by first | exact Kd.R_nil _ _ _ _ _ | exact Kd.N_nil _ _ _ _ _ | exact Kd.V_nil _ _ _ _ _ | exact Kd.Q_nil _ _ _ _ _ | exact Kd.S_nil _ _ _ _ _, hq HB⟩
      ·
       replace c50 := Bool.eq_false_iff.mpr c50; subst c50
       have H1 : ((Q11.f kj40 a0_0 a0_1 l1 a5).bind fun bt444 => ((Q18.f kj40 bt444.1 bt444.2.1 bt444.2.2 l2 a3 l4).bind fun bt449 => (some (bt449.1, true)))) = some (r1, r2) := by rw [if_neg (show ¬ (false = true) by decide)] at H; exact H
       clear H; have H := H1; clear H1; replace H := bm H; obtain ⟨⟨t444, t445, t446⟩, A51, H⟩ := H; (try dsimp only at H); replace H := bm H; obtain ⟨⟨t449, t452⟩, A52, H⟩ := H; (try dsimp only at H); simp only [Option.some.injEq, Prod.mk.injEq] at H
       obtain ⟨rfl, rfl⟩ := H; obtain ⟨hcz53_0, hcz53_1, hfz53_0, hfz53_1⟩ := zc4 BK430; go_wp2_with (first | ((with_reducible refine gate_callee (f := 33) rfl ?_); refine gL (some 60) Tryz.func33 #[.agg #[.int .i64 a0_0, .bool a0_1], .slice A1 l1.length c1, .bool a5] ?_; (with_reducible refine (Q11.calls kj40 a0_0 a0_1 _ _ l1 a5 t444 t445 t446 _ ?side1 ?side2 A51.out).mono ?_); (case side1 => exact cq (Kd.C_below HR1.out HB.out)); (case side2 => exact HC1.out); rintro e w54 ⟨v447, rfl, ho0, hb⟩; refine ⟨_, rfl, ?_⟩; have HO448 := A_ (Kd.R_lower ho0 (below_size (hq HB))); replace BK430 := A_ (blk_below (bq BK430) hb); replace HB := A_ (below_step (hq HB) hb); clear hb ho0; obtain ⟨Ao55, co55, eo55⟩ := Kd.R_slice HO448.out; subst eo55) | ((with_reducible refine gate_callee (f := 34) rfl ?_); refine gL (some 64) Tryz.func34 #[.agg #[.int .i64 t444, .bool t445, .slice Ao55 t446.length co55], .slice A2 l2.length c2, .int .i64 a3, .slice A4 l4.length c4] ?_; (with_reducible refine (Q18.calls kj40 t444 t445 _ _ t446 _ _ l2 a3 _ _ l4 t449 t452 _ ?side1 ?side2 ?side3 ?side4 ?side5 ?side6 A52.out).mono ?_); (case side1 => exact cq (Kd.R_reads' HO448.out).2.2); (case side2 => exact (Kd.R_reads' HO448.out).2.1); (case side3 => exact cq (Kd.C_below HR2.out HB.out)); (case side4 => exact HC2.out); (case side5 => exact cq (Kd.C_below HR4.out HB.out)); (case side6 => exact HC4.out); rintro e w56 ⟨v450, rfl, ho0, hb⟩; refine ⟨_, rfl, ?_⟩; replace HO448 := A_ (Kd.R_elder' (rq HO448) (Kd.R_base ho0) hb); have HO451 := A_ (Kd.R_lower ho0 (below_size (hq HB))); replace BK430 := A_ (blk_below (bq BK430) hb); replace HB := A_ (below_step (hq HB) hb); clear hb ho0))
       go_ret2
       exact ⟨_, rt, rq HO451, hq HB⟩

/-! ### spec_l1In: function 61 -/
def Q26.f (a0 : Int) (a1 : Int) (a2 : Int) : Option (Bool) := if a0 ≥ a1 then (some (decide (a0 ≤ a2))) else (some false)
set_option maxHeartbeats 8000000 in
set_option maxRecDepth 100000 in
theorem Q26.calls (a0 : Int) (a1 : Int) (a2 : Int) (r : Bool) (w : World) (h : Q26.f a0 a1 a2 = some r) :
    Calls Tryz.prog 61 #[.int .i64 a0, .int .i64 a1, .int .i64 a2] w fun e w' => e = .returned (.bool r) ∧ Drawn0 w w' := by
 have H : (if a0 ≥ a1 then (some (decide (a0 ≤ a2))) else (some false)) = some r := h; clear h; by_cases c4 : a0 ≥ a1
 ·
  rw [if_pos c4] at H; have c4b0 : decide (a1 ≤ a0) = true := decide_eq_true c4; clear c4; obtain rfl := Option.some.inj H; go_enter Tryz.func61, Tryz.ntmps61
  go_wp2
  go_ret
  exact ⟨rf, by repeat (first | exact Drawn0.refl _ | apply Drawn0.step)⟩
 ·
  rw [if_neg c4] at H; have c4b0 : decide (a1 ≤ a0) = false := decide_eq_false c4; clear c4; obtain rfl := Option.some.inj H; go_enter Tryz.func61, Tryz.ntmps61
  go_wp2
  go_ret
  exact ⟨rf, by repeat (first | exact Drawn0.refl _ | apply Drawn0.step)⟩

end Go.Proofs.YtjhppcpjobofbabGreat.PFnRuns
