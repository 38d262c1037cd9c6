-- Told shorter still by shrink2.py.
-- Printed, and told shorter by this session's program shrink.py.
-- Printed by this session's program myprint.py.
import Derived.Test.YtjhppcpjobofbabGreatPFnRunsx0
import Derived.Test.YtjhppcpjobofbabGreatPFnRunsx13
namespace Go.Proofs.YtjhppcpjobofbabGreat.PFnRuns
open Go.RowKit Go.Proofs.YtjhppcpjobofbabGreat.Own Go.Proofs.YtjhppcpjobofbabGreatW.PrintWords Go.Proofs.YtjhppcpjobofbabGreatW.PrintLast Go.Proofs.YtjhppcpjobofbabGreatW.PrintMore
attribute [local go_sem] max2_int min2_int max_two min_two max_three min_three max_four min_four   -- for this text's walks alone
set_option linter.unusedVariables false
set_option linter.unusedSimpArgs false

/-! ### spec_l6Taken: function 38 -/
mutual
def Q3.l0 : Nat → List Int → List Int → Int → List Int → Bool → List Int → Int → Int → Int → Bool → Option (List Int × Int)
  | 0, _, _, _, _, _, _, _, _, _, _ => none
  | k + 1, x1, x2, x3, x4, x5, x14, x15, x16, x512000, x512001 => if x16 < (x4.length : Int) then (if 0 ≤ x16 then (Q3.l1 k x1 x2 x3 x4 x5 x14 x15 x16 (rd x4 x16) 0 x512000 x512001) else (none)) else (some (x14, x15))
def Q3.l1 : Nat → List Int → List Int → Int → List Int → Bool → List Int → Int → Int → Int → Int → Int → Bool → Option (List Int × Int)
  | 0, _, _, _, _, _, _, _, _, _, _, _, _ => none
  | k + 1, x1, x2, x3, x4, x5, x14, x15, x16, x17, x18, x512000, x512001 => if (wrap64 (x15 + x18)) < x512000 then (if 0 ≤ x17 then (if x17 < (x1.length : Int) then (if x512000 = 0 then (none) else ((Q16.f k x512000 x512001 (rd x1 x17) (Int.tmod (wrap64 (x3 + x15)) x512000) (wrap64 (x18 + 1)) x5).bind fun t517 => (if x17 < (x2.length : Int) then (if t517 ≤ (rd x2 x17) then (Q3.l1 k x1 x2 x3 x4 x5 x14 x15 x16 x17 (wrap64 (x18 + 1)) x512000 x512001) else (if x17 < (x14.length : Int) then (Q3.l0 k x1 x2 x3 x4 x5 (x14.set (x17 : Int).toNat x18) (wrap64 (x15 + x18)) (wrap64 (x16 + 1)) x512000 x512001) else (none))) else (none)))) else (none)) else (none)) else (if 0 ≤ x17 then (if x17 < (x14.length : Int) then (Q3.l0 k x1 x2 x3 x4 x5 (x14.set (x17 : Int).toNat x18) (wrap64 (x15 + x18)) (wrap64 (x16 + 1)) x512000 x512001) else (none)) else (none))
end
def Q3.f (k : Nat) (a0_0 : Int) (a0_1 : Bool) (l1 : List Int) (l2 : List Int) (a3 : Int) (l4 : List Int) (a5 : Bool) : Option (List Int × Int) := if 0 ≤ (l1.length : Int) then (if ((l1.length : Int) : Int).toNat ≤ 35184372088832 then (Q3.l0 k l1 l2 a3 l4 a5 (List.replicate ((l1.length : Int) : Int).toNat 0) 0 0 a0_0 a0_1) else (none)) else (none)
def Q3.T6 : Bool × List (List Nat × List Nat) := (true, [([], []), ([], []), ([0, 1], [0, 1]), ([], []), ([3], [3]), ([2, 4], [2, 4]), ([5], [5]), ([6], [6]), ([6], [6]), ([6], [6]), ([8, 9, 6], [6, 8, 9]), ([10, 6], [6, 10]), ([6], [6]), ([6], [6]), ([12, 13, 6], [6, 12, 13]), ([6], [6]), ([15, 6], [6, 15]), ([14, 16, 6], [6, 14, 16]), ([6], [6]), ([18, 6], [6, 18]), ([6], [6]), ([7, 11, 17, 19, 20, 6, 6], [6, 7, 11, 17, 19, 20]), ([6], [6]), ([6], [6]), ([22, 23, 6], [6, 22, 23]), ([24, 6], [6, 24]), ([21, 25, 6], [6, 21, 25]), ([6, 26], [6, 26])])
def Q3.B6 : List Nat := [0, 0, 3, 0, 8, 31, 63, 127, 127, 127, 895, 1919, 127, 127, 12415, 127, 32895, 127103, 127, 262271, 127, 2097151, 127, 127, 12583039, 29360255, 67108863, 134217727]
theorem Q3.tab6 : rtab .any (opsOf Tryz.f38 6) = Q3.T6 := by kernel_rfl
theorem Q3.bits6 : waitsOk Q3.T6.2 Q3.B6 = true := by kernel_rfl
set_option maxHeartbeats 8000000 in
set_option maxRecDepth 100000 in
theorem Q3.calls (k : Nat) (a0_0 : Int) (a0_1 : Bool) (A1 : Option Addr) (c1 : Nat) (l1 : List Int) (A2 : Option Addr) (c2 : Nat) (l2 : List Int) (a3 : Int) (A4 : Option Addr) (c4 : Nat) (l4 : List Int) (a5 : Bool) (r1 : List Int) (r2 : Int) (w : World) (hr1 : Kd.C (Kd.int .i64) w A1 l1.length l1) (hc1 : l1.length ≤ c1) (hr2 : Kd.C (Kd.int .i64) w A2 l2.length l2) (hc2 : l2.length ≤ c2) (hr4 : Kd.C (Kd.int .i64) w A4 l4.length l4) (hc4 : l4.length ≤ c4) (h : Q3.f k a0_0 a0_1 l1 l2 a3 l4 a5 = some (r1, r2)) :
    Calls Tryz.prog 38 #[.agg #[.int .i64 a0_0, .bool a0_1], .slice A1 l1.length c1, .slice A2 l2.length c2, .int .i64 a3, .slice A4 l4.length c4, .bool a5] w fun e w' => ∃ v0_ : Value, e = .returned (.tuple #[v0_, .int .i64 r2]) ∧ Kd.R (Kd.int .i64) 3 w' w.heap.size (fun _ => True) v0_ r1 ∧ Below w.heap.size w w' := by
 have hu25 := Tryz.underlying25; have HR1 := A_ hr1; have HC1 := A_ hc1; clear hr1 hc1; have HR2 := A_ hr2; have HC2 := A_ hc2; clear hr2 hc2; have HR4 := A_ hr4; have HC4 := A_ hc4; clear hr4 hc4; have HB := A_ (Below.refl w.heap.size w); have H : (if 0 ≤ (l1.length : Int) then (if ((l1.length : Int) : Int).toNat ≤ 35184372088832 then (Q3.l0 k l1 l2 a3 l4 a5 (List.replicate ((l1.length : Int) : Int).toNat 0) 0 0 a0_0 a0_1) else (none)) else (none)) = some (r1, r2) := h; clear h; by_cases c7 : 0 ≤ (l1.length : Int)
 ·
  rw [if_pos c7] at H; have c7b0 := eq_true c7; have c7b1 := decide_eq_true c7; clear c7; by_cases c8 : ((l1.length : Int) : Int).toNat ≤ 35184372088832
  ·
   rw [if_pos c8] at H; have c8b0 := eq_true c8; have c8b1 := decide_eq_true c8; clear c8
   obtain ⟨y512, hy512⟩ : ∃ y_ : List Int, y_ = (List.replicate ((l1.length : Int) : Int).toNat 0) := ⟨_, rfl⟩
   replace H : (Q3.l0 k l1 l2 a3 l4 a5 y512 0 0 a0_0 a0_1) = some (r1, r2) := by first | (rw [hy512]; with_reducible exact H) | (have H2_ := (Option.bind_some _ _).symm.trans H; rw [hy512]; with_reducible exact H2_) | (have H2_ := (Option.bind_some _ _).symm.trans H; with_reducible exact H2_) | with_reducible exact H | (rw [hy512]; exact H) | exact H
   have Ny512 := A_ hy512; clear hy512; have H' := A_ H; clear H; go_enter Tryz.func38, Tryz.ntmps38
   go_wp2_with (first | ((with_reducible refine gate_dst (N := 6) rfl ?_); refine bx (N := 6) #[.int .i64 a0_0, .bool a0_1] 25 ?_; intro gb511 hg w9 hbox hb; have BK511 := A_ (hbox); have GW511 := A_ (bs hg (hq HB) : w.heap.size ≤ gb511); have GE511 := A_ (bs hg (hq HB) : w.heap.size ≤ gb511); replace HB := A_ (below_step (hq HB) hb); clear hb hbox hg) | ((with_reducible refine gate_dst (N := 21) rfl ?_); refine Kd.R_make (Kd.int .i64) _ 3 rfl (N := 21) rfl 26 _ _ rfl (l1.length : Int) rfl rfl Tryz.underlying26 (.int .i64 0) 8 info3 rfl (by decide) (by omega) 0 (ok := fun _ => True) (okp := fun _ => True) rfl (fun _ hk => hk) trivial (dq) (Nat.le_trans (Nat.mul_le_mul_right _ (dq : (l1.length : Int).toNat ≤ 35184372088832)) (by omega)) (Below.refl _ _) (Nat.le_refl _) ?_; intro v513 w10 ho11 hb hg_ hnew_; clear hg_ hnew_; (first | rw [← Ny512.out] at ho11 | (simp only [Int.reduceToNat] at ho11; rw [← Ny512.out] at ho11)); have HO514 := A_ (Kd.R_lower ho11 (below_size (hq HB))); replace BK511 := A_ (blk_below (bq BK511) hb); replace HB := A_ (below_step (hq HB) hb); clear hb ho11))
   go_loopg [15, 16] k (fun kq v15 v16 w' => ∃ (x14_1 : List Int) (x15_1 : Int) (x16_1 : Int), v15 = .int .i64 x15_1 ∧ v16 = .int .i64 x16_1 ∧ Aside0 (Q3.l0 kq l1 l2 a3 l4 a5 x14_1 x15_1 x16_1 a0_0 a0_1 = some (r1, r2)) ∧ Aside0 (kq ≤ k) ∧ Aside0 (Kd.R (Kd.int .i64) 3 w' w.heap.size (fun _ => True) v513 x14_1) ∧ Aside0 (w'.heap[gb511]? = some (.cells #[.int .i64 a0_0, .bool a0_1] 25 (0, 0))) ∧ Aside0 (Below w.heap.size w w'))
   case atStart => exact ⟨(y512), (0), (0), rf, rf, H', ⟨Nat.le_refl _⟩, ⟨rq HO514⟩, ⟨bq BK511⟩, ⟨hq HB⟩⟩
   case round =>
    clear H'; (try clear c7); (try clear c7b0); (try clear c7b1); (try clear c8); (try clear c8b0); (try clear c8b1); obtain ⟨x14_1, x15_1, x16_1, rfl, rfl, HA, HK1, HO_14, BK511, HB⟩ := hrel
    cases gk with
    | zero => exact absurd HA.out (by simp [Q3.l0])
    | succ k1 =>
     have H := HA.out; clear HA; simp only [Q3.l0] at H
     by_cases c12 : x16_1 < (l4.length : Int)
     ·
      rw [if_pos c12] at H; have c12b0 := decide_eq_true c12; clear c12; by_cases c13 : 0 ≤ x16_1
      ·
       rw [if_pos c13] at H; have c13b0 := decide_eq_true c13; clear c13; have H' := A_ H; clear H; have p515 : 0 ≤ (x16_1 : Int) := dq; have q515 : x16_1 < (l4.length : Int) := dq; obtain ⟨ad515, e515, hx515_0⟩ := Kd.at_int HR4.out x16_1 p515 q515
       cases e515
       replace hx515_0 := (HB.out.cell (World.block_lt_of_cell? w _ hx515_0)).trans hx515_0; replace p515 := eq_true p515; replace q515 := eq_true q515; go_wp2
       go_loopg [18] k1 (fun kq v18 w' => ∃ (x18_2 : Int), v18 = .int .i64 x18_2 ∧ Aside0 (Q3.l1 kq l1 l2 a3 l4 a5 x14_1 x15_1 x16_1 (rd l4 x16_1) x18_2 a0_0 a0_1 = some (r1, r2)) ∧ Aside0 (kq ≤ k1) ∧ Aside0 (Kd.R (Kd.int .i64) 3 w' w.heap.size (fun _ => True) v513 x14_1) ∧ Aside0 (w'.heap[gb511]? = some (.cells #[.int .i64 a0_0, .bool a0_1] 25 (0, 0))) ∧ Aside0 (Below w.heap.size w w'))
       case atStart => exact ⟨(0), rf, H', ⟨Nat.le_refl _⟩, ⟨rq HO_14⟩, ⟨bq BK511⟩, ⟨hq HB⟩⟩
       case round =>
        clear H'; (try clear c7); (try clear c7b0); (try clear c7b1); (try clear c8); (try clear c8b0); (try clear c8b1); (try clear c12); (try clear c12b0); (try clear c13); (try clear c13b0); (try clear hx515_0); (try clear p515); (try clear q515); obtain ⟨x18_2, rfl, HA, HK2, HO_14, BK511, HB⟩ := hrel
        cases gk with
        | zero => exact absurd HA.out (by simp [Q3.l1])
        | succ k2 =>
         have H := HA.out; clear HA; simp only [Q3.l1] at H
         by_cases c14 : (wrap64 (x15_1 + x18_2)) < a0_0
         ·
          rw [if_pos c14] at H; have c14b0 := decide_eq_true c14; clear c14; by_cases c15 : 0 ≤ (rd l4 x16_1)
          ·
           rw [if_pos c15] at H; have c15b0 := decide_eq_true c15; clear c15; by_cases c16 : (rd l4 x16_1) < (l1.length : Int)
           ·
            rw [if_pos c16] at H; have c16b0 := decide_eq_true c16; clear c16; by_cases c17 : a0_0 = 0
            ·
             rw [if_pos c17] at H; exact absurd H (by simp)
            ·
             rw [if_neg c17] at H; have c17b0 : (a0_0 == 0) = false := beq_eq_false_iff_ne.mpr c17; have c17b1 : (a0_0 != 0) = true := bne_iff_ne.mpr c17; replace H := bm H; obtain ⟨t517, A18, H⟩ := H; by_cases c19 : (rd l4 x16_1) < (l2.length : Int)
             ·
              rw [if_pos c19] at H; have c19b0 := decide_eq_true c19; clear c19; by_cases c20 : t517 ≤ (rd l2 (rd l4 x16_1))
              ·
               rw [if_pos c20] at H; have c20b0 := decide_eq_true c20; clear c20; have H' := A_ H; clear H; try go_wp2
               replace HO_14 := A_ (Kd.R_drew HO_14.out); replace BK511 := A_ (blk_drew BK511.out); replace HB := A_ (below_drew1 HB.out); have p516 : 0 ≤ ((rd l4 x16_1) : Int) := dq; have q516 : (rd l4 x16_1) < (l1.length : Int) := dq; obtain ⟨ad516, e516, hx516_0⟩ := Kd.at_int HR1.out (rd l4 x16_1) p516 q516; have hw516_0 := hx516_0
               cases e516
               replace hx516_0 := (HB.out.cell (World.block_lt_of_cell? w _ hx516_0)).trans hx516_0; replace p516 := eq_true p516; replace q516 := eq_true q516; have p518 : 0 ≤ ((rd l4 x16_1) : Int) := dq; have q518 : (rd l4 x16_1) < (l2.length : Int) := dq; obtain ⟨ad518, e518, hx518_0⟩ := Kd.at_int HR2.out (rd l4 x16_1) p518 q518; have hw518_0 := hx518_0
               cases e518
               replace hx518_0 := (HB.out.cell (World.block_lt_of_cell? w _ hx518_0)).trans hx518_0; replace p518 := eq_true p518; replace q518 := eq_true q518; refine start_ (n := 28) (S := fun w' => w'.cell? ⟨gb511, 0, none⟩ = some (.int .i64 a0_0) ∧ w'.cell? ⟨gb511, 1, none⟩ = some (.bool a0_1) ∧ w'.cell? (ad516.add ((rd l4 x16_1)).toNat) = some (.int .i64 (rd l1 (rd l4 x16_1))) ∧ w'.cell? (ad518.add ((rd l4 x16_1)).toNat) = some (.int .i64 (rd l2 (rd l4 x16_1)))) (ds := []) (bA 28 0) (by kernel_rfl) rfl rfl ⟨bc BK511 0, bc BK511 1, ((HB.out.cell (World.block_lt_of_cell? w _ hw516_0)).trans hw516_0), ((HB.out.cell (World.block_lt_of_cell? w _ hw518_0)).trans hw518_0)⟩ (fun hHeld => ?_); refine with_tabW Q3.tab6 Q3.bits6 (fun HT_ HW_ => ?_); generalize wr.drew = w21 at HO_14 BK511 HB hx516_0 hx518_0 hHeld ⊢; refine puT (i := 0) (N := some 32) HT_ (bA 28 1) ?_; refine puT (i := 1) (N := some 33) HT_ (bA 28 3) ?_; refine puT (i := 2) (N := some 34) HT_ (bA 28 7) ?_; refine puT (i := 3) (N := some 35) HT_ (bA 28 15) ?_; refine tkT (i := 4) (N := some 36) HT_ HW_ hHeld (bA 28 31) ?_; refine puT (i := 5) (N := some 37) HT_ (bA 28 63) ?_; refine puT (i := 6) (N := some 38) HT_ (bA 28 127) ?_; refine puT (i := 8) (N := some 40) HT_ (bA 28 383) ?_; refine puT (i := 9) (N := some 41) HT_ (bA 28 895) ?_; refine puT (i := 10) (N := some 42) HT_ (bA 28 1919) ?_; refine puT (i := 12) (N := some 44) HT_ (bA 28 6015) ?_; refine puT (i := 13) (N := some 45) HT_ (bA 28 14207) ?_; refine puT (i := 14) (N := some 46) HT_ (bA 28 30591) ?_
               refine puT (i := 15) (N := some 47) HT_ (bA 28 63359) ?_; refine puT (i := 18) (N := some 50) HT_ (bA 28 325503) ?_; refine puT (i := 19) (N := some 51) HT_ (bA 28 849791) ?_; refine puT (i := 20) (N := some 52) HT_ (bA 28 1898367) ?_; refine puT (i := 22) (N := some 54) HT_ (bA 28 6092671) ?_; refine puT (i := 23) (N := some 55) HT_ (bA 28 14481279) ?_; refine puT (i := 24) (N := some 56) HT_ (bA 28 31258495) ?_; refine tkT (i := 7) (N := some 39) HT_ HW_ hHeld (bA 28 31258623) ?_; refine tkT (i := 11) (N := some 43) HT_ HW_ hHeld (bA 28 31260671) ?_; refine tkT (i := 16) (N := some 48) HT_ HW_ hHeld (bA 28 31326207) ?_; refine puT (i := 17) (N := some 49) HT_ (bA 28 31457279) ?_; refine tkT (i := 25) (N := some 57) HT_ HW_ hHeld (bA 28 65011711) ?_; refine onT (i := 21) (N := some 53) HT_ (bA 28 67108863) (fun K hK => ?_); refine go_ Tryz.func49 #[.agg #[.int .i64 a0_0, .bool a0_1], .int .i64 (rd l1 (rd l4 x16_1)), .int .i64 (Int.tmod (wrap64 (a3 + x15_1)) a0_0), .int .i64 (wrap64 (x18_2 + 1)), .bool a5] ?_; with_reducible refine (Q16.calls k2 a0_0 a0_1 (rd l1 (rd l4 x16_1)) (Int.tmod (wrap64 (a3 + x15_1)) a0_0) (wrap64 (x18_2 + 1)) a5 t517 _ A18.out).mono ?_
               rintro e w22 ⟨rfl, hb⟩; refine ⟨_, rfl, ?_⟩; replace HO_14 := A_ (Kd.R_below (rq HO_14) hb); replace BK511 := A_ (blk_below (bq BK511) hb); replace HB := A_ (below_step (hq HB) hb); clear hb; refine hK.out _ _ ⟨bc BK511 0, bc BK511 1, ((HB.out.cell (World.block_lt_of_cell? w _ hw516_0)).trans hw516_0), ((HB.out.cell (World.block_lt_of_cell? w _ hw518_0)).trans hw518_0)⟩ (fun hHeld => ?_); clear hK K; refine nq_ (some 53) ?_; refine puT (i := 26) (N := some 58) HT_ (bA 28 134217727) ?_; refine puT (i := 27) (N := some 59) HT_ (bA 28 268435455) ?_; refine done_ (done_of HT_.out (by kernel_rfl)) ?_; try go_wp2
               go_roundg k2
               case measure => have := HK1.out; have := HK2.out; omega
               case rel => exact ⟨(wrap64 (x18_2 + 1)), rf, H', ⟨by have := HK1.out; have := HK2.out; omega⟩, ⟨rq HO_14⟩, ⟨bq BK511⟩, ⟨hq HB⟩⟩
              ·
               rw [if_neg c20] at H; have c20b0 := decide_eq_false c20; clear c20; by_cases c23 : (rd l4 x16_1) < (x14_1.length : Int)
               ·
                rw [if_pos c23] at H; have c23b0 := decide_eq_true c23; clear c23
                obtain ⟨y519, hy519⟩ : ∃ y_ : List Int, y_ = (x14_1.set ((rd l4 x16_1) : Int).toNat x18_2) := ⟨_, rfl⟩
                replace H : (Q3.l0 k2 l1 l2 a3 l4 a5 y519 (wrap64 (x15_1 + x18_2)) (wrap64 (x16_1 + 1)) a0_0 a0_1) = some (r1, r2) := by first | (rw [hy519]; with_reducible exact H) | (have H2_ := (Option.bind_some _ _).symm.trans H; rw [hy519]; with_reducible exact H2_) | (have H2_ := (Option.bind_some _ _).symm.trans H; with_reducible exact H2_) | with_reducible exact H | (rw [hy519]; exact H) | exact H
                have Ny519 := A_ hy519; clear hy519; have H' := A_ H; clear H; try go_wp2
                replace HO_14 := A_ (Kd.R_drew HO_14.out); replace BK511 := A_ (blk_drew BK511.out); replace HB := A_ (below_drew1 HB.out); have p516 : 0 ≤ ((rd l4 x16_1) : Int) := dq; have q516 : (rd l4 x16_1) < (l1.length : Int) := dq; obtain ⟨ad516, e516, hx516_0⟩ := Kd.at_int HR1.out (rd l4 x16_1) p516 q516; have hw516_0 := hx516_0
                cases e516
                replace hx516_0 := (HB.out.cell (World.block_lt_of_cell? w _ hx516_0)).trans hx516_0; replace p516 := eq_true p516; replace q516 := eq_true q516; have p518 : 0 ≤ ((rd l4 x16_1) : Int) := dq; have q518 : (rd l4 x16_1) < (l2.length : Int) := dq; obtain ⟨ad518, e518, hx518_0⟩ := Kd.at_int HR2.out (rd l4 x16_1) p518 q518; have hw518_0 := hx518_0
                cases e518
                replace hx518_0 := (HB.out.cell (World.block_lt_of_cell? w _ hx518_0)).trans hx518_0; replace p518 := eq_true p518; replace q518 := eq_true q518; refine start_ (n := 28) (S := fun w' => w'.cell? ⟨gb511, 0, none⟩ = some (.int .i64 a0_0) ∧ w'.cell? ⟨gb511, 1, none⟩ = some (.bool a0_1) ∧ w'.cell? (ad516.add ((rd l4 x16_1)).toNat) = some (.int .i64 (rd l1 (rd l4 x16_1))) ∧ w'.cell? (ad518.add ((rd l4 x16_1)).toNat) = some (.int .i64 (rd l2 (rd l4 x16_1)))) (ds := []) (bA 28 0) (by kernel_rfl) rfl rfl ⟨bc BK511 0, bc BK511 1, ((HB.out.cell (World.block_lt_of_cell? w _ hw516_0)).trans hw516_0), ((HB.out.cell (World.block_lt_of_cell? w _ hw518_0)).trans hw518_0)⟩ (fun hHeld => ?_); refine with_tabW Q3.tab6 Q3.bits6 (fun HT_ HW_ => ?_); generalize wr.drew = w25 at HO_14 BK511 HB hx516_0 hx518_0 hHeld ⊢; refine puT (i := 0) (N := some 32) HT_ (bA 28 1) ?_; refine puT (i := 1) (N := some 33) HT_ (bA 28 3) ?_; refine puT (i := 2) (N := some 34) HT_ (bA 28 7) ?_; refine puT (i := 3) (N := some 35) HT_ (bA 28 15) ?_; refine tkT (i := 4) (N := some 36) HT_ HW_ hHeld (bA 28 31) ?_; refine puT (i := 5) (N := some 37) HT_ (bA 28 63) ?_; refine puT (i := 6) (N := some 38) HT_ (bA 28 127) ?_; refine puT (i := 8) (N := some 40) HT_ (bA 28 383) ?_; refine puT (i := 9) (N := some 41) HT_ (bA 28 895) ?_; refine puT (i := 10) (N := some 42) HT_ (bA 28 1919) ?_; refine puT (i := 12) (N := some 44) HT_ (bA 28 6015) ?_; refine puT (i := 13) (N := some 45) HT_ (bA 28 14207) ?_; refine puT (i := 14) (N := some 46) HT_ (bA 28 30591) ?_
                refine puT (i := 15) (N := some 47) HT_ (bA 28 63359) ?_; refine puT (i := 18) (N := some 50) HT_ (bA 28 325503) ?_; refine puT (i := 19) (N := some 51) HT_ (bA 28 849791) ?_; refine puT (i := 20) (N := some 52) HT_ (bA 28 1898367) ?_; refine puT (i := 22) (N := some 54) HT_ (bA 28 6092671) ?_; refine puT (i := 23) (N := some 55) HT_ (bA 28 14481279) ?_; refine puT (i := 24) (N := some 56) HT_ (bA 28 31258495) ?_; refine tkT (i := 7) (N := some 39) HT_ HW_ hHeld (bA 28 31258623) ?_; refine tkT (i := 11) (N := some 43) HT_ HW_ hHeld (bA 28 31260671) ?_; refine tkT (i := 16) (N := some 48) HT_ HW_ hHeld (bA 28 31326207) ?_; refine puT (i := 17) (N := some 49) HT_ (bA 28 31457279) ?_; refine tkT (i := 25) (N := some 57) HT_ HW_ hHeld (bA 28 65011711) ?_; refine onT (i := 21) (N := some 53) HT_ (bA 28 67108863) (fun K hK => ?_); refine go_ Tryz.func49 #[.agg #[.int .i64 a0_0, .bool a0_1], .int .i64 (rd l1 (rd l4 x16_1)), .int .i64 (Int.tmod (wrap64 (a3 + x15_1)) a0_0), .int .i64 (wrap64 (x18_2 + 1)), .bool a5] ?_; with_reducible refine (Q16.calls k2 a0_0 a0_1 (rd l1 (rd l4 x16_1)) (Int.tmod (wrap64 (a3 + x15_1)) a0_0) (wrap64 (x18_2 + 1)) a5 t517 _ A18.out).mono ?_
                rintro e w26 ⟨rfl, hb⟩; refine ⟨_, rfl, ?_⟩; replace HO_14 := A_ (Kd.R_below (rq HO_14) hb); replace BK511 := A_ (blk_below (bq BK511) hb); replace HB := A_ (below_step (hq HB) hb); clear hb; refine hK.out _ _ ⟨bc BK511 0, bc BK511 1, ((HB.out.cell (World.block_lt_of_cell? w _ hw516_0)).trans hw516_0), ((HB.out.cell (World.block_lt_of_cell? w _ hw518_0)).trans hw518_0)⟩ (fun hHeld => ?_); clear hK K; refine nq_ (some 53) ?_; refine puT (i := 26) (N := some 58) HT_ (bA 28 134217727) ?_; refine puT (i := 27) (N := some 59) HT_ (bA 28 268435455) ?_; refine done_ (done_of HT_.out (by kernel_rfl)) ?_; have p24 : 0 ≤ ((rd l4 x16_1) : Int) := dq; have q24 : ((rd l4 x16_1) : Int) < ((x14_1.length : Int) : Int) := dq; obtain ⟨go24, co24, eo24, gb24, gl24, cl24, HG24⟩ := Kd.R_form HO_14.out (by omega); (first | cases eo24 | (injection eo24 with ea_ en_ ec_; (first | subst ea_ | (injection ea_ with ea_; subst ea_)); subst ec_; clear en_)); have GB24 := A_ gb24; have GG24 := A_ HG24; clear gb24 gl24 HG24; obtain ⟨hx24_0, hf24_0⟩ := Kd.R_celln 0 HO_14.out ((rd l4 x16_1) : Int) p24 q24; replace p24 := eq_true p24; replace q24 := eq_true q24; obtain ⟨hy27_, hz27_⟩ := Kd.R_celln 0 HO_14.out ((rd l4 x16_1) : Int) (dq) (dq); have HP27 := Kd.R_putg HO_14.out ((rd l4 x16_1) : Int) x18_2; try go_wp2_with (first | ((with_reducible refine gate_store (t := 3) (p := 65) rfl ?_); refine store_event (t := 3) (p := 65) (v := ?vo_w28) (w1 := (w26.setCell ⟨go24, ((rd l4 x16_1) : Int).toNat, none⟩ (.int .i64 x18_2))) ?hg ?ho ?hn ?hr ?_; (case ho => rfl); (case hg => rfl); (case hn => rfl); (case hr => first | (go_simp; done) | (go_simp; rfl)); intro w28 hw; have hg : w26.grownBy w28 (some go24) := (by rw [hw]; exact HP27.2); have hp_ : Kd.R (Kd.int .i64) 3 w28 w.heap.size (fun _ => True) (.slice (some ⟨go24, 0, none⟩) x14_1.length co24) y519 := (by rw [hw, Ny519.out]; exact HP27.1); clear HP27; replace BK511 := A_ (blk_grown (g := gb511) (o := .cells #[.int .i64 a0_0, .bool a0_1] 25 (0, 0)) (bq BK511) hg (Kd.R_ne HO_14.out BK511.out (by decide))); replace HO_14 := A_ (hp_); replace HB := A_ ((by rw [hw]; exact below_set (HB.out) GB24.out : Below w.heap.size w w28)); clear hg hw hp_))
                go_roundg k2
                case measure => have := HK1.out; have := HK2.out; omega
                case rel => exact ⟨(y519), (wrap64 (x15_1 + x18_2)), (wrap64 (x16_1 + 1)), rf, rf, H', ⟨by have := HK1.out; have := HK2.out; omega⟩, ⟨rq HO_14⟩, ⟨bq BK511⟩, ⟨hq HB⟩⟩
               ·
                rw [if_neg c23] at H; exact absurd H (by simp)
             ·
              rw [if_neg c19] at H; exact absurd H (by simp)
           ·
            rw [if_neg c16] at H; exact absurd H (by simp)
          ·
           rw [if_neg c15] at H; exact absurd H (by simp)
         ·
          rw [if_neg c14] at H; have c14b0 := decide_eq_false c14; clear c14; by_cases c29 : 0 ≤ (rd l4 x16_1)
          ·
           rw [if_pos c29] at H; have c29b0 := decide_eq_true c29; clear c29; by_cases c30 : (rd l4 x16_1) < (x14_1.length : Int)
           ·
            rw [if_pos c30] at H; have c30b0 := decide_eq_true c30; clear c30
            obtain ⟨y520, hy520⟩ : ∃ y_ : List Int, y_ = (x14_1.set ((rd l4 x16_1) : Int).toNat x18_2) := ⟨_, rfl⟩
            replace H : (Q3.l0 k2 l1 l2 a3 l4 a5 y520 (wrap64 (x15_1 + x18_2)) (wrap64 (x16_1 + 1)) a0_0 a0_1) = some (r1, r2) := by first | (rw [hy520]; with_reducible exact H) | (have H2_ := (Option.bind_some _ _).symm.trans H; rw [hy520]; with_reducible exact H2_) | (have H2_ := (Option.bind_some _ _).symm.trans H; with_reducible exact H2_) | with_reducible exact H | (rw [hy520]; exact H) | exact H
            have Ny520 := A_ hy520; clear hy520; have H' := A_ H; clear H; try go_wp2
            replace HO_14 := A_ (Kd.R_drew HO_14.out); replace BK511 := A_ (blk_drew BK511.out); replace HB := A_ (below_drew1 HB.out); refine start_ (n := 28) (S := fun w' => w'.cell? ⟨gb511, 0, none⟩ = some (.int .i64 a0_0) ∧ w'.cell? ⟨gb511, 1, none⟩ = some (.bool a0_1)) (ds := []) (bA 28 0) (by kernel_rfl) rfl rfl ⟨bc BK511 0, bc BK511 1⟩ (fun hHeld => ?_); refine with_tabW Q3.tab6 Q3.bits6 (fun HT_ HW_ => ?_); generalize wr.drew = w32 at HO_14 BK511 HB hHeld ⊢; refine puT (i := 0) (N := some 32) HT_ (bA 28 1) ?_; refine puT (i := 1) (N := some 33) HT_ (bA 28 3) ?_; refine puT (i := 2) (N := some 34) HT_ (bA 28 7) ?_; refine puT (i := 3) (N := some 35) HT_ (bA 28 15) ?_; refine tkT (i := 4) (N := some 36) HT_ HW_ hHeld (bA 28 31) ?_; refine puT (i := 5) (N := some 37) HT_ (bA 28 63) ?_; refine puT (i := 6) (N := some 38) HT_ (bA 28 127) ?_; refine pzT (i := 7) (N := some 39) HT_ (bA 28 255) ?_; refine pzT (i := 8) (N := some 40) HT_ (bA 28 511) ?_; refine pzT (i := 9) (N := some 41) HT_ (bA 28 1023) ?_; refine pzT (i := 10) (N := some 42) HT_ (bA 28 2047) ?_; refine pzT (i := 11) (N := some 43) HT_ (bA 28 4095) ?_; refine pzT (i := 12) (N := some 44) HT_ (bA 28 8191) ?_; refine pzT (i := 13) (N := some 45) HT_ (bA 28 16383) ?_
            refine pzT (i := 14) (N := some 46) HT_ (bA 28 32767) ?_; refine pzT (i := 15) (N := some 47) HT_ (bA 28 65535) ?_; refine pzT (i := 16) (N := some 48) HT_ (bA 28 131071) ?_; refine pzT (i := 17) (N := some 49) HT_ (bA 28 262143) ?_; refine pzT (i := 18) (N := some 50) HT_ (bA 28 524287) ?_; refine pzT (i := 19) (N := some 51) HT_ (bA 28 1048575) ?_; refine pzT (i := 20) (N := some 52) HT_ (bA 28 2097151) ?_; refine pzT (i := 21) (N := some 53) HT_ (bA 28 4194303) ?_; refine pzT (i := 22) (N := some 54) HT_ (bA 28 8388607) ?_; refine pzT (i := 23) (N := some 55) HT_ (bA 28 16777215) ?_; refine pzT (i := 24) (N := some 56) HT_ (bA 28 33554431) ?_; refine pzT (i := 25) (N := some 57) HT_ (bA 28 67108863) ?_; refine pzT (i := 26) (N := some 58) HT_ (bA 28 134217727) ?_; refine puT (i := 27) (N := some 59) HT_ (bA 28 268435455) ?_; refine done_ (done_of HT_.out (by kernel_rfl)) ?_; have p31 : 0 ≤ ((rd l4 x16_1) : Int) := dq; have q31 : ((rd l4 x16_1) : Int) < ((x14_1.length : Int) : Int) := dq; obtain ⟨go31, co31, eo31, gb31, gl31, cl31, HG31⟩ := Kd.R_form HO_14.out (by omega); (first | cases eo31 | (injection eo31 with ea_ en_ ec_; (first | subst ea_ | (injection ea_ with ea_; subst ea_)); subst ec_; clear en_)); have GB31 := A_ gb31; have GG31 := A_ HG31; clear gb31 gl31 HG31; obtain ⟨hx31_0, hf31_0⟩ := Kd.R_celln 0 HO_14.out ((rd l4 x16_1) : Int) p31 q31; replace p31 := eq_true p31; replace q31 := eq_true q31; obtain ⟨hy33_, hz33_⟩ := Kd.R_celln 0 HO_14.out ((rd l4 x16_1) : Int) (dq) (dq); have HP33 := Kd.R_putg HO_14.out ((rd l4 x16_1) : Int) x18_2; try go_wp2_with (first | ((with_reducible refine gate_store (t := 3) (p := 65) rfl ?_); refine store_event (t := 3) (p := 65) (v := ?vo_w34) (w1 := (w32.setCell ⟨go31, ((rd l4 x16_1) : Int).toNat, none⟩ (.int .i64 x18_2))) ?hg ?ho ?hn ?hr ?_; (case ho => rfl); (case hg => rfl); (case hn => rfl); (case hr => first | (go_simp; done) | (go_simp; rfl)); intro w34 hw; have hg : w32.grownBy w34 (some go31) := (by rw [hw]; exact HP33.2); have hp_ : Kd.R (Kd.int .i64) 3 w34 w.heap.size (fun _ => True) (.slice (some ⟨go31, 0, none⟩) x14_1.length co31) y520 := (by rw [hw, Ny520.out]; exact HP33.1); clear HP33; replace BK511 := A_ (blk_grown (g := gb511) (o := .cells #[.int .i64 a0_0, .bool a0_1] 25 (0, 0)) (bq BK511) hg (Kd.R_ne HO_14.out BK511.out (by decide))); replace HO_14 := A_ (hp_); replace HB := A_ ((by rw [hw]; exact below_set (HB.out) GB31.out : Below w.heap.size w w34)); clear hg hw hp_))
            go_roundg k2
            case measure => have := HK1.out; have := HK2.out; omega
            case rel => exact ⟨(y520), (wrap64 (x15_1 + x18_2)), (wrap64 (x16_1 + 1)), rf, rf, H', ⟨by have := HK1.out; have := HK2.out; omega⟩, ⟨rq HO_14⟩, ⟨bq BK511⟩, ⟨hq HB⟩⟩
           ·
            rw [if_neg c30] at H; exact absurd H (by simp)
          ·
           rw [if_neg c29] at H; exact absurd H (by simp)
      ·
       rw [if_neg c13] at H; exact absurd H (by simp)
     ·
      rw [if_neg c12] at H; have c12b0 := decide_eq_false c12; clear c12; simp only [Option.some.injEq, Prod.mk.injEq] at H
      obtain ⟨rfl, rfl⟩ := H; go_wp2
      go_ret2
      exact ⟨_, rt, rq HO_14, hq HB⟩
  ·
   rw [if_neg c8] at H; exact absurd H (by simp)
 ·
  rw [if_neg c7] at H; exact absurd H (by simp)

end Go.Proofs.YtjhppcpjobofbabGreat.PFnRuns
