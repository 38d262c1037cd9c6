-- Told shorter still by shrink2.py.
-- Printed, and told shorter by this session's program shrink.py.
-- Printed by this session's program myprint.py.
import Derived.Test.YtbjpfnpleajhgadPFnToursx0
import Derived.Test.YtbjpfnpleajhgadPFnToursx1
import Derived.Test.YtbjpfnpleajhgadPFnToursx2
import Derived.Test.YtbjpfnpleajhgadPFnToursx5
namespace Go.Proofs.Ytbjpfnpleajhgad.PFnTours
open Go.RowKit Go.Proofs.Ytbjpfnpleajhgad.Own Go.Proofs.YtbjpfnpleajhgadW.PrintWords Go.Proofs.YtbjpfnpleajhgadW.PrintLast Go.Proofs.YtbjpfnpleajhgadW.PrintMore
attribute [local go_sem] max2_int min2_int max_two min_two max_three min_three max_four min_four   -- for this text's walks alone
set_option linter.unusedVariables false
set_option linter.unusedSimpArgs false

/-! ### impl_Road_sweep: function 33 -/
def Q5.l0 : Nat → Int → List Int → Int → Int → Int → Bool → Option (List Int)
  | 0, _, _, _, _, _, _ => none
  | k + 1, x1, x5, x11, x12, x277000, x277001 => if x12 < x11 then (if x277000 = 0 then (none) else (if x5.length < 17592186044416 then (Q5.l0 k x1 (x5 ++ [Int.tmod (wrap64 (x1 + x12)) x277000]) x11 (wrap64 (x12 + 1)) x277000 x277001) else (none))) else (some x5)
def Q5.f (k : Nat) (a0_0 : Int) (a0_1 : Bool) (a1 : Int) : Option (List Int) := if a0_1 = true then (Q5.l0 k a1 (([] : List Int)) a0_0 0 a0_0 a0_1) else (if a1 ≤ (wrap64 ((wrap64 (a0_0 - 1)) - a1)) then ((Q1.f k a0_0 a0_1 (([a1] : List Int)) 0).bind fun t286 => ((Q1.f k a0_0 a0_1 t286 (wrap64 (a0_0 - 1))).bind fun t289 => (some t289))) else ((Q1.f k a0_0 a0_1 (([a1] : List Int)) (wrap64 (a0_0 - 1))).bind fun t295 => ((Q1.f k a0_0 a0_1 t295 0).bind fun t298 => (some t298))))
theorem Q5.mono_l : ∀ k, (∀ y0 y1 y2 y3 y4 y5, LeO (Q5.l0 k y0 y1 y2 y3 y4 y5) (Q5.l0 (k + 1) y0 y1 y2 y3 y4 y5))
  | 0 => fun _ _ _ _ _ _ r h => by simp [Q5.l0] at h
  | k + 1 => by
    have ih0 := Q5.mono_l k
    · intro y0 y1 y2 y3 y4 y5
      unfold Q5.l0
      repeat' first
      | (with_reducible exact ih0 _ _ _ _ _ _)
      | (with_reducible exact Q1.mono _ _ _ _ _)
      | (with_reducible exact LeO.refl _)
      | (with_reducible exact LeO.none _)
      | (with_reducible refine LeO.ite ?_ ?_)
      | (with_reducible refine LeO.bind ?_ (fun _ => ?_))
      | exact ih0 _ _ _ _ _ _
      | exact Q1.mono _ _ _ _ _
      | exact LeO.none _
      | refine LeO.ite ?_ ?_
      | refine LeO.bind ?_ (fun _ => ?_)
theorem Q5.mono : ∀ a0 a1 a2 k, LeO (Q5.f k a0 a1 a2) (Q5.f (k + 1) a0 a1 a2) := by
  intro a0 a1 a2 k
  have ih0 := Q5.mono_l k
  unfold Q5.f
  repeat' first
      | (with_reducible exact ih0 _ _ _ _ _ _)
      | (with_reducible exact Q1.mono _ _ _ _ _)
      | (with_reducible exact LeO.refl _)
      | (with_reducible exact LeO.none _)
      | (with_reducible refine LeO.ite ?_ ?_)
      | (with_reducible refine LeO.bind ?_ (fun _ => ?_))
      | exact ih0 _ _ _ _ _ _
      | exact Q1.mono _ _ _ _ _
      | exact LeO.none _
      | refine LeO.ite ?_ ?_
      | refine LeO.bind ?_ (fun _ => ?_)
def Q5.T10 : Bool × List (List Nat × List Nat) := (true, [([], []), ([], []), ([], []), ([2], [2]), ([1, 3], [1, 3]), ([], []), ([5], [5]), ([6], [6]), ([0, 4, 7, 4], [0, 4, 7]), ([8, 8, 0, 1, 2, 3, 4, 5, 6, 7, 8], [8])])
def Q5.B10 : List Nat := [0, 0, 0, 4, 14, 0, 32, 96, 255, 511]
theorem Q5.tab10 : rtab .any (opsOf Try.f33 10) = Q5.T10 := by kernel_rfl
theorem Q5.bits10 : waitsOk Q5.T10.2 Q5.B10 = true := by kernel_rfl
def Q5.T11 : Bool × List (List Nat × List Nat) := (true, [([], []), ([], []), ([], []), ([2], [2]), ([], []), ([4], [4]), ([5], [5]), ([1, 3, 6], [1, 3, 6]), ([0, 7, 7], [0, 7]), ([8, 8, 0, 1, 2, 3, 4, 5, 6, 7, 8], [8])])
def Q5.B11 : List Nat := [0, 0, 0, 4, 0, 16, 48, 126, 255, 511]
theorem Q5.tab11 : rtab .any (opsOf Try.f33 11) = Q5.T11 := by kernel_rfl
theorem Q5.bits11 : waitsOk Q5.T11.2 Q5.B11 = true := by kernel_rfl
set_option maxHeartbeats 8000000 in
set_option maxRecDepth 100000 in
theorem Q5.calls (k : Nat) (a0_0 : Int) (a0_1 : Bool) (a1 : Int) (r : List Int) (w : World) (h : Q5.f k a0_0 a0_1 a1 = some r) :
    Calls Try.prog 33 #[.agg #[.int .i64 a0_0, .bool a0_1], .int .i64 a1] w fun e w' => ∃ v0_ : Value, e = .returned (v0_) ∧ Kd.R (Kd.int .i64) 3 w' w.heap.size (fun _ => True) v0_ r ∧ Below w.heap.size w w' := by
 have hu25 := Try.underlying25; have HB := A_ (Below.refl w.heap.size w); have H : (if a0_1 = true then (Q5.l0 k a1 (([] : List Int)) a0_0 0 a0_0 a0_1) else (if a1 ≤ (wrap64 ((wrap64 (a0_0 - 1)) - a1)) then ((Q1.f k a0_0 a0_1 (([a1] : List Int)) 0).bind fun t286 => ((Q1.f k a0_0 a0_1 t286 (wrap64 (a0_0 - 1))).bind fun t289 => (some t289))) else ((Q1.f k a0_0 a0_1 (([a1] : List Int)) (wrap64 (a0_0 - 1))).bind fun t295 => ((Q1.f k a0_0 a0_1 t295 0).bind fun t298 => (some t298))))) = some r := h; clear h; by_cases c3 : a0_1 = true
 ·
  subst c3
  have H1 : (Q5.l0 k a1 (([] : List Int)) a0_0 0 a0_0 true) = some r := by rw [if_pos rfl] at H; exact H
  clear H; have H := H1; clear H1
  obtain ⟨y277, hy277⟩ : ∃ y_ : List Int, y_ = (([] : List Int)) := ⟨_, rfl⟩
  replace H : (Q5.l0 k a1 y277 a0_0 0 a0_0 true) = some r := by first | (rw [hy277]; with_reducible exact H) | (have H2_ := (Option.bind_some _ _).symm.trans H; rw [hy277]; with_reducible exact H2_) | (have H2_ := (Option.bind_some _ _).symm.trans H; with_reducible exact H2_) | with_reducible exact H | (rw [hy277]; exact H) | exact H
  have Ny277 := A_ hy277; clear hy277; have H' := A_ H; clear H; go_enter Try.func33, Try.ntmps33
  go_wp2_with (first | ((with_reducible refine gate_dst (N := 2) rfl ?_); refine bx (N := 2) #[.int .i64 a0_0, .bool true] 25 ?_; intro gb276 hg w4 hbox hb; have BK276 := A_ (hbox); have GW276 := A_ (bs hg (hq HB) : w.heap.size ≤ gb276); have GE276 := A_ (bs hg (hq HB) : w.heap.size ≤ gb276); replace HB := A_ (below_step (hq HB) hb); clear hb hbox hg; have hcz5_0 : w4.cell? ⟨gb276, 0, none⟩ = some (.int .i64 a0_0) := bc BK276 0; have hcz5_1 : w4.cell? ⟨gb276, 1, none⟩ = some (.bool true) := bc BK276 1; have hfz5_0 := blk_frozen BK276.out 0; have hfz5_1 := blk_frozen BK276.out 1) | ((with_reducible refine gate_dst (N := 9) rfl ?_); refine Kd.R_lit (Kd.int .i64) _ 3 ?hg (N := 9) ?hd (xs := ([] : List Int)) (inner := []) (ok := fun _ => True) (okp := fun _ => True) ?hr ?hp (fun _ hk => hk) trivial (Below.refl _ _) (Nat.le_refl _) (by simp) ?_; (case hd => rfl); (case hg => rfl); (case hr => first | (go_simp; done) | (go_simp; rfl)); (case hp => exact (Reps.none _ _)); intro v278 w6 ho7 hb hg_ hnew_; clear hg_ hnew_; (first | rw [← Ny277.out] at ho7 | (simp only [Int.reduceToNat] at ho7; rw [← Ny277.out] at ho7)); have HO279 := A_ (Kd.R_lower ho7 (below_size (hq HB))); replace BK276 := A_ (blk_below (bq BK276) hb); replace HB := A_ (below_step (hq HB) hb); clear hb ho7; have hcz8_0 : w6.cell? ⟨gb276, 0, none⟩ = some (.int .i64 a0_0) := bc BK276 0; have hcz8_1 : w6.cell? ⟨gb276, 1, none⟩ = some (.bool true) := bc BK276 1; have hfz8_0 := blk_frozen BK276.out 0; have hfz8_1 := blk_frozen BK276.out 1))
  go_loopg [5, 12] k (fun kq v5 v12 w' => ∃ (x5_1 : List Int) (x12_1 : Int), v12 = .int .i64 x12_1 ∧ Aside0 (Q5.l0 kq a1 x5_1 a0_0 x12_1 a0_0 true = some r) ∧ Aside0 (kq ≤ k) ∧ Aside0 (Kd.R (Kd.int .i64) 3 w' w.heap.size (fun _ => True) v5 x5_1) ∧ Aside0 (w'.heap[gb276]? = some (.cells #[.int .i64 a0_0, .bool true] 25 (0, 0))) ∧ Aside0 (Below w.heap.size w w'))
  case atStart => exact ⟨(y277), (0), rf, H', ⟨Nat.le_refl _⟩, ⟨rq HO279⟩, ⟨bq BK276⟩, ⟨hq HB⟩⟩
  case round =>
   clear H'; (try clear c3); (try clear hcz5_0); (try clear hcz5_1); (try clear hcz8_0); (try clear hcz8_1); (try clear hfz5_0); (try clear hfz5_1); (try clear hfz8_0); (try clear hfz8_1); obtain ⟨x5_1, x12_1, rfl, HA, HK1, HO_5, BK276, HB⟩ := hrel
   cases gk with
   | zero => exact absurd HA.out (by simp [Q5.l0])
   | succ k1 =>
    have H := HA.out; clear HA; simp only [Q5.l0] at H
    by_cases c9 : x12_1 < a0_0
    ·
     rw [if_pos c9] at H; have c9b0 := decide_eq_true c9; clear c9; by_cases c10 : a0_0 = 0
     ·
      rw [if_pos c10] at H; exact absurd H (by simp)
     ·
      rw [if_neg c10] at H; have c10b0 : (a0_0 == 0) = false := beq_eq_false_iff_ne.mpr c10; have c10b1 : (a0_0 != 0) = true := bne_iff_ne.mpr c10; by_cases c11 : x5_1.length < 17592186044416
      ·
       rw [if_pos c11] at H; have LMc11 := A_ c11; clear c11
       obtain ⟨y280, hy280⟩ : ∃ y_ : List Int, y_ = (x5_1 ++ [Int.tmod (wrap64 (a1 + x12_1)) a0_0]) := ⟨_, rfl⟩
       replace H : (Q5.l0 k1 a1 y280 a0_0 (wrap64 (x12_1 + 1)) a0_0 true) = some r := by first | (rw [hy280]; with_reducible exact H) | (have H2_ := (Option.bind_some _ _).symm.trans H; rw [hy280]; with_reducible exact H2_) | (have H2_ := (Option.bind_some _ _).symm.trans H; with_reducible exact H2_) | with_reducible exact H | (rw [hy280]; exact H) | exact H
       have Ny280 := A_ hy280; clear hy280; have H' := A_ H; clear H; have hcz12_0 : wr.cell? ⟨gb276, 0, none⟩ = some (.int .i64 a0_0) := bc BK276 0; have hcz12_1 : wr.cell? ⟨gb276, 1, none⟩ = some (.bool true) := bc BK276 1; have hfz12_0 := blk_frozen BK276.out 0; have hfz12_1 := blk_frozen BK276.out 1; go_wp2_with (first | ((with_reducible refine gate_builtin (b := .append) (xs := #[.tmp 15, .tmp 22]) rfl ?_); at_builtin; refine Kd.R_append (Kd.int .i64) (w0 := w) w.heap.size rfl (.tmp 15) (.tmp 22) 26 3 (.int .i64 0) 8 rfl Try.underlying26 info3 rfl (by decide) (by omega) u5 x5_1 (Int.tmod (wrap64 (a1 + x12_1)) a0_0) [.int .i64 (Int.tmod (wrap64 (a1 + x12_1)) a0_0)] (fun _ => True) (fun _ => False) rfl rfl ?aP (fun _ hk => hk.elim) ?aF ?aO ?aB ?aS ?aL ?_; (case aP => exact rfl); (case aB => exact (hq HB)); (case aF => exact (fun _ _ => trivial)); (case aO => exact (rq HO_5)); (case aS => exact (below_size (hq HB))); (case aL => have := LMc11.out; omega); intro v281 w13 ho hb hg hat; rw [← Ny280.out] at ho; have n0_ := A_ (blk_grown (g := gb276) (o := .cells #[.int .i64 a0_0, .bool true] 25 (0, 0)) (bq BK276) hg (Kd.R_ne HO_5.out BK276.out (by decide))); have n1_ := A_ (hb); have n2_ := A_ (ho); clear BK276; clear HB; clear HO_5; have BK276 := n0_; have HB := n1_; have HO282 := n2_; clear n0_ n1_ n2_; clear ho hb hg hat))
       go_roundg k1
       case measure => have := HK1.out; omega
       case rel => exact ⟨(y280), (wrap64 (x12_1 + 1)), rf, H', ⟨by have := HK1.out; omega⟩, ⟨rq HO282⟩, ⟨bq BK276⟩, ⟨hq HB⟩⟩
      ·
       rw [if_neg c11] at H; exact absurd H (by simp)
    ·
     rw [if_neg c9] at H; have c9b0 := decide_eq_false c9; clear c9; obtain rfl := Option.some.inj H; go_wp2
     go_ret
     exact ⟨_, rt, rq HO_5, hq HB⟩
 ·
  replace c3 := Bool.eq_false_iff.mpr c3; subst c3
  have H1 : (if a1 ≤ (wrap64 ((wrap64 (a0_0 - 1)) - a1)) then ((Q1.f k a0_0 false (([a1] : List Int)) 0).bind fun t286 => ((Q1.f k a0_0 false t286 (wrap64 (a0_0 - 1))).bind fun t289 => (some t289))) else ((Q1.f k a0_0 false (([a1] : List Int)) (wrap64 (a0_0 - 1))).bind fun t295 => ((Q1.f k a0_0 false t295 0).bind fun t298 => (some t298)))) = some r := by rw [if_neg (show ¬ (false = true) by decide)] at H; exact H
  clear H; have H := H1; clear H1; by_cases c14 : a1 ≤ (wrap64 ((wrap64 (a0_0 - 1)) - a1))
  ·
   rw [if_pos c14] at H; have c14b0 := decide_eq_true c14; clear c14
   obtain ⟨y283, hy283⟩ : ∃ y_ : List Int, y_ = (([a1] : List Int)) := ⟨_, rfl⟩
   replace H : ((Q1.f k a0_0 false y283 0).bind fun t286 => ((Q1.f k a0_0 false t286 (wrap64 (a0_0 - 1))).bind fun t289 => (some t289))) = some r := by first | (rw [hy283]; with_reducible exact H) | (have H2_ := (Option.bind_some _ _).symm.trans H; rw [hy283]; with_reducible exact H2_) | (have H2_ := (Option.bind_some _ _).symm.trans H; with_reducible exact H2_) | with_reducible exact H | (rw [hy283]; exact H) | exact H
   have Ny283 := A_ hy283; clear hy283; replace H := bm H; obtain ⟨t286, A15, H⟩ := H; replace H := bm H; obtain ⟨t289, A16, H⟩ := H; obtain rfl := Option.some.inj H; go_enter Try.func33, Try.ntmps33
   try go_wp2_with (first | ((with_reducible refine gate_dst (N := 2) rfl ?_); refine bx (N := 2) #[.int .i64 a0_0, .bool false] 25 ?_; intro gb276 hg w17 hbox hb; have BK276 := A_ (hbox); have GW276 := A_ (bs hg (hq HB) : w.heap.size ≤ gb276); have GE276 := A_ (bs hg (hq HB) : w.heap.size ≤ gb276); replace HB := A_ (below_step (hq HB) hb); clear hb hbox hg; have hcz18_0 : w17.cell? ⟨gb276, 0, none⟩ = some (.int .i64 a0_0) := bc BK276 0; have hcz18_1 : w17.cell? ⟨gb276, 1, none⟩ = some (.bool false) := bc BK276 1; have hfz18_0 := blk_frozen BK276.out 0; have hfz18_1 := blk_frozen BK276.out 1))
   replace BK276 := A_ (blk_drew BK276.out); replace HB := A_ (below_drew1 HB.out); refine start_ (n := 10) (S := fun w' => w'.cell? ⟨gb276, 0, none⟩ = some (.int .i64 a0_0) ∧ w'.cell? ⟨gb276, 1, none⟩ = some (.bool false)) (ds := []) #[false, false, false, false, false, false, false, false, false, false] (by kernel_rfl) rfl rfl ⟨bc BK276 0, bc BK276 1⟩ (fun hHeld => ?_); refine with_tabW Q5.tab10 Q5.bits10 (fun HT_ HW_ => ?_); generalize w17.drew = w19 at BK276 HB hHeld ⊢; refine puT (i := 2) (N := some 35) HT_ #[false, false, true, false, false, false, false, false, false, false] ?_; refine puT (i := 5) (N := some 38) HT_ #[false, false, true, false, false, true, false, false, false, false] ?_; refine tkT (i := 0) (N := some 33) HT_ HW_ hHeld #[true, false, true, false, false, true, false, false, false, false] ?_; refine tkT (i := 1) (N := some 34) HT_ HW_ hHeld #[true, true, true, false, false, true, false, false, false, false] ?_; refine tkT (i := 6) (N := some 39) HT_ HW_ hHeld #[true, true, true, false, false, true, true, false, false, false] ?_; refine puT (i := 7) (N := some 40) HT_ #[true, true, true, false, false, true, true, true, false, false] ?_; refine onT (i := 3) (N := some 36) HT_ #[true, true, true, true, false, true, true, true, false, false] (fun K hK => ?_); refine Kd.R_lit_step (Kd.int .i64) _ 3 ?hg (N := 36) ?hd (xs := ([a1] : List Int)) (inner := [.int .i64 a1]) (ok := fun _ => True) (okp := fun _ => True) ?hr ?hp (fun _ hk => hk) trivial (Below.refl _ _) (Nat.le_refl _) (by simp) ?_; (case hd => rfl); (case hg => rfl); (case hr => first | (go_simp; done) | (go_simp; rfl)); (case hp => exact (Reps.one (show Kd.M (Kd.int .i64) _ _ _ a1 [.int .i64 a1] from rfl) (Reps.none _ _))); intro v284 w20 ho21 hb hg_ hnew_; clear hg_ hnew_; (first | rw [← Ny283.out] at ho21 | (simp only [Int.reduceToNat] at ho21; rw [← Ny283.out] at ho21)); have n0_ := A_ (Kd.R_lower ho21 (below_size (hq HB))); have n1_ := A_ (blk_below (bq BK276) hb); have n2_ := A_ (below_step (hq HB) hb); clear BK276 HB; have HO285 := n0_; have BK276 := n1_; have HB := n2_; clear n0_ n1_ n2_ hb ho21; obtain ⟨Ao22, co22, eo22⟩ := Kd.R_slice HO285.out; (first | subst eo22 | (injection eo22 with f1_ f2_ f3_; have f4_ := f1_.symm; have f5_ := f3_.symm; clear f1_ f2_ f3_; subst f4_; subst f5_)); refine hK.out _ _ ⟨bc BK276 0, bc BK276 1⟩ (fun hHeld => ?_); clear hK K; refine nq_ (some 36) ?_; refine onT (i := 4) (N := some 37) HT_ #[true, true, true, true, true, true, true, true, false, false] (fun K hK => ?_); refine go_ Try.func61 #[.agg #[.int .i64 a0_0, .bool false], .slice Ao22 y283.length co22, .int .i64 0] ?_; with_reducible refine (Q1.calls k a0_0 false (fun k_ => some k_ = (.slice Ao22 y283.length co22 : Value).ownBlock) (.slice Ao22 y283.length co22) y283 0 t286 w _ ?side1 ?side2 A15.out).mono ?_
   (case side1 => repeat (first | (with_reducible first | exact HB.out | apply below_alloc | apply pw_below_drewN | apply below_drew1 | refine below_set ?_ GE276.out) | exact HB.out)); (case side2 => exact Kd.R_tight rfl HO285.out); rintro e w23 ⟨v287, rfl, ho0, hb, hkp⟩; refine ⟨_, rfl, ?_⟩; have n0_ := A_ (blk_kept (bq BK276) hkp (fun hs_ => (fun e_ => (Kd.R_ne HO285.out BK276.out (by decide)) e_) hs_)); have n1_ := A_ (Kd.R_mono (ok' := fun k_ => True) ho0 (fun k_ hk_ => trivial)); have n2_ := A_ (hb); clear BK276 HB HO285; have BK276 := n0_; have HO288 := n1_; have HB := n2_; clear n0_ n1_ n2_; clear hb hkp ho0; obtain ⟨Ao24, co24, eo24⟩ := Kd.R_slice HO288.out; (first | subst eo24 | (injection eo24 with f1_ f2_ f3_; have f4_ := f1_.symm; have f5_ := f3_.symm; clear f1_ f2_ f3_; subst f4_; subst f5_)); refine hK.out _ _ ⟨bc BK276 0, bc BK276 1⟩ (fun hHeld => ?_); clear hK K; refine nq_ (some 37) ?_; refine onT (i := 8) (N := some 41) HT_ #[true, true, true, true, true, true, true, true, true, false] (fun K hK => ?_); refine go_ Try.func61 #[.agg #[.int .i64 a0_0, .bool false], .slice Ao24 t286.length co24, .int .i64 (wrap64 (a0_0 - 1))] ?_; with_reducible refine (Q1.calls k a0_0 false (fun k_ => some k_ = (.slice Ao24 t286.length co24 : Value).ownBlock) (.slice Ao24 t286.length co24) t286 (wrap64 (a0_0 - 1)) t289 w _ ?side1 ?side2 A16.out).mono ?_
   (case side1 => repeat (first | (with_reducible first | exact HB.out | apply below_alloc | apply pw_below_drewN | apply below_drew1 | refine below_set ?_ GE276.out) | exact HB.out)); (case side2 => exact Kd.R_tight rfl HO288.out); rintro e w25 ⟨v290, rfl, ho0, hb, hkp⟩; refine ⟨_, rfl, ?_⟩; have n0_ := A_ (blk_kept (bq BK276) hkp (fun hs_ => (fun e_ => (Kd.R_ne HO288.out BK276.out (by decide)) e_) hs_)); have n1_ := A_ (Kd.R_mono (ok' := fun k_ => True) ho0 (fun k_ hk_ => trivial)); have n2_ := A_ (hb); clear BK276 HB HO288; have BK276 := n0_; have HO291 := n1_; have HB := n2_; clear n0_ n1_ n2_; clear hb hkp ho0; refine hK.out _ _ ⟨bc BK276 0, bc BK276 1⟩ (fun hHeld => ?_); clear hK K; refine nq_ (some 41) ?_; refine puT (i := 9) (N := some 4) HT_ #[true, true, true, true, true, true, true, true, true, true] ?_; refine done_ (done_of HT_.out (by kernel_rfl)) ?_; try go_wp2
   go_ret
   exact ⟨_, rt, rq HO291, hq HB⟩
  ·
   rw [if_neg c14] at H; have c14b0 := decide_eq_false c14; clear c14
   obtain ⟨y292, hy292⟩ : ∃ y_ : List Int, y_ = (([a1] : List Int)) := ⟨_, rfl⟩
   replace H : ((Q1.f k a0_0 false y292 (wrap64 (a0_0 - 1))).bind fun t295 => ((Q1.f k a0_0 false t295 0).bind fun t298 => (some t298))) = some r := by first | (rw [hy292]; with_reducible exact H) | (have H2_ := (Option.bind_some _ _).symm.trans H; rw [hy292]; with_reducible exact H2_) | (have H2_ := (Option.bind_some _ _).symm.trans H; with_reducible exact H2_) | with_reducible exact H | (rw [hy292]; exact H) | exact H
   have Ny292 := A_ hy292; clear hy292; replace H := bm H; obtain ⟨t295, A26, H⟩ := H; replace H := bm H; obtain ⟨t298, A27, H⟩ := H; obtain rfl := Option.some.inj H; go_enter Try.func33, Try.ntmps33
   try go_wp2_with (first | ((with_reducible refine gate_dst (N := 2) rfl ?_); refine bx (N := 2) #[.int .i64 a0_0, .bool false] 25 ?_; intro gb276 hg w28 hbox hb; have BK276 := A_ (hbox); have GW276 := A_ (bs hg (hq HB) : w.heap.size ≤ gb276); have GE276 := A_ (bs hg (hq HB) : w.heap.size ≤ gb276); replace HB := A_ (below_step (hq HB) hb); clear hb hbox hg; have hcz29_0 : w28.cell? ⟨gb276, 0, none⟩ = some (.int .i64 a0_0) := bc BK276 0; have hcz29_1 : w28.cell? ⟨gb276, 1, none⟩ = some (.bool false) := bc BK276 1; have hfz29_0 := blk_frozen BK276.out 0; have hfz29_1 := blk_frozen BK276.out 1))
   replace BK276 := A_ (blk_drew BK276.out); replace HB := A_ (below_drew1 HB.out); refine start_ (n := 10) (S := fun w' => w'.cell? ⟨gb276, 0, none⟩ = some (.int .i64 a0_0) ∧ w'.cell? ⟨gb276, 1, none⟩ = some (.bool false)) (ds := []) #[false, false, false, false, false, false, false, false, false, false] (by kernel_rfl) rfl rfl ⟨bc BK276 0, bc BK276 1⟩ (fun hHeld => ?_); refine with_tabW Q5.tab11 Q5.bits11 (fun HT_ HW_ => ?_); generalize w28.drew = w30 at BK276 HB hHeld ⊢; refine puT (i := 2) (N := some 44) HT_ #[false, false, true, false, false, false, false, false, false, false] ?_; refine puT (i := 4) (N := some 46) HT_ #[false, false, true, false, true, false, false, false, false, false] ?_; refine tkT (i := 0) (N := some 42) HT_ HW_ hHeld #[true, false, true, false, true, false, false, false, false, false] ?_; refine tkT (i := 1) (N := some 43) HT_ HW_ hHeld #[true, true, true, false, true, false, false, false, false, false] ?_; refine tkT (i := 5) (N := some 47) HT_ HW_ hHeld #[true, true, true, false, true, true, false, false, false, false] ?_; refine puT (i := 6) (N := some 48) HT_ #[true, true, true, false, true, true, true, false, false, false] ?_; refine onT (i := 3) (N := some 45) HT_ #[true, true, true, true, true, true, true, false, false, false] (fun K hK => ?_); refine Kd.R_lit_step (Kd.int .i64) _ 3 ?hg (N := 45) ?hd (xs := ([a1] : List Int)) (inner := [.int .i64 a1]) (ok := fun _ => True) (okp := fun _ => True) ?hr ?hp (fun _ hk => hk) trivial (Below.refl _ _) (Nat.le_refl _) (by simp) ?_; (case hd => rfl); (case hg => rfl); (case hr => first | (go_simp; done) | (go_simp; rfl)); (case hp => exact (Reps.one (show Kd.M (Kd.int .i64) _ _ _ a1 [.int .i64 a1] from rfl) (Reps.none _ _))); intro v293 w31 ho32 hb hg_ hnew_; clear hg_ hnew_; (first | rw [← Ny292.out] at ho32 | (simp only [Int.reduceToNat] at ho32; rw [← Ny292.out] at ho32)); have n0_ := A_ (Kd.R_lower ho32 (below_size (hq HB))); have n1_ := A_ (blk_below (bq BK276) hb); have n2_ := A_ (below_step (hq HB) hb); clear BK276 HB; have HO294 := n0_; have BK276 := n1_; have HB := n2_; clear n0_ n1_ n2_ hb ho32; obtain ⟨Ao33, co33, eo33⟩ := Kd.R_slice HO294.out; (first | subst eo33 | (injection eo33 with f1_ f2_ f3_; have f4_ := f1_.symm; have f5_ := f3_.symm; clear f1_ f2_ f3_; subst f4_; subst f5_)); refine hK.out _ _ ⟨bc BK276 0, bc BK276 1⟩ (fun hHeld => ?_); clear hK K; refine nq_ (some 45) ?_; refine onT (i := 7) (N := some 49) HT_ #[true, true, true, true, true, true, true, true, false, false] (fun K hK => ?_); refine go_ Try.func61 #[.agg #[.int .i64 a0_0, .bool false], .slice Ao33 y292.length co33, .int .i64 (wrap64 (a0_0 - 1))] ?_; with_reducible refine (Q1.calls k a0_0 false (fun k_ => some k_ = (.slice Ao33 y292.length co33 : Value).ownBlock) (.slice Ao33 y292.length co33) y292 (wrap64 (a0_0 - 1)) t295 w _ ?side1 ?side2 A26.out).mono ?_
   (case side1 => repeat (first | (with_reducible first | exact HB.out | apply below_alloc | apply pw_below_drewN | apply below_drew1 | refine below_set ?_ GE276.out) | exact HB.out)); (case side2 => exact Kd.R_tight rfl HO294.out); rintro e w34 ⟨v296, rfl, ho0, hb, hkp⟩; refine ⟨_, rfl, ?_⟩; have n0_ := A_ (blk_kept (bq BK276) hkp (fun hs_ => (fun e_ => (Kd.R_ne HO294.out BK276.out (by decide)) e_) hs_)); have n1_ := A_ (Kd.R_mono (ok' := fun k_ => True) ho0 (fun k_ hk_ => trivial)); have n2_ := A_ (hb); clear BK276 HB HO294; have BK276 := n0_; have HO297 := n1_; have HB := n2_; clear n0_ n1_ n2_; clear hb hkp ho0; obtain ⟨Ao35, co35, eo35⟩ := Kd.R_slice HO297.out; (first | subst eo35 | (injection eo35 with f1_ f2_ f3_; have f4_ := f1_.symm; have f5_ := f3_.symm; clear f1_ f2_ f3_; subst f4_; subst f5_)); refine hK.out _ _ ⟨bc BK276 0, bc BK276 1⟩ (fun hHeld => ?_); clear hK K; refine nq_ (some 49) ?_; refine onT (i := 8) (N := some 50) HT_ #[true, true, true, true, true, true, true, true, true, false] (fun K hK => ?_); refine go_ Try.func61 #[.agg #[.int .i64 a0_0, .bool false], .slice Ao35 t295.length co35, .int .i64 0] ?_; with_reducible refine (Q1.calls k a0_0 false (fun k_ => some k_ = (.slice Ao35 t295.length co35 : Value).ownBlock) (.slice Ao35 t295.length co35) t295 0 t298 w _ ?side1 ?side2 A27.out).mono ?_
   (case side1 => repeat (first | (with_reducible first | exact HB.out | apply below_alloc | apply pw_below_drewN | apply below_drew1 | refine below_set ?_ GE276.out) | exact HB.out)); (case side2 => exact Kd.R_tight rfl HO297.out); rintro e w36 ⟨v299, rfl, ho0, hb, hkp⟩; refine ⟨_, rfl, ?_⟩; have n0_ := A_ (blk_kept (bq BK276) hkp (fun hs_ => (fun e_ => (Kd.R_ne HO297.out BK276.out (by decide)) e_) hs_)); have n1_ := A_ (Kd.R_mono (ok' := fun k_ => True) ho0 (fun k_ hk_ => trivial)); have n2_ := A_ (hb); clear BK276 HB HO297; have BK276 := n0_; have HO300 := n1_; have HB := n2_; clear n0_ n1_ n2_; clear hb hkp ho0; refine hK.out _ _ ⟨bc BK276 0, bc BK276 1⟩ (fun hHeld => ?_); clear hK K; refine nq_ (some 50) ?_; refine puT (i := 9) (N := some 4) HT_ #[true, true, true, true, true, true, true, true, true, true] ?_; refine done_ (done_of HT_.out (by kernel_rfl)) ?_; try go_wp2
   go_ret
   exact ⟨_, rt, rq HO300, hq HB⟩

/-! ### impl_SweepWalk: function 9 -/
def Q48.f (k : Nat) (a0_0 : Int) (a0_1 : Bool) (a1 : Int) : Option (List Int × Bool) := (Q28.f a0_0 a0_1).bind fun t302 => (if t302 = true then ((Q10.f k a0_0 a0_1 (([a1] : List Int))).bind fun t306 => (if t306 = true then ((Q5.f k a0_0 a0_1 a1).bind fun t307 => (some (t307, true))) else (some (([] : List Int), false)))) else (some (([] : List Int), false)))
theorem Q48.mono : ∀ a0 a1 a2 k, LeO (Q48.f k a0 a1 a2) (Q48.f (k + 1) a0 a1 a2) := by
  intro a0 a1 a2 k
  unfold Q48.f
  repeat' first
      | (with_reducible exact Q10.mono _ _ _ _)
      | (with_reducible exact Q5.mono _ _ _ _)
      | (with_reducible exact LeO.refl _)
      | (with_reducible exact LeO.none _)
      | (with_reducible refine LeO.ite ?_ ?_)
      | (with_reducible refine LeO.bind ?_ (fun _ => ?_))
      | exact Q10.mono _ _ _ _
      | exact Q5.mono _ _ _ _
      | exact LeO.none _
      | refine LeO.ite ?_ ?_
      | refine LeO.bind ?_ (fun _ => ?_)
set_option maxHeartbeats 8000000 in
set_option maxRecDepth 100000 in
theorem Q48.calls (k : Nat) (a0_0 : Int) (a0_1 : Bool) (a1 : Int) (r1 : List Int) (r2 : Bool) (w : World) (h : Q48.f k a0_0 a0_1 a1 = some (r1, r2)) :
    Calls Try.prog 9 #[.agg #[.int .i64 a0_0, .bool a0_1], .int .i64 a1] w fun e w' => ∃ v0_ : Value, e = .returned (.tuple #[v0_, .bool r2]) ∧ Kd.R (Kd.int .i64) 3 w' w.heap.size (fun _ => True) v0_ r1 ∧ Below w.heap.size w w' := by
 have hu25 := Try.underlying25; have HB := A_ (Below.refl w.heap.size w); have H : ((Q28.f a0_0 a0_1).bind fun t302 => (if t302 = true then ((Q10.f k a0_0 a0_1 (([a1] : List Int))).bind fun t306 => (if t306 = true then ((Q5.f k a0_0 a0_1 a1).bind fun t307 => (some (t307, true))) else (some (([] : List Int), false)))) else (some (([] : List Int), false)))) = some (r1, r2) := h; clear h; replace H := bm H; obtain ⟨t302, A3, H⟩ := H; by_cases c4 : t302 = true
 ·
  subst c4
  have H1 : ((Q10.f k a0_0 a0_1 (([a1] : List Int))).bind fun t306 => (if t306 = true then ((Q5.f k a0_0 a0_1 a1).bind fun t307 => (some (t307, true))) else (some (([] : List Int), false)))) = some (r1, r2) := by rw [if_pos rfl] at H; exact H
  clear H; have H := H1; clear H1
  obtain ⟨y303, hy303⟩ : ∃ y_ : List Int, y_ = (([a1] : List Int)) := ⟨_, rfl⟩
  replace H : ((Q10.f k a0_0 a0_1 y303).bind fun t306 => (if t306 = true then ((Q5.f k a0_0 a0_1 a1).bind fun t307 => (some (t307, true))) else (some (([] : List Int), false)))) = some (r1, r2) := by first | (rw [hy303]; with_reducible exact H) | (have H2_ := (Option.bind_some _ _).symm.trans H; rw [hy303]; with_reducible exact H2_) | (have H2_ := (Option.bind_some _ _).symm.trans H; with_reducible exact H2_) | with_reducible exact H | (rw [hy303]; exact H) | exact H
  have Ny303 := A_ hy303; clear hy303; replace H := bm H; obtain ⟨t306, A5, H⟩ := H; by_cases c6 : t306 = true
  ·
   subst c6
   have H1 : ((Q5.f k a0_0 a0_1 a1).bind fun t307 => (some (t307, true))) = some (r1, r2) := by rw [if_pos rfl] at H; exact H
   clear H; have H := H1; clear H1; replace H := bm H; obtain ⟨t307, A7, H⟩ := H; simp only [Option.some.injEq, Prod.mk.injEq] at H
   obtain ⟨rfl, rfl⟩ := H; go_enter Try.func9, Try.ntmps9
   go_wp2_with (first | ((with_reducible refine gate_dst (N := 2) rfl ?_); (try (refine gate_guard (by rfl) ?_; dsimp only)); refine bx (N := 2) #[.int .i64 a0_0, .bool a0_1] 25 ?_; intro gb301 hg w8 hbox hb; have BK301 := A_ (hbox); have GW301 := A_ (bs hg (hq HB) : w.heap.size ≤ gb301); have GE301 := A_ (bs hg (hq HB) : w.heap.size ≤ gb301); replace HB := A_ (below_step (hq HB) hb); clear hb hbox hg; have hcz9_0 : w8.cell? ⟨gb301, 0, none⟩ = some (.int .i64 a0_0) := bc BK301 0; have hcz9_1 : w8.cell? ⟨gb301, 1, none⟩ = some (.bool a0_1) := bc BK301 1; have hfz9_0 := blk_frozen BK301.out 0; have hfz9_1 := blk_frozen BK301.out 1) | ((with_reducible refine gate_callee (f := 24) rfl ?_); refine gL (some 7) Try.func24 #[.agg #[.int .i64 a0_0, .bool a0_1]] ?_; (with_reducible refine (Q28.calls a0_0 a0_1 true _ A3.out).mono ?_); rintro e w10 ⟨rfl, hb⟩; refine ⟨_, rfl, ?_⟩; replace BK301 := A_ (blk_below (bq BK301) hb); replace HB := A_ (below_step (hq HB) hb); clear hb; have hcz11_0 : w10.cell? ⟨gb301, 0, none⟩ = some (.int .i64 a0_0) := bc BK301 0; have hcz11_1 : w10.cell? ⟨gb301, 1, none⟩ = some (.bool a0_1) := bc BK301 1; have hfz11_0 := blk_frozen BK301.out 0; have hfz11_1 := blk_frozen BK301.out 1) | ((with_reducible refine gate_dst (N := 12) rfl ?_); (try (refine gate_guard (by rfl) ?_; dsimp only)); refine Kd.R_lit (Kd.int .i64) _ 3 ?hg (N := 12) ?hd (xs := ([a1] : List Int)) (inner := [.int .i64 a1]) (ok := fun _ => True) (okp := fun _ => True) ?hr ?hp (fun _ hk => hk) trivial (Below.refl _ _) (Nat.le_refl _) (by simp) ?_; (case hd => rfl); (case hg => rfl); (case hr => first | (go_simp; done) | (go_simp; rfl)); (case hp => exact (Reps.one (show Kd.M (Kd.int .i64) _ _ _ a1 [.int .i64 a1] from rfl) (Reps.none _ _))); intro v304 w12 ho13 hb hg_ hnew_; clear hg_ hnew_; (first | rw [← Ny303.out] at ho13 | (simp only [Int.reduceToNat] at ho13; rw [← Ny303.out] at ho13)); have HO305 := A_ (Kd.R_lower ho13 (below_size (hq HB))); replace BK301 := A_ (blk_below (bq BK301) hb); replace HB := A_ (below_step (hq HB) hb); clear hb ho13; obtain ⟨Ao14, co14, eo14⟩ := Kd.R_slice HO305.out; subst eo14) | (go_at_call 25; (with_reducible refine (Q10.calls k a0_0 a0_1 _ _ y303 true _ ?side1 ?side2 A5.out).mono ?_); (case side1 => exact cq (Kd.R_reads' HO305.out).2.2); (case side2 => exact (Kd.R_reads' HO305.out).2.1); rintro e w15 ⟨rfl, hb⟩; replace HO305 := A_ (Kd.R_below (rq HO305) hb); replace BK301 := A_ (blk_below (bq BK301) hb); replace HB := A_ (below_step (hq HB) hb); clear hb; have hcz16_0 : w15.cell? ⟨gb301, 0, none⟩ = some (.int .i64 a0_0) := bc BK301 0; have hcz16_1 : w15.cell? ⟨gb301, 1, none⟩ = some (.bool a0_1) := bc BK301 1; have hfz16_0 := blk_frozen BK301.out 0; have hfz16_1 := blk_frozen BK301.out 1) | ((with_reducible refine gate_callee (f := 33) rfl ?_); refine gL (some 18) Try.func33 #[.agg #[.int .i64 a0_0, .bool a0_1], .int .i64 a1] ?_; (with_reducible refine (Q5.calls k a0_0 a0_1 a1 t307 _ A7.out).mono ?_); rintro e w17 ⟨v308, rfl, ho0, hb⟩; refine ⟨_, rfl, ?_⟩; have HO309 := A_ (Kd.R_lower (Kd.R_new' ho0 (Kd.R_lt (rq HO305))) (below_size (hq HB))); replace HO305 := A_ (Kd.R_elder' (rq HO305) (Kd.R_base ho0) hb); replace BK301 := A_ (blk_below (bq BK301) hb); replace HB := A_ (below_step (hq HB) hb); clear hb ho0))
   go_ret2
   exact ⟨_, rt, by (with_reducible repeat (first | apply Kd.R_alloc | apply Kd.R_drewN | apply Kd.R_drew)); exact Kd.R_mono HO309.out (fun _ hk => trivial), hq HB⟩
  ·
   replace c6 := Bool.eq_false_iff.mpr c6; subst c6
   have H1 : (some (([] : List Int), false)) = some (r1, r2) := by rw [if_neg (show ¬ (false = true) by decide)] at H; exact H
   clear H; have H := H1; clear H1; simp only [Option.some.injEq, Prod.mk.injEq] at H
   obtain ⟨rfl, rfl⟩ := H; go_enter Try.func9, Try.ntmps9
   go_wp2_with (first | ((with_reducible refine gate_dst (N := 2) rfl ?_); (try (refine gate_guard (by rfl) ?_; dsimp only)); refine bx (N := 2) #[.int .i64 a0_0, .bool a0_1] 25 ?_; intro gb301 hg w18 hbox hb; have BK301 := A_ (hbox); have GW301 := A_ (bs hg (hq HB) : w.heap.size ≤ gb301); have GE301 := A_ (bs hg (hq HB) : w.heap.size ≤ gb301); replace HB := A_ (below_step (hq HB) hb); clear hb hbox hg; have hcz19_0 : w18.cell? ⟨gb301, 0, none⟩ = some (.int .i64 a0_0) := bc BK301 0; have hcz19_1 : w18.cell? ⟨gb301, 1, none⟩ = some (.bool a0_1) := bc BK301 1; have hfz19_0 := blk_frozen BK301.out 0; have hfz19_1 := blk_frozen BK301.out 1) | ((with_reducible refine gate_callee (f := 24) rfl ?_); refine gL (some 7) Try.func24 #[.agg #[.int .i64 a0_0, .bool a0_1]] ?_; (with_reducible refine (Q28.calls a0_0 a0_1 true _ A3.out).mono ?_); rintro e w20 ⟨rfl, hb⟩; refine ⟨_, rfl, ?_⟩; replace BK301 := A_ (blk_below (bq BK301) hb); replace HB := A_ (below_step (hq HB) hb); clear hb; have hcz21_0 : w20.cell? ⟨gb301, 0, none⟩ = some (.int .i64 a0_0) := bc BK301 0; have hcz21_1 : w20.cell? ⟨gb301, 1, none⟩ = some (.bool a0_1) := bc BK301 1; have hfz21_0 := blk_frozen BK301.out 0; have hfz21_1 := blk_frozen BK301.out 1) | ((with_reducible refine gate_dst (N := 12) rfl ?_); (try (refine gate_guard (by rfl) ?_; dsimp only)); refine Kd.R_lit (Kd.int .i64) _ 3 ?hg (N := 12) ?hd (xs := ([a1] : List Int)) (inner := [.int .i64 a1]) (ok := fun _ => True) (okp := fun _ => True) ?hr ?hp (fun _ hk => hk) trivial (Below.refl _ _) (Nat.le_refl _) (by simp) ?_; (case hd => rfl); (case hg => rfl); (case hr => first | (go_simp; done) | (go_simp; rfl)); (case hp => exact (Reps.one (show Kd.M (Kd.int .i64) _ _ _ a1 [.int .i64 a1] from rfl) (Reps.none _ _))); intro v304 w22 ho23 hb hg_ hnew_; clear hg_ hnew_; (first | rw [← Ny303.out] at ho23 | (simp only [Int.reduceToNat] at ho23; rw [← Ny303.out] at ho23)); have HO305 := A_ (Kd.R_lower ho23 (below_size (hq HB))); replace BK301 := A_ (blk_below (bq BK301) hb); replace HB := A_ (below_step (hq HB) hb); clear hb ho23; obtain ⟨Ao24, co24, eo24⟩ := Kd.R_slice HO305.out; subst eo24) | (go_at_call 25; (with_reducible refine (Q10.calls k a0_0 a0_1 _ _ y303 false _ ?side1 ?side2 A5.out).mono ?_); (case side1 => exact cq (Kd.R_reads' HO305.out).2.2); (case side2 => exact (Kd.R_reads' HO305.out).2.1); rintro e w25 ⟨rfl, hb⟩; replace HO305 := A_ (Kd.R_below (rq HO305) hb); replace BK301 := A_ (blk_below (bq BK301) hb); replace HB := A_ (below_step (hq HB) hb); clear hb))
   go_ret2
   exact ⟨_, rt, by first | exact Kd.R_nil _ _ _ _ _ | exact Kd.N_nil _ _ _ _ _ | exact Kd.V_nil _ _ _ _ _ | exact Kd.Q_nil _ _ _ _ _ | exact Kd.S_nil _ _ _ _ _, hq HB⟩
 ·
  replace c4 := Bool.eq_false_iff.mpr c4; subst c4
  have H1 : (some (([] : List Int), false)) = some (r1, r2) := by rw [if_neg (show ¬ (false = true) by decide)] at H; exact H
  clear H; have H := H1; clear H1; simp only [Option.some.injEq, Prod.mk.injEq] at H
  obtain ⟨rfl, rfl⟩ := H; go_enter Try.func9, Try.ntmps9
  go_wp2_with (first | ((with_reducible refine gate_dst (N := 2) rfl ?_); (try (refine gate_guard (by rfl) ?_; dsimp only)); refine bx (N := 2) #[.int .i64 a0_0, .bool a0_1] 25 ?_; intro gb301 hg w26 hbox hb; have BK301 := A_ (hbox); have GW301 := A_ (bs hg (hq HB) : w.heap.size ≤ gb301); have GE301 := A_ (bs hg (hq HB) : w.heap.size ≤ gb301); replace HB := A_ (below_step (hq HB) hb); clear hb hbox hg; have hcz27_0 : w26.cell? ⟨gb301, 0, none⟩ = some (.int .i64 a0_0) := bc BK301 0; have hcz27_1 : w26.cell? ⟨gb301, 1, none⟩ = some (.bool a0_1) := bc BK301 1; have hfz27_0 := blk_frozen BK301.out 0; have hfz27_1 := blk_frozen BK301.out 1) | ((with_reducible refine gate_callee (f := 24) rfl ?_); refine gL (some 7) Try.func24 #[.agg #[.int .i64 a0_0, .bool a0_1]] ?_; (with_reducible refine (Q28.calls a0_0 a0_1 false _ A3.out).mono ?_); rintro e w28 ⟨rfl, hb⟩; refine ⟨_, rfl, ?_⟩; replace BK301 := A_ (blk_below (bq BK301) hb); replace HB := A_ (below_step (hq HB) hb); clear hb))
  go_ret2
  exact ⟨_, rt, by first | exact Kd.R_nil _ _ _ _ _ | exact Kd.N_nil _ _ _ _ _ | exact Kd.V_nil _ _ _ _ _ | exact Kd.Q_nil _ _ _ _ _ | exact Kd.S_nil _ _ _ _ _, hq HB⟩

/-! ### spec_l2Step: function 62 -/
def Q41.f (a0_0 : Int) (a0_1 : Bool) (a1 : Int) (a2 : Int) : Option (Int) := if a0_1 = true then (if a0_0 = 0 then (none) else (some (Int.tmod (wrap64 ((wrap64 (a1 + a2)) + a0_0)) a0_0))) else ((Q31.f (wrap64 (a1 + a2)) (wrap64 (a0_0 - 1))).bind fun t311 => ((Q30.f t311 0).bind fun t312 => (some t312)))
set_option maxHeartbeats 8000000 in
set_option maxRecDepth 100000 in
theorem Q41.calls (a0_0 : Int) (a0_1 : Bool) (a1 : Int) (a2 : Int) (r : Int) (w : World) (h : Q41.f a0_0 a0_1 a1 a2 = some r) :
    Calls Try.prog 62 #[.agg #[.int .i64 a0_0, .bool a0_1], .int .i64 a1, .int .i64 a2] w fun e w' => e = .returned (.int .i64 r) ∧ Below w.heap.size w w' := by
 have hu25 := Try.underlying25; have HB := A_ (Below.refl w.heap.size w); have H : (if a0_1 = true then (if a0_0 = 0 then (none) else (some (Int.tmod (wrap64 ((wrap64 (a1 + a2)) + a0_0)) a0_0))) else ((Q31.f (wrap64 (a1 + a2)) (wrap64 (a0_0 - 1))).bind fun t311 => ((Q30.f t311 0).bind fun t312 => (some t312)))) = some r := h; clear h; by_cases c4 : a0_1 = true
 ·
  subst c4
  have H1 : (if a0_0 = 0 then (none) else (some (Int.tmod (wrap64 ((wrap64 (a1 + a2)) + a0_0)) a0_0))) = some r := by rw [if_pos rfl] at H; exact H
  clear H; have H := H1; clear H1; by_cases c5 : a0_0 = 0
  ·
   rw [if_pos c5] at H; exact absurd H (by simp)
  ·
   rw [if_neg c5] at H; have c5b0 : (a0_0 == 0) = false := beq_eq_false_iff_ne.mpr c5; have c5b1 : (a0_0 != 0) = true := bne_iff_ne.mpr c5; obtain rfl := Option.some.inj H; go_enter Try.func62, Try.ntmps62
   go_wp2_with (first | ((with_reducible refine gate_dst (N := 3) rfl ?_); refine bx (N := 3) #[.int .i64 a0_0, .bool true] 25 ?_; intro gb310 hg w6 hbox hb; have BK310 := A_ (hbox); have GW310 := A_ (bs hg (hq HB) : w.heap.size ≤ gb310); have GE310 := A_ (bs hg (hq HB) : w.heap.size ≤ gb310); replace HB := A_ (below_step (hq HB) hb); clear hb hbox hg; have hcz7_0 : w6.cell? ⟨gb310, 0, none⟩ = some (.int .i64 a0_0) := bc BK310 0; have hcz7_1 : w6.cell? ⟨gb310, 1, none⟩ = some (.bool true) := bc BK310 1; have hfz7_0 := blk_frozen BK310.out 0; have hfz7_1 := blk_frozen BK310.out 1))
   go_ret
   exact ⟨rt, hq HB⟩
 ·
  replace c4 := Bool.eq_false_iff.mpr c4; subst c4
  have H1 : ((Q31.f (wrap64 (a1 + a2)) (wrap64 (a0_0 - 1))).bind fun t311 => ((Q30.f t311 0).bind fun t312 => (some t312))) = some r := by rw [if_neg (show ¬ (false = true) by decide)] at H; exact H
  clear H; have H := H1; clear H1; replace H := bm H; obtain ⟨t311, A8, H⟩ := H; replace H := bm H; obtain ⟨t312, A9, H⟩ := H; obtain rfl := Option.some.inj H; go_enter Try.func62, Try.ntmps62
  go_wp2_with (first | ((with_reducible refine gate_dst (N := 3) rfl ?_); refine bx (N := 3) #[.int .i64 a0_0, .bool false] 25 ?_; intro gb310 hg w10 hbox hb; have BK310 := A_ (hbox); have GW310 := A_ (bs hg (hq HB) : w.heap.size ≤ gb310); have GE310 := A_ (bs hg (hq HB) : w.heap.size ≤ gb310); replace HB := A_ (below_step (hq HB) hb); clear hb hbox hg; have hcz11_0 : w10.cell? ⟨gb310, 0, none⟩ = some (.int .i64 a0_0) := bc BK310 0; have hcz11_1 : w10.cell? ⟨gb310, 1, none⟩ = some (.bool false) := bc BK310 1; have hfz11_0 := blk_frozen BK310.out 0; have hfz11_1 := blk_frozen BK310.out 1) | ((with_reducible refine gate_callee (f := 31) rfl ?_); refine gL (some 24) Try.func31 #[.int .i64 (wrap64 (a1 + a2)), .int .i64 (wrap64 (a0_0 - 1))] ?_; (with_reducible refine (Q31.calls (wrap64 (a1 + a2)) (wrap64 (a0_0 - 1)) t311 _ A8.out).mono ?_); rintro e w' ⟨rfl, ⟨nd, rfl⟩⟩; refine ⟨_, rfl, ?_⟩) | ((with_reducible refine gate_callee (f := 28) rfl ?_); refine gL (some 25) Try.func28 #[.int .i64 t311, .int .i64 0] ?_; (with_reducible refine (Q30.calls t311 0 t312 _ A9.out).mono ?_); rintro e w' ⟨rfl, ⟨nd, rfl⟩⟩; refine ⟨_, rfl, ?_⟩))
  go_ret
  exact ⟨rt, hq HB⟩

/-! ### spec_l2Go: function 34 -/
def Q4.l0 : Nat → Int → Int → Int → List Int → Int → Int → Bool → Option (List Int)
  | 0, _, _, _, _, _, _, _ => none
  | k + 1, x1, x2, x3, x9, x10, x314000, x314001 => if x10 < x3 then ((Q41.f x314000 x314001 x1 x2).bind fun t317 => (if x9.length < 17592186044416 then (Q4.l0 k t317 x2 x3 (x9 ++ [t317]) (wrap64 (x10 + 1)) x314000 x314001) else (none))) else (some x9)
def Q4.f (k : Nat) (a0_0 : Int) (a0_1 : Bool) (a1 : Int) (a2 : Int) (a3 : Int) : Option (List Int) := Q4.l0 k a1 a2 a3 (([a1] : List Int)) 0 a0_0 a0_1
theorem Q4.mono_l : ∀ k, (∀ y0 y1 y2 y3 y4 y5 y6, LeO (Q4.l0 k y0 y1 y2 y3 y4 y5 y6) (Q4.l0 (k + 1) y0 y1 y2 y3 y4 y5 y6))
  | 0 => fun _ _ _ _ _ _ _ r h => by simp [Q4.l0] at h
  | k + 1 => by
    have ih0 := Q4.mono_l k
    · intro y0 y1 y2 y3 y4 y5 y6
      unfold Q4.l0
      repeat' first
      | (with_reducible exact ih0 _ _ _ _ _ _ _)
      | (with_reducible exact LeO.refl _)
      | (with_reducible exact LeO.none _)
      | (with_reducible refine LeO.ite ?_ ?_)
      | (with_reducible refine LeO.bind ?_ (fun _ => ?_))
      | exact ih0 _ _ _ _ _ _ _
      | exact LeO.none _
      | refine LeO.ite ?_ ?_
      | refine LeO.bind ?_ (fun _ => ?_)
theorem Q4.mono : ∀ a0 a1 a2 a3 a4 k, LeO (Q4.f k a0 a1 a2 a3 a4) (Q4.f (k + 1) a0 a1 a2 a3 a4) := by
  intro a0 a1 a2 a3 a4 k
  have ih0 := Q4.mono_l k
  unfold Q4.f
  repeat' first
      | (with_reducible exact ih0 _ _ _ _ _ _ _)
      | (with_reducible exact LeO.refl _)
      | (with_reducible exact LeO.none _)
      | (with_reducible refine LeO.ite ?_ ?_)
      | (with_reducible refine LeO.bind ?_ (fun _ => ?_))
      | exact ih0 _ _ _ _ _ _ _
      | exact LeO.none _
      | refine LeO.ite ?_ ?_
      | refine LeO.bind ?_ (fun _ => ?_)
set_option maxHeartbeats 8000000 in
set_option maxRecDepth 100000 in
theorem Q4.calls (k : Nat) (a0_0 : Int) (a0_1 : Bool) (a1 : Int) (a2 : Int) (a3 : Int) (r : List Int) (w : World) (h : Q4.f k a0_0 a0_1 a1 a2 a3 = some r) :
    Calls Try.prog 34 #[.agg #[.int .i64 a0_0, .bool a0_1], .int .i64 a1, .int .i64 a2, .int .i64 a3] w fun e w' => ∃ v0_ : Value, e = .returned (v0_) ∧ Kd.R (Kd.int .i64) 3 w' w.heap.size (fun _ => True) v0_ r ∧ Below w.heap.size w w' := by
 have hu25 := Try.underlying25; have HB := A_ (Below.refl w.heap.size w); have H : (Q4.l0 k a1 a2 a3 (([a1] : List Int)) 0 a0_0 a0_1) = some r := h; clear h
 obtain ⟨y314, hy314⟩ : ∃ y_ : List Int, y_ = (([a1] : List Int)) := ⟨_, rfl⟩
 replace H : (Q4.l0 k a1 a2 a3 y314 0 a0_0 a0_1) = some r := by first | (rw [hy314]; with_reducible exact H) | (have H2_ := (Option.bind_some _ _).symm.trans H; rw [hy314]; with_reducible exact H2_) | (have H2_ := (Option.bind_some _ _).symm.trans H; with_reducible exact H2_) | with_reducible exact H | (rw [hy314]; exact H) | exact H
 have Ny314 := A_ hy314; clear hy314; have H' := A_ H; clear H; go_enter Try.func34, Try.ntmps34
 go_wp2_with (first | ((with_reducible refine gate_dst (N := 4) rfl ?_); refine bx (N := 4) #[.int .i64 a0_0, .bool a0_1] 25 ?_; intro gb313 hg w5 hbox hb; have BK313 := A_ (hbox); have GW313 := A_ (bs hg (hq HB) : w.heap.size ≤ gb313); have GE313 := A_ (bs hg (hq HB) : w.heap.size ≤ gb313); replace HB := A_ (below_step (hq HB) hb); clear hb hbox hg) | ((with_reducible refine gate_dst (N := 12) rfl ?_); refine Kd.R_lit (Kd.int .i64) _ 3 ?hg (N := 12) ?hd (xs := ([a1] : List Int)) (inner := [.int .i64 a1]) (ok := fun _ => True) (okp := fun _ => True) ?hr ?hp (fun _ hk => hk) trivial (Below.refl _ _) (Nat.le_refl _) (by simp) ?_; (case hd => rfl); (case hg => rfl); (case hr => first | (go_simp; done) | (go_simp; rfl)); (case hp => exact (Reps.one (show Kd.M (Kd.int .i64) _ _ _ a1 [.int .i64 a1] from rfl) (Reps.none _ _))); intro v315 w6 ho7 hb hg_ hnew_; clear hg_ hnew_; (first | rw [← Ny314.out] at ho7 | (simp only [Int.reduceToNat] at ho7; rw [← Ny314.out] at ho7)); have HO316 := A_ (Kd.R_lower ho7 (below_size (hq HB))); replace BK313 := A_ (blk_below (bq BK313) hb); replace HB := A_ (below_step (hq HB) hb); clear hb ho7))
 go_loopg [1, 9, 10] k (fun kq v1 v9 v10 w' => ∃ (x1_1 : Int) (x9_1 : List Int) (x10_1 : Int), v1 = .int .i64 x1_1 ∧ v10 = .int .i64 x10_1 ∧ Aside0 (Q4.l0 kq x1_1 a2 a3 x9_1 x10_1 a0_0 a0_1 = some r) ∧ Aside0 (kq ≤ k) ∧ Aside0 (Kd.R (Kd.int .i64) 3 w' w.heap.size (fun _ => True) v9 x9_1) ∧ Aside0 (w'.heap[gb313]? = some (.cells #[.int .i64 a0_0, .bool a0_1] 25 (0, 0))) ∧ Aside0 (Below w.heap.size w w'))
 case atStart => exact ⟨(a1), (y314), (0), rf, rf, H', ⟨Nat.le_refl _⟩, ⟨rq HO316⟩, ⟨bq BK313⟩, ⟨hq HB⟩⟩
 case round =>
  clear H'; obtain ⟨x1_1, x9_1, x10_1, rfl, rfl, HA, HK1, HO_9, BK313, HB⟩ := hrel
  cases gk with
  | zero => exact absurd HA.out (by simp [Q4.l0])
  | succ k1 =>
   have H := HA.out; clear HA; simp only [Q4.l0] at H
   by_cases c8 : x10_1 < a3
   ·
    rw [if_pos c8] at H; have c8b0 := decide_eq_true c8; clear c8; replace H := bm H; obtain ⟨t317, A9, H⟩ := H; by_cases c10 : x9_1.length < 17592186044416
    ·
     rw [if_pos c10] at H; have LMc10 := A_ c10; clear c10
     obtain ⟨y318, hy318⟩ : ∃ y_ : List Int, y_ = (x9_1 ++ [t317]) := ⟨_, rfl⟩
     replace H : (Q4.l0 k1 t317 a2 a3 y318 (wrap64 (x10_1 + 1)) a0_0 a0_1) = some r := by first | (rw [hy318]; with_reducible exact H) | (have H2_ := (Option.bind_some _ _).symm.trans H; rw [hy318]; with_reducible exact H2_) | (have H2_ := (Option.bind_some _ _).symm.trans H; with_reducible exact H2_) | with_reducible exact H | (rw [hy318]; exact H) | exact H
     have Ny318 := A_ hy318; clear hy318; have H' := A_ H; clear H; have hcz11_0 : wr.cell? ⟨gb313, 0, none⟩ = some (.int .i64 a0_0) := bc BK313 0; have hcz11_1 : wr.cell? ⟨gb313, 1, none⟩ = some (.bool a0_1) := bc BK313 1; have hfz11_0 := blk_frozen BK313.out 0; have hfz11_1 := blk_frozen BK313.out 1; go_wp2_with (first | ((with_reducible refine gate_callee (f := 62) rfl ?_); refine gL (some 21) Try.func62 #[.agg #[.int .i64 a0_0, .bool a0_1], .int .i64 x1_1, .int .i64 a2] ?_; (with_reducible refine (Q41.calls a0_0 a0_1 x1_1 a2 t317 _ A9.out).mono ?_); rintro e w12 ⟨rfl, hb⟩; refine ⟨_, rfl, ?_⟩; replace HO_9 := A_ (Kd.R_below (rq HO_9) hb); replace BK313 := A_ (blk_below (bq BK313) hb); replace HB := A_ (below_step (hq HB) hb); clear hb) | ((with_reducible refine gate_builtin (b := .append) (xs := #[.tmp 22, .tmp 24]) rfl ?_); at_builtin; refine Kd.R_append (Kd.int .i64) (w0 := w) w.heap.size rfl (.tmp 22) (.tmp 24) 26 3 (.int .i64 0) 8 rfl Try.underlying26 info3 rfl (by decide) (by omega) u9 x9_1 t317 [.int .i64 t317] (fun _ => True) (fun _ => False) rfl rfl ?aP (fun _ hk => hk.elim) ?aF ?aO ?aB ?aS ?aL ?_; (case aP => exact rfl); (case aB => exact (hq HB)); (case aF => exact (fun _ _ => trivial)); (case aO => exact (rq HO_9)); (case aS => exact (below_size (hq HB))); (case aL => have := LMc10.out; omega); intro v319 w13 ho hb hg hat; rw [← Ny318.out] at ho; have n0_ := A_ (blk_grown (g := gb313) (o := .cells #[.int .i64 a0_0, .bool a0_1] 25 (0, 0)) (bq BK313) hg (Kd.R_ne HO_9.out BK313.out (by decide))); have n1_ := A_ (hb); have n2_ := A_ (ho); clear BK313; clear HB; clear HO_9; have BK313 := n0_; have HB := n1_; have HO320 := n2_; clear n0_ n1_ n2_; clear ho hb hg hat))
     go_roundg k1
     case measure => have := HK1.out; omega
     case rel => exact ⟨(t317), (y318), (wrap64 (x10_1 + 1)), rf, rf, H', ⟨by have := HK1.out; omega⟩, ⟨rq HO320⟩, ⟨bq BK313⟩, ⟨hq HB⟩⟩
    ·
     rw [if_neg c10] at H; exact absurd H (by simp)
   ·
    rw [if_neg c8] at H; have c8b0 := decide_eq_false c8; clear c8; obtain rfl := Option.some.inj H; go_wp2
    go_ret
    exact ⟨_, rt, rq HO_9, hq HB⟩

end Go.Proofs.Ytbjpfnpleajhgad.PFnTours
