-- Told shorter still by shrink2.py.
-- Printed, and told shorter by this session's program shrink.py.
-- Printed by this session's program myprint.py.
import Derived.Test.YtbjpfnpleajhgadPFnToursx0
import Derived.Test.YtbjpfnpleajhgadPFnToursx1
namespace Go.Proofs.Ytbjpfnpleajhgad.PFnTours
open Go.RowKit Go.Proofs.Ytbjpfnpleajhgad.Own Go.Proofs.YtbjpfnpleajhgadW.PrintWords Go.Proofs.YtbjpfnpleajhgadW.PrintLast Go.Proofs.YtbjpfnpleajhgadW.PrintMore
attribute [local go_sem] max2_int min2_int max_two min_two max_three min_three max_four min_four   -- for this text's walks alone
set_option linter.unusedVariables false
set_option linter.unusedSimpArgs false

/-! ### spec_DrawTourTime: function 5 -/
def Q21.l0 : Nat → List Int → Int → List Int → Int → Int → Int → Bool → Option (Int × Bool × Int × List Int)
  | 0, _, _, _, _, _, _, _ => none
  | k + 1, x7, x8, x171000, x171001, x171002, x176000, x176001 => if x8 > 0 then ((Q39.f x171000 x171001 x171002 x176000 x176001).bind fun bt185 => (if x7.length < 17592186044416 then (Q21.l0 k (x7 ++ [bt185.1]) (wrap64 (x8 - 1)) x171000 bt185.2.1 bt185.2.2 x176000 x176001) else (none))) else ((Q39.f x171000 x171001 x171002 x176000 x176001).bind fun bt191 => (some (x176000, x176001, bt191.1, x7)))
def Q21.f (k : Nat) (l0 : List Int) : Option (Int × Bool × Int × List Int) := (Q35.f l0 0 0).bind fun bt171 => ((Q9.f l0 bt171.2.2.1 bt171.2.2.2 (([2, 3, 1, 0, 5] : List Int))).bind fun bt182 => (Q21.l0 k (([] : List Int)) bt182.1 l0 bt182.2.1 bt182.2.2 bt171.1 bt171.2.1))
def Q21.T8 : Bool × List (List Nat × List Nat) := (true, [([], []), ([], []), ([], []), ([1, 2], [1, 2]), ([], []), ([0, 3, 0], [0]), ([3, 5, 0, 1, 2, 3, 5], [3]), ([4, 6, 0, 1, 2, 3, 4, 5, 6], [4])])
def Q21.B8 : List Nat := [0, 0, 0, 6, 0, 15, 47, 127]
theorem Q21.tab8 : rtab .any (opsOf Try.f5 8) = Q21.T8 := by kernel_rfl
theorem Q21.bits8 : waitsOk Q21.T8.2 Q21.B8 = true := by kernel_rfl
set_option maxHeartbeats 8000000 in
set_option maxRecDepth 100000 in
theorem Q21.calls (k : Nat) (A0 : Option Addr) (c0 : Nat) (l0 : List Int) (r1 : Int) (r2 : Bool) (r3 : Int) (r4 : List Int) (w : World) (hr0 : Kd.C (Kd.int .u8) w A0 l0.length l0) (hc0 : l0.length ≤ c0) (h : Q21.f k l0 = some (r1, r2, r3, r4)) :
    Calls Try.prog 5 #[.slice A0 l0.length c0] w fun e w' => ∃ v3_ : Value, e = .returned (.tuple #[.agg #[.int .i64 r1, .bool r2], .int .i64 r3, v3_]) ∧ Kd.R (Kd.int .i64) 3 w' w.heap.size (fun _ => True) v3_ r4 ∧ Below w.heap.size w w' := by
 have hu25 := Try.underlying25; have hu47 := Try.underlying47; have HR0 := A_ hr0; have HC0 := A_ hc0; clear hr0 hc0; have HB := A_ (Below.refl w.heap.size w); have H : ((Q35.f l0 0 0).bind fun bt171 => ((Q9.f l0 bt171.2.2.1 bt171.2.2.2 (([2, 3, 1, 0, 5] : List Int))).bind fun bt182 => (Q21.l0 k (([] : List Int)) bt182.1 l0 bt182.2.1 bt182.2.2 bt171.1 bt171.2.1))) = some (r1, r2, r3, r4) := h; clear h; replace H := bm H; obtain ⟨⟨t171, t172, t173, t174⟩, A2, H⟩ := H; (try dsimp only at H)
 obtain ⟨y176, hy176⟩ : ∃ y_ : List Int, y_ = (([] : List Int)) := ⟨_, rfl⟩
 replace H : ((Q9.f l0 t173 t174 (([2, 3, 1, 0, 5] : List Int))).bind fun bt182 => (Q21.l0 k y176 bt182.1 l0 bt182.2.1 bt182.2.2 t171 t172)) = some (r1, r2, r3, r4) := by first | (rw [hy176]; with_reducible exact H) | (have H2_ := (Option.bind_some _ _).symm.trans H; rw [hy176]; with_reducible exact H2_) | (have H2_ := (Option.bind_some _ _).symm.trans H; with_reducible exact H2_) | with_reducible exact H | (rw [hy176]; exact H) | exact H
 have Ny176 := A_ hy176; clear hy176
 obtain ⟨y179, hy179⟩ : ∃ y_ : List Int, y_ = (([2, 3, 1, 0, 5] : List Int)) := ⟨_, rfl⟩
 replace H : ((Q9.f l0 t173 t174 y179).bind fun bt182 => (Q21.l0 k y176 bt182.1 l0 bt182.2.1 bt182.2.2 t171 t172)) = some (r1, r2, r3, r4) := by first | (rw [hy179]; with_reducible exact H) | (have H2_ := (Option.bind_some _ _).symm.trans H; rw [hy179]; with_reducible exact H2_) | (have H2_ := (Option.bind_some _ _).symm.trans H; with_reducible exact H2_) | with_reducible exact H | (rw [hy179]; exact H) | exact H
 have Ny179 := A_ hy179; clear hy179; replace H := bm H; obtain ⟨⟨t182, t183, t184⟩, A3, H⟩ := H; (try dsimp only at H); have H' := A_ H; clear H; go_enter Try.func5, Try.ntmps5
 go_wp2_with (first | ((with_reducible refine gate_dst (N := 2) rfl ?_); refine bx (N := 2) #[.int .i64 0, .bool false] 25 ?_; intro gb169 hg w4 hbox hb; have BK169 := A_ (hbox); have GW169 := A_ (bs hg (hq HB) : w.heap.size ≤ gb169); have GE169 := A_ (bs hg (hq HB) : w.heap.size ≤ gb169); replace HB := A_ (below_step (hq HB) hb); clear hb hbox hg) | ((with_reducible refine gate_dst (N := 11) rfl ?_); refine bx (N := 11) #[.slice A0 l0.length c0, .int .i64 0, .int .u64 0] 47 ?_; intro gb170 hg w5 hbox hb; have GW170 := A_ (bs hg (hq HB) : w.heap.size ≤ gb170); have GE170 := A_ (bs hg (hq HB) : w.heap.size ≤ gb170); have NB169_170 := A_ ((by rw [hg]; exact Nat.ne_of_lt (blk_lt (bq BK169)) : gb169 ≠ gb170)); have NB170_169 := A_ ((by rw [hg]; exact Nat.ne_of_gt (blk_lt (bq BK169)) : gb170 ≠ gb169)); replace BK169 := A_ (blk_below (bq BK169) hb); have HI170 := A_ ((⟨_, _, hbox, by rw [hg]; exact (below_size (hq HB)), HR0.out⟩ : IsS47 w w5 gb170 l0 0 0)); replace HB := A_ (below_step (hq HB) hb); clear hb hbox hg) | ((with_reducible refine gate_callee (f := 21) rfl ?_); refine gL (some 13) Try.func21 #[.pointer (some ⟨gb170, 0, none⟩)] ?_; (with_reducible refine (Q35.calls gb170 l0 0 0 t171 t172 t173 t174 w _ ?side1 ?side2 A2.out).mono ?_); (case side1 => repeat (first | (with_reducible first | exact HI170.out | apply IsS47.alloc | apply IsS47.drewN | apply IsS47.drew | apply IsS47.set_1 | apply IsS47.set_2 | refine IsS47.far ?_ NB170_169.out _) | exact HI170.out)); (case side2 => repeat (first | (with_reducible first | exact HB.out | apply below_alloc | apply pw_below_drewN | apply below_drew1 | refine below_set ?_ (IsS47.ge HI170.out) | refine below_set ?_ GE169.out) | exact HB.out)); rintro e w6 ⟨rfl, hi, hb, hk⟩; refine ⟨_, rfl, ?_⟩; replace BK169 := A_ (KeepBut.blk hk (g' := gb169) (o := .cells #[.int .i64 0, .bool false] 25 (0, 0)) (bq BK169) NB169_170.out (by simp)); replace HB := A_ (hb); replace HI170 := A_ (hi); clear hb hk hi) | ((with_reducible refine gate_dst (N := 6) rfl ?_); refine bx (N := 6) #[.int .i64 0, .bool false] 25 ?_; intro gb175 hg w7 hbox hb; have BK175 := A_ (hbox); have GW175 := A_ ((by rw [hg]; exact (below_size (by repeat (first | (with_reducible first | exact HB.out | apply below_alloc | apply pw_below_drewN | apply below_drew1 | refine below_set ?_ (IsS47.ge HI170.out) | refine below_set ?_ GE169.out) | exact HB.out))) : w.heap.size ≤ gb175)); have GE175 := A_ ((by rw [hg]; exact (below_size (by repeat (first | (with_reducible first | exact HB.out | apply below_alloc | apply pw_below_drewN | apply below_drew1 | refine below_set ?_ (IsS47.ge HI170.out) | refine below_set ?_ GE169.out) | exact HB.out))) : w.heap.size ≤ gb175)); replace HB := A_ (below_step (by repeat (first | (with_reducible first | exact HB.out | apply below_alloc | apply pw_below_drewN | apply below_drew1 | refine below_set ?_ (IsS47.ge HI170.out) | refine below_set ?_ GE169.out) | exact HB.out)) hb); have NB169_175 := A_ ((by rw [hg]; exact Nat.ne_of_lt (blk_lt (bq BK169)) : gb169 ≠ gb175)); have NB175_169 := A_ ((by rw [hg]; exact Nat.ne_of_gt (blk_lt (bq BK169)) : gb175 ≠ gb169)); replace BK169 := A_ (blk_below (bq BK169) hb); have NB170_175 := A_ ((by rw [hg]; exact Nat.ne_of_lt (IsS47.lt (show IsS47 w _ gb170 l0 t173 t174 from by repeat (first | (with_reducible first | exact HI170.out | apply IsS47.alloc | apply IsS47.drewN | apply IsS47.drew | apply IsS47.set_1 | apply IsS47.set_2 | refine IsS47.far ?_ NB170_169.out _) | exact HI170.out))) : gb170 ≠ gb175)); have NB175_170 := A_ ((by rw [hg]; exact Nat.ne_of_gt (IsS47.lt (show IsS47 w _ gb170 l0 t173 t174 from by repeat (first | (with_reducible first | exact HI170.out | apply IsS47.alloc | apply IsS47.drewN | apply IsS47.drew | apply IsS47.set_1 | apply IsS47.set_2 | refine IsS47.far ?_ NB170_169.out _) | exact HI170.out))) : gb175 ≠ gb170)); replace HI170 := A_ (IsS47.below (by repeat (first | (with_reducible first | exact HI170.out | apply IsS47.alloc | apply IsS47.drewN | apply IsS47.drew | apply IsS47.set_1 | apply IsS47.set_2 | refine IsS47.far ?_ NB170_169.out _) | exact HI170.out)) hb); clear hb hbox hg; have hnb8 := NB175_169.out; have hnc8 := NB169_175.out; have hnb9 := NB175_170.out; have hnc9 := NB170_175.out; have hcz10_0 : w7.cell? ⟨gb175, 0, none⟩ = some (.int .i64 0) := bc BK175 0; have hcz10_1 : w7.cell? ⟨gb175, 1, none⟩ = some (.bool false) := bc BK175 1; have hfz10_0 := blk_frozen BK175.out 0; have hfz10_1 := blk_frozen BK175.out 1) | ((with_reducible refine gate_dst (N := 14) rfl ?_); refine Kd.R_lit (Kd.int .i64) _ 3 ?hg (N := 14) ?hd (xs := ([] : List Int)) (inner := []) (ok := fun _ => True) (okp := fun _ => True) ?hr ?hp (fun _ hk => hk) trivial (Below.refl _ _) (Nat.le_refl _) (by simp) ?_; (case hd => rfl); (case hg => rfl); (case hr => first | (go_simp; done) | (go_simp; rfl)); (case hp => exact (Reps.none _ _)); intro v177 w11 ho12 hb hg_ hnew_; clear hg_ hnew_; (first | rw [← Ny176.out] at ho12 | (simp only [Int.reduceToNat] at ho12; rw [← Ny176.out] at ho12)); have HO178 := A_ (Kd.R_lower ho12 (below_size (by repeat (first | (with_reducible first | exact HB.out | apply below_alloc | apply pw_below_drewN | apply below_drew1 | refine below_set ?_ (IsS47.ge HI170.out) | refine below_set ?_ GE169.out | refine below_set ?_ GE175.out) | exact HB.out)))); replace BK169 := A_ (blk_below (g := gb169) (o := .cells #[.int .i64 0, .bool false] 25 (0, 0)) (by (with_reducible repeat (first | refine blk_drewN ?_ _ | refine blk_drew ?_ | refine blk_alloc ?_ _)); refine blk_far ?_ NB169_175.out _; (with_reducible repeat (first | refine blk_drewN ?_ _ | refine blk_drew ?_ | refine blk_alloc ?_ _)); refine blk_far ?_ NB169_175.out _; (with_reducible repeat (first | refine blk_drewN ?_ _ | refine blk_drew ?_ | refine blk_alloc ?_ _)); exact BK169.out) hb); replace BK175 := A_ (blk_below (g := gb175) (o := .cells #[.int .i64 t171, .bool t172] 25 (0, 0)) (by (with_reducible repeat (first | refine blk_drewN ?_ _ | refine blk_drew ?_ | refine blk_alloc ?_ _)); refine blk_put (cs := #[.int .i64 t171, .bool false]) ?_ 1 _ rfl; (with_reducible repeat (first | refine blk_drewN ?_ _ | refine blk_drew ?_ | refine blk_alloc ?_ _)); refine blk_put (cs := #[.int .i64 0, .bool false]) ?_ 0 _ rfl; (with_reducible repeat (first | refine blk_drewN ?_ _ | refine blk_drew ?_ | refine blk_alloc ?_ _)); exact BK175.out) hb); replace HB := A_ (below_step (by repeat (first | (with_reducible first | exact HB.out | apply below_alloc | apply pw_below_drewN | apply below_drew1 | refine below_set ?_ (IsS47.ge HI170.out) | refine below_set ?_ GE169.out | refine below_set ?_ GE175.out) | exact HB.out)) hb); replace HI170 := A_ (IsS47.below (show IsS47 w ((w7.setCell ⟨gb175, 0, none⟩ (.int .i64 t171)).setCell ⟨gb175, 1, none⟩ (.bool t172)) gb170 l0 t173 t174 from by repeat (first | (with_reducible first | exact HI170.out | apply IsS47.alloc | apply IsS47.drewN | apply IsS47.drew | apply IsS47.set_1 | apply IsS47.set_2 | refine IsS47.far ?_ NB170_169.out _ | refine IsS47.far ?_ NB170_175.out _) | exact HI170.out)) hb); clear hb ho12) | ((with_reducible refine gate_dst (N := 16) rfl ?_); refine Kd.R_lit (Kd.int .i64) _ 3 ?hg (N := 16) ?hd (xs := ([2, 3, 1, 0, 5] : List Int)) (inner := [.int .i64 2, .int .i64 3, .int .i64 1, .int .i64 0, .int .i64 5]) (ok := fun _ => True) (okp := fun _ => True) ?hr ?hp (fun _ hk => hk) trivial (Below.refl _ _) (Nat.le_refl _) (by simp) ?_; (case hd => rfl); (case hg => rfl); (case hr => first | (go_simp; done) | (go_simp; rfl)); (case hp => exact (Reps.one (show Kd.M (Kd.int .i64) _ _ _ 2 [.int .i64 2] from rfl) (Reps.one (show Kd.M (Kd.int .i64) _ _ _ 3 [.int .i64 3] from rfl) (Reps.one (show Kd.M (Kd.int .i64) _ _ _ 1 [.int .i64 1] from rfl) (Reps.one (show Kd.M (Kd.int .i64) _ _ _ 0 [.int .i64 0] from rfl) (Reps.one (show Kd.M (Kd.int .i64) _ _ _ 5 [.int .i64 5] from rfl) (Reps.none _ _))))))); intro v180 w13 ho14 hb hg_ hnew_; clear hg_ hnew_; (first | rw [← Ny179.out] at ho14 | (simp only [Int.reduceToNat] at ho14; rw [← Ny179.out] at ho14)); have HO181 := A_ (Kd.R_lower (Kd.R_new' ho14 (Kd.R_lt (rq HO178))) (below_size (by repeat (first | (with_reducible first | exact HB.out | apply below_alloc | apply pw_below_drewN | apply below_drew1 | refine below_set ?_ (IsS47.ge HI170.out) | refine below_set ?_ GE169.out | refine below_set ?_ GE175.out) | exact HB.out)))); replace HO178 := A_ (Kd.R_elder' (rq HO178) (Kd.R_base ho14) hb); replace BK169 := A_ (blk_below (bq BK169) hb); replace BK175 := A_ (blk_below (bq BK175) hb); replace HB := A_ (below_step (by repeat (first | (with_reducible first | exact HB.out | apply below_alloc | apply pw_below_drewN | apply below_drew1 | refine below_set ?_ (IsS47.ge HI170.out) | refine below_set ?_ GE169.out | refine below_set ?_ GE175.out) | exact HB.out)) hb); replace HI170 := A_ (IsS47.below (by repeat (first | (with_reducible first | exact HI170.out | apply IsS47.alloc | apply IsS47.drewN | apply IsS47.drew | apply IsS47.set_1 | apply IsS47.set_2 | refine IsS47.far ?_ NB170_169.out _ | refine IsS47.far ?_ NB170_175.out _) | exact HI170.out)) hb); clear hb ho14; obtain ⟨Ao15, co15, eo15⟩ := Kd.R_slice HO181.out; subst eo15) | ((with_reducible refine gate_callee (f := 22) rfl ?_); refine gL (some 17) Try.func22 #[.pointer (some ⟨gb170, 0, none⟩), .slice Ao15 y179.length co15] ?_; (with_reducible refine (Q9.calls gb170 l0 t173 t174 _ _ y179 t182 t183 t184 w _ ?side1 ?side2 ?side3 ?side4 ?side5 A3.out).mono ?_); (case side1 => repeat (first | (with_reducible first | exact HI170.out | apply IsS47.alloc | apply IsS47.drewN | apply IsS47.drew | apply IsS47.set_1 | apply IsS47.set_2 | refine IsS47.far ?_ NB170_169.out _ | refine IsS47.far ?_ NB170_175.out _) | exact HI170.out)); (case side2 => repeat (first | (with_reducible first | exact HB.out | apply below_alloc | apply pw_below_drewN | apply below_drew1 | refine below_set ?_ (IsS47.ge HI170.out) | refine below_set ?_ GE169.out | refine below_set ?_ GE175.out) | exact HB.out)); (case side3 => exact cq (Kd.R_reads' HO181.out).2.2); (case side4 => exact (Kd.R_reads' HO181.out).2.1); (case side5 => exact far_slice (IsS47.own_ne HI170.out HO181.out (by decide))); rintro e w16 ⟨rfl, hi, hb, hk⟩; refine ⟨_, rfl, ?_⟩; replace BK169 := A_ (KeepBut.blk hk (g' := gb169) (o := .cells #[.int .i64 0, .bool false] 25 (0, 0)) (bq BK169) NB169_170.out (by simp)); replace BK175 := A_ (KeepBut.blk hk (g' := gb175) (o := .cells #[.int .i64 t171, .bool t172] 25 (0, 0)) (bq BK175) NB175_170.out (by simp)); replace HO178 := A_ (Kd.R_mono (Kd.R_keep (IsS47.apart (show IsS47 w _ gb170 l0 t173 t174 from by repeat (first | (with_reducible first | exact HI170.out | apply IsS47.alloc | apply IsS47.drewN | apply IsS47.drew | apply IsS47.set_1 | apply IsS47.set_2 | refine IsS47.far ?_ NB170_169.out _ | refine IsS47.far ?_ NB170_175.out _) | exact HI170.out)) (rq HO178) (by decide)) hk (fun _ h => h.2)) (fun _ h => h.1)); replace HO181 := A_ (Kd.R_mono (Kd.R_keep (IsS47.apart (show IsS47 w _ gb170 l0 t173 t174 from by repeat (first | (with_reducible first | exact HI170.out | apply IsS47.alloc | apply IsS47.drewN | apply IsS47.drew | apply IsS47.set_1 | apply IsS47.set_2 | refine IsS47.far ?_ NB170_169.out _ | refine IsS47.far ?_ NB170_175.out _) | exact HI170.out)) (rq HO181) (by decide)) hk (fun _ h => h.2)) (fun _ h => h.1)); replace HB := A_ (hb); replace HI170 := A_ (hi); clear hb hk hi))
 go_loopg [7, 8] k (fun kq v7 v8 w' => ∃ (x7_1 : List Int) (x8_1 : Int) (x171001_1 : Int) (x171002_1 : Int), v8 = .int .i64 x8_1 ∧ Aside0 (Q21.l0 kq x7_1 x8_1 l0 x171001_1 x171002_1 t171 t172 = some (r1, r2, r3, r4)) ∧ Aside0 (kq ≤ k) ∧ Aside0 (Kd.R (Kd.int .i64) 3 w' w.heap.size (fun _ => True) v7 x7_1) ∧ Aside0 (w'.heap[gb169]? = some (.cells #[.int .i64 0, .bool false] 25 (0, 0))) ∧ Aside0 (w'.heap[gb175]? = some (.cells #[.int .i64 t171, .bool t172] 25 (0, 0))) ∧ Aside0 (IsS47 w w' gb170 l0 x171001_1 x171002_1) ∧ Aside0 (Below w.heap.size w w'))
 case atStart => exact ⟨(y176), (t182), (t183), (t184), rf, H', ⟨Nat.le_refl _⟩, ⟨by (with_reducible repeat (first | apply Kd.R_alloc | apply Kd.R_drewN | apply Kd.R_drew)); exact Kd.R_mono HO178.out (fun _ hk => trivial)⟩, ⟨bq BK169⟩, ⟨bq BK175⟩, ⟨by repeat (first | (with_reducible first | exact HI170.out | apply IsS47.alloc | apply IsS47.drewN | apply IsS47.drew | apply IsS47.set_1 | apply IsS47.set_2 | refine IsS47.far ?_ NB170_169.out _ | refine IsS47.far ?_ NB170_175.out _) | exact HI170.out)⟩, ⟨by repeat (first | (with_reducible first | exact HB.out | apply below_alloc | apply pw_below_drewN | apply below_drew1 | refine below_set ?_ (IsS47.ge HI170.out) | refine below_set ?_ GE169.out | refine below_set ?_ GE175.out) | exact HB.out)⟩⟩
 case round =>
  clear H'; (try clear hcz10_0); (try clear hcz10_1); (try clear hfz10_0); (try clear hfz10_1); obtain ⟨x7_1, x8_1, x171001_1, x171002_1, rfl, HA, HK1, HO_7, BK169, BK175, HI170, HB⟩ := hrel
  cases gk with
  | zero => exact absurd HA.out (by simp [Q21.l0])
  | succ k1 =>
   have H := HA.out; clear HA; simp only [Q21.l0] at H
   by_cases c17 : x8_1 > 0
   ·
    rw [if_pos c17] at H; have c17b0 : decide (0 < x8_1) = true := decide_eq_true c17; clear c17; replace H := bm H; obtain ⟨⟨t185, t186, t187⟩, A18, H⟩ := H; (try dsimp only at H); by_cases c19 : x7_1.length < 17592186044416
    ·
     rw [if_pos c19] at H; have LMc19 := A_ c19; clear c19
     obtain ⟨y188, hy188⟩ : ∃ y_ : List Int, y_ = (x7_1 ++ [t185]) := ⟨_, rfl⟩
     replace H : (Q21.l0 k1 y188 (wrap64 (x8_1 - 1)) l0 t186 t187 t171 t172) = some (r1, r2, r3, r4) := by first | (rw [hy188]; with_reducible exact H) | (have H2_ := (Option.bind_some _ _).symm.trans H; rw [hy188]; with_reducible exact H2_) | (have H2_ := (Option.bind_some _ _).symm.trans H; with_reducible exact H2_) | with_reducible exact H | (rw [hy188]; exact H) | exact H
     have Ny188 := A_ hy188; clear hy188; have H' := A_ H; clear H; have hnb20 := NB175_169.out; have hnc20 := NB169_175.out; have hnb21 := NB175_170.out; have hnc21 := NB170_175.out; have hcz22_0 : wr.cell? ⟨gb175, 0, none⟩ = some (.int .i64 t171) := bc BK175 0; have hcz22_1 : wr.cell? ⟨gb175, 1, none⟩ = some (.bool t172) := bc BK175 1; have hfz22_0 := blk_frozen BK175.out 0; have hfz22_1 := blk_frozen BK175.out 1; go_wp2_with (first | ((with_reducible refine gate_callee (f := 23) rfl ?_); refine gL (some 25) Try.func23 #[.pointer (some ⟨gb170, 0, none⟩), .agg #[.int .i64 t171, .bool t172]] ?_; (with_reducible refine (Q39.calls gb170 l0 x171001_1 x171002_1 t171 t172 t185 t186 t187 w _ ?side1 ?side2 A18.out).mono ?_); (case side1 => repeat (first | (with_reducible first | exact HI170.out | apply IsS47.alloc | apply IsS47.drewN | apply IsS47.drew | apply IsS47.set_1 | apply IsS47.set_2 | refine IsS47.far ?_ NB170_169.out _ | refine IsS47.far ?_ NB170_175.out _) | exact HI170.out)); (case side2 => repeat (first | (with_reducible first | exact HB.out | apply below_alloc | apply pw_below_drewN | apply below_drew1 | refine below_set ?_ (IsS47.ge HI170.out) | refine below_set ?_ GE169.out | refine below_set ?_ GE175.out) | exact HB.out)); rintro e w23 ⟨rfl, hi, hb, hk⟩; refine ⟨_, rfl, ?_⟩; replace HO_7 := A_ (Kd.R_mono (Kd.R_keep (IsS47.apart (show IsS47 w _ gb170 l0 x171001_1 x171002_1 from by repeat (first | (with_reducible first | exact HI170.out | apply IsS47.alloc | apply IsS47.drewN | apply IsS47.drew | apply IsS47.set_1 | apply IsS47.set_2 | refine IsS47.far ?_ NB170_169.out _ | refine IsS47.far ?_ NB170_175.out _) | exact HI170.out)) (rq HO_7) (by decide)) hk (fun _ h => h.2)) (fun _ h => h.1)); replace BK169 := A_ (KeepBut.blk hk (g' := gb169) (o := .cells #[.int .i64 0, .bool false] 25 (0, 0)) (bq BK169) NB169_170.out (by simp)); replace BK175 := A_ (KeepBut.blk hk (g' := gb175) (o := .cells #[.int .i64 t171, .bool t172] 25 (0, 0)) (bq BK175) NB175_170.out (by simp)); replace HB := A_ (hb); replace HI170 := A_ (hi); clear hb hk hi) | ((with_reducible refine gate_builtin (b := .append) (xs := #[.tmp 22, .tmp 26]) rfl ?_); at_builtin; refine Kd.R_append (Kd.int .i64) (w0 := w) w.heap.size rfl (.tmp 22) (.tmp 26) 26 3 (.int .i64 0) 8 rfl Try.underlying26 info3 rfl (by decide) (by omega) u7 x7_1 t185 [.int .i64 t185] (fun _ => True) (fun _ => False) rfl rfl ?aP (fun _ hk => hk.elim) ?aF ?aO ?aB ?aS ?aL ?_; (case aP => exact rfl); (case aB => exact (by repeat (first | (with_reducible first | exact HB.out | apply below_alloc | apply pw_below_drewN | apply below_drew1 | refine below_set ?_ (IsS47.ge HI170.out) | refine below_set ?_ GE169.out | refine below_set ?_ GE175.out) | exact HB.out))); (case aF => exact (fun _ _ => trivial)); (case aO => exact (rq HO_7)); (case aS => exact (below_size (by repeat (first | (with_reducible first | exact HB.out | apply below_alloc | apply pw_below_drewN | apply below_drew1 | refine below_set ?_ (IsS47.ge HI170.out) | refine below_set ?_ GE169.out | refine below_set ?_ GE175.out) | exact HB.out)))); (case aL => have := LMc19.out; omega); intro v189 w24 ho hb hg hat; rw [← Ny188.out] at ho; have n0_ := A_ (blk_grown (g := gb169) (o := .cells #[.int .i64 0, .bool false] 25 (0, 0)) (bq BK169) hg (Kd.R_ne HO_7.out BK169.out (by decide))); have n1_ := A_ (blk_grown (g := gb175) (o := .cells #[.int .i64 t171, .bool t172] 25 (0, 0)) (bq BK175) hg (Kd.R_ne HO_7.out BK175.out (by decide))); have n2_ := A_ (IsS47.grown (by repeat (first | (with_reducible first | exact HI170.out | apply IsS47.alloc | apply IsS47.drewN | apply IsS47.drew | apply IsS47.set_1 | apply IsS47.set_2 | refine IsS47.far ?_ NB170_169.out _ | refine IsS47.far ?_ NB170_175.out _) | exact HI170.out)) hg (IsS47.own_ne HI170.out HO_7.out (by decide))); have n3_ := A_ (hb); have n4_ := A_ (ho); clear BK169; clear BK175; clear HI170; clear HB; clear HO_7; have BK169 := n0_; have BK175 := n1_; have HI170 := n2_; have HB := n3_; have HO190 := n4_; clear n0_ n1_ n2_ n3_ n4_; clear ho hb hg hat))
     go_roundg k1
     case measure => have := HK1.out; omega
     case rel => exact ⟨(y188), (wrap64 (x8_1 - 1)), (t186), (t187), rf, H', ⟨by have := HK1.out; omega⟩, ⟨rq HO190⟩, ⟨bq BK169⟩, ⟨bq BK175⟩, ⟨by repeat (first | (with_reducible first | exact HI170.out | apply IsS47.alloc | apply IsS47.drewN | apply IsS47.drew | apply IsS47.set_1 | apply IsS47.set_2 | refine IsS47.far ?_ NB170_169.out _ | refine IsS47.far ?_ NB170_175.out _) | exact HI170.out)⟩, ⟨by repeat (first | (with_reducible first | exact HB.out | apply below_alloc | apply pw_below_drewN | apply below_drew1 | refine below_set ?_ (IsS47.ge HI170.out) | refine below_set ?_ GE169.out | refine below_set ?_ GE175.out) | exact HB.out)⟩⟩
    ·
     rw [if_neg c19] at H; exact absurd H (by simp)
   ·
    rw [if_neg c17] at H; have c17b0 : decide (0 < x8_1) = false := decide_eq_false c17; clear c17; replace H := bm H; obtain ⟨⟨t191, t192, t193⟩, A25, H⟩ := H; (try dsimp only at H); simp only [Option.some.injEq, Prod.mk.injEq] at H
    obtain ⟨rfl, rfl, rfl, rfl⟩ := H; try go_wp2
    replace HO_7 := A_ (Kd.R_drew HO_7.out); replace BK169 := A_ (blk_drew BK169.out); replace BK175 := A_ (blk_drew BK175.out); replace HI170 := A_ (IsS47.drew HI170.out); replace HB := A_ (below_drew1 HB.out); refine start_ (n := 8) (S := fun w' => w'.cell? ⟨gb175, 0, none⟩ = some (.int .i64 t171) ∧ w'.cell? ⟨gb175, 1, none⟩ = some (.bool t172)) (ds := []) #[false, false, false, false, false, false, false, false] (by kernel_rfl) rfl rfl ⟨bc BK175 0, bc BK175 1⟩ (fun hHeld => ?_); refine with_tabW Q21.tab8 Q21.bits8 (fun HT_ HW_ => ?_); generalize wr.drew = w26 at HO_7 BK169 BK175 HI170 HB hHeld ⊢; refine puT (i := 1) (N := some 29) HT_ #[false, true, false, false, false, false, false, false] ?_; refine puT (i := 4) (N := some 32) HT_ #[false, true, false, false, true, false, false, false] ?_; refine tkT (i := 0) (N := some 28) HT_ HW_ hHeld #[true, true, false, false, true, false, false, false] ?_; refine tkT (i := 2) (N := some 30) HT_ HW_ hHeld #[true, true, true, false, true, false, false, false] ?_; refine onT (i := 3) (N := some 31) HT_ #[true, true, true, true, true, false, false, false] (fun K hK => ?_); refine go_ Try.func23 #[.pointer (some ⟨gb170, 0, none⟩), .agg #[.int .i64 t171, .bool t172]] ?_; with_reducible refine (Q39.calls gb170 l0 x171001_1 x171002_1 t171 t172 t191 t192 t193 w _ ?side1 ?side2 A25.out).mono ?_
    (case side1 => repeat (first | (with_reducible first | exact HI170.out | apply IsS47.alloc | apply IsS47.drewN | apply IsS47.drew | apply IsS47.set_1 | apply IsS47.set_2 | refine IsS47.far ?_ NB170_169.out _ | refine IsS47.far ?_ NB170_175.out _) | exact HI170.out)); (case side2 => repeat (first | (with_reducible first | exact HB.out | apply below_alloc | apply pw_below_drewN | apply below_drew1 | refine below_set ?_ (IsS47.ge HI170.out) | refine below_set ?_ GE169.out | refine below_set ?_ GE175.out) | exact HB.out)); rintro e w27 ⟨rfl, hi, hb, hk⟩; refine ⟨_, rfl, ?_⟩; replace HO_7 := A_ (Kd.R_mono (Kd.R_keep (IsS47.apart (show IsS47 w _ gb170 l0 x171001_1 x171002_1 from by repeat (first | (with_reducible first | exact HI170.out | apply IsS47.alloc | apply IsS47.drewN | apply IsS47.drew | apply IsS47.set_1 | apply IsS47.set_2 | refine IsS47.far ?_ NB170_169.out _ | refine IsS47.far ?_ NB170_175.out _) | exact HI170.out)) (rq HO_7) (by decide)) hk (fun _ h => h.2)) (fun _ h => h.1)); replace BK169 := A_ (KeepBut.blk hk (g' := gb169) (o := .cells #[.int .i64 0, .bool false] 25 (0, 0)) (bq BK169) NB169_170.out (by simp)); replace BK175 := A_ (KeepBut.blk hk (g' := gb175) (o := .cells #[.int .i64 t171, .bool t172] 25 (0, 0)) (bq BK175) NB175_170.out (by simp)); replace HB := A_ (hb); replace HI170 := A_ (hi); clear hb hk hi; refine hK.out _ _ ⟨bc BK175 0, bc BK175 1⟩ (fun hHeld => ?_); clear hK K; refine nq_ (some 31) ?_; refine onT (i := 5) (N := none) HT_ #[true, true, true, true, true, true, false, false] (fun K hK => ?_); have hs28 : w27.cell? ⟨gb169, 0, none⟩ = some (.int .i64 0) := bc BK169 0; have hfs28 := blk_frozen BK169.out 0; have hns28_1 := NB175_169.out; have hms28_1 := NB169_175.out; have hs29 : w27.cell? ⟨gb169, 1, none⟩ = some (.bool false) := bc BK169 1; have hfs29 := blk_frozen BK169.out 1; have hns29_1 := NB175_169.out; have hms29_1 := NB169_175.out; refine skip_ (w1 := ?_) (by rfl) rfl ?_ ?_
    rotate_left
    ·
     go_simp
     rfl
    refine hK.out _ _ ⟨((cell_far (p := ⟨gb169, _, none⟩) NB175_169.out _).trans (((cell_far (p := ⟨gb169, _, none⟩) NB175_169.out _).trans (hHeld.1)))), ((cell_far (p := ⟨gb169, _, none⟩) NB175_169.out _).trans (((cell_far (p := ⟨gb169, _, none⟩) NB175_169.out _).trans (hHeld.2))))⟩ (fun hHeld => ?_); clear hK K; refine puT (i := 6) (N := some 3) HT_ #[true, true, true, true, true, true, true, false] ?_; refine puT (i := 7) (N := some 4) HT_ #[true, true, true, true, true, true, true, true] ?_; refine done_ (done_of HT_.out (by kernel_rfl)) ?_; try go_wp2
    refine bodyPost_ret (results_ctt rfl _ _ gb169 25 #[.int .i64 t171, .bool t172] (0, 0) _ rfl (by (with_reducible repeat (first | refine blk_drewN ?_ _ | refine blk_drew ?_ | refine blk_alloc ?_ _)); refine blk_put (cs := #[.int .i64 t171, .bool false]) ?_ 1 _ rfl; (with_reducible repeat (first | refine blk_drewN ?_ _ | refine blk_drew ?_ | refine blk_alloc ?_ _)); refine blk_put (cs := #[.int .i64 0, .bool false]) ?_ 0 _ rfl; (with_reducible repeat (first | refine blk_drewN ?_ _ | refine blk_drew ?_ | refine blk_alloc ?_ _)); exact BK169.out) Try.underlying25 rfl (by kernel_rfl)) rfl ?_; exact ⟨_, rt, by (with_reducible repeat (first | apply Kd.R_alloc | apply Kd.R_drewN | apply Kd.R_drew)); exact Kd.R_mono (Kd.R_far (p := ⟨gb169, 1, none⟩) (Kd.R_far (p := ⟨gb169, 0, none⟩) (Kd.R_types HO_7.out BK169.out (by decide)) (fun _ => cj) (.int .i64 t171)) (fun _ => cj) (.bool t172)) (fun _ hk => trivial), by repeat (first | (with_reducible first | exact HB.out | apply below_alloc | apply pw_below_drewN | apply below_drew1 | refine below_set ?_ (IsS47.ge HI170.out) | refine below_set ?_ GE169.out | refine below_set ?_ GE175.out) | exact HB.out)⟩

/-! ### impl_within: function 44 -/
def Q19.f (a0 : Int) (a1 : Int) (a2 : Int) : Option (Bool) := if a0 ≥ a1 then (some (decide (a0 ≤ a2))) else (some false)
set_option maxHeartbeats 8000000 in
set_option maxRecDepth 100000 in
theorem Q19.calls (a0 : Int) (a1 : Int) (a2 : Int) (r : Bool) (w : World) (h : Q19.f a0 a1 a2 = some r) :
    Calls Try.prog 44 #[.int .i64 a0, .int .i64 a1, .int .i64 a2] w fun e w' => e = .returned (.bool r) ∧ Drawn0 w w' := by
 have H : (if a0 ≥ a1 then (some (decide (a0 ≤ a2))) else (some false)) = some r := h; clear h; by_cases c4 : a0 ≥ a1
 ·
  rw [if_pos c4] at H; have c4b0 : decide (a1 ≤ a0) = true := decide_eq_true c4; clear c4; obtain rfl := Option.some.inj H; go_enter Try.func44, Try.ntmps44
  go_wp2
  go_ret
  exact ⟨rf, by repeat (first | exact Drawn0.refl _ | apply Drawn0.step)⟩
 ·
  rw [if_neg c4] at H; have c4b0 : decide (a1 ≤ a0) = false := decide_eq_false c4; clear c4; obtain rfl := Option.some.inj H; go_enter Try.func44, Try.ntmps44
  go_wp2
  go_ret
  exact ⟨rf, by repeat (first | exact Drawn0.refl _ | apply Drawn0.step)⟩

/-! ### impl_IsRoad: function 24 -/
def Q28.f (a0_0 : Int) (a0_1 : Bool) : Option (Bool) := (Q19.f a0_0 2 24).bind fun t195 => (if t195 = true then (if a0_1 = true then (some (decide (a0_0 ≥ 3))) else (some true)) else (some false))
set_option maxHeartbeats 8000000 in
set_option maxRecDepth 100000 in
theorem Q28.calls (a0_0 : Int) (a0_1 : Bool) (r : Bool) (w : World) (h : Q28.f a0_0 a0_1 = some r) :
    Calls Try.prog 24 #[.agg #[.int .i64 a0_0, .bool a0_1]] w fun e w' => e = .returned (.bool r) ∧ Below w.heap.size w w' := by
 have hu25 := Try.underlying25; have HB := A_ (Below.refl w.heap.size w); have H : ((Q19.f a0_0 2 24).bind fun t195 => (if t195 = true then (if a0_1 = true then (some (decide (a0_0 ≥ 3))) else (some true)) else (some false))) = some r := h; clear h; replace H := bm H; obtain ⟨t195, A2, H⟩ := H; by_cases c3 : t195 = true
 ·
  subst c3
  have H1 : (if a0_1 = true then (some (decide (a0_0 ≥ 3))) else (some true)) = some r := by rw [if_pos rfl] at H; exact H
  clear H; have H := H1; clear H1; by_cases c4 : a0_1 = true
  ·
   subst c4
   have H1 : (some (decide (a0_0 ≥ 3))) = some r := by rw [if_pos rfl] at H; exact H
   clear H; have H := H1; clear H1; obtain rfl := Option.some.inj H; go_enter Try.func24, Try.ntmps24
   go_wp2_with (first | ((with_reducible refine gate_dst (N := 1) rfl ?_); refine bx (N := 1) #[.int .i64 a0_0, .bool true] 25 ?_; intro gb194 hg w5 hbox hb; have BK194 := A_ (hbox); have GW194 := A_ (bs hg (hq HB) : w.heap.size ≤ gb194); have GE194 := A_ (bs hg (hq HB) : w.heap.size ≤ gb194); replace HB := A_ (below_step (hq HB) hb); clear hb hbox hg; have hcz6_0 : w5.cell? ⟨gb194, 0, none⟩ = some (.int .i64 a0_0) := bc BK194 0; have hcz6_1 : w5.cell? ⟨gb194, 1, none⟩ = some (.bool true) := bc BK194 1; have hfz6_0 := blk_frozen BK194.out 0; have hfz6_1 := blk_frozen BK194.out 1) | ((with_reducible refine gate_callee (f := 44) rfl ?_); refine gL (some 5) Try.func44 #[.int .i64 a0_0, .int .i64 2, .int .i64 24] ?_; (with_reducible refine (Q19.calls a0_0 2 24 true _ A2.out).mono ?_); rintro e w' ⟨rfl, ⟨nd, rfl⟩⟩; refine ⟨_, rfl, ?_⟩))
   go_ret
   exact ⟨rt, hq HB⟩
  ·
   replace c4 := Bool.eq_false_iff.mpr c4; subst c4
   have H1 : (some true) = some r := by rw [if_neg (show ¬ (false = true) by decide)] at H; exact H
   clear H; have H := H1; clear H1; obtain rfl := Option.some.inj H; go_enter Try.func24, Try.ntmps24
   go_wp2_with (first | ((with_reducible refine gate_dst (N := 1) rfl ?_); refine bx (N := 1) #[.int .i64 a0_0, .bool false] 25 ?_; intro gb194 hg w7 hbox hb; have BK194 := A_ (hbox); have GW194 := A_ (bs hg (hq HB) : w.heap.size ≤ gb194); have GE194 := A_ (bs hg (hq HB) : w.heap.size ≤ gb194); replace HB := A_ (below_step (hq HB) hb); clear hb hbox hg; have hcz8_0 : w7.cell? ⟨gb194, 0, none⟩ = some (.int .i64 a0_0) := bc BK194 0; have hcz8_1 : w7.cell? ⟨gb194, 1, none⟩ = some (.bool false) := bc BK194 1; have hfz8_0 := blk_frozen BK194.out 0; have hfz8_1 := blk_frozen BK194.out 1) | ((with_reducible refine gate_callee (f := 44) rfl ?_); refine gL (some 5) Try.func44 #[.int .i64 a0_0, .int .i64 2, .int .i64 24] ?_; (with_reducible refine (Q19.calls a0_0 2 24 true _ A2.out).mono ?_); rintro e w' ⟨rfl, ⟨nd, rfl⟩⟩; refine ⟨_, rfl, ?_⟩))
   go_ret
   exact ⟨rt, hq HB⟩
 ·
  replace c3 := Bool.eq_false_iff.mpr c3; subst c3
  have H1 : (some false) = some r := by rw [if_neg (show ¬ (false = true) by decide)] at H; exact H
  clear H; have H := H1; clear H1; obtain rfl := Option.some.inj H; go_enter Try.func24, Try.ntmps24
  go_wp2_with (first | ((with_reducible refine gate_dst (N := 1) rfl ?_); refine bx (N := 1) #[.int .i64 a0_0, .bool a0_1] 25 ?_; intro gb194 hg w9 hbox hb; have BK194 := A_ (hbox); have GW194 := A_ (bs hg (hq HB) : w.heap.size ≤ gb194); have GE194 := A_ (bs hg (hq HB) : w.heap.size ≤ gb194); replace HB := A_ (below_step (hq HB) hb); clear hb hbox hg; have hcz10_0 : w9.cell? ⟨gb194, 0, none⟩ = some (.int .i64 a0_0) := bc BK194 0; have hcz10_1 : w9.cell? ⟨gb194, 1, none⟩ = some (.bool a0_1) := bc BK194 1; have hfz10_0 := blk_frozen BK194.out 0; have hfz10_1 := blk_frozen BK194.out 1) | ((with_reducible refine gate_callee (f := 44) rfl ?_); refine gL (some 5) Try.func44 #[.int .i64 a0_0, .int .i64 2, .int .i64 24] ?_; (with_reducible refine (Q19.calls a0_0 2 24 false _ A2.out).mono ?_); rintro e w' ⟨rfl, ⟨nd, rfl⟩⟩; refine ⟨_, rfl, ?_⟩))
  go_ret
  exact ⟨rt, hq HB⟩

/-! ### impl_allWithin: function 53 -/
def Q20.l0 : Nat → Int → Int → List Int → Int → Int → Option (Bool)
  | 0, _, _, _, _, _ => none
  | k + 1, x1, x2, x9, x10, x11 => if x11 < x10 then (if 0 ≤ x11 then (if x11 < (x9.length : Int) then ((Q19.f (rd x9 x11) x1 x2).bind fun t197 => (if t197 = true then (Q20.l0 k x1 x2 x9 x10 (wrap64 (x11 + 1))) else (some false))) else (none)) else (none)) else (some true)
def Q20.f (k : Nat) (l0 : List Int) (a1 : Int) (a2 : Int) : Option (Bool) := Q20.l0 k a1 a2 l0 (l0.length : Int) 0
theorem Q20.mono_l : ∀ k, (∀ y0 y1 y2 y3 y4, LeO (Q20.l0 k y0 y1 y2 y3 y4) (Q20.l0 (k + 1) y0 y1 y2 y3 y4))
  | 0 => fun _ _ _ _ _ r h => by simp [Q20.l0] at h
  | k + 1 => by
    have ih0 := Q20.mono_l k
    · intro y0 y1 y2 y3 y4
      unfold Q20.l0
      repeat' first
      | (with_reducible exact ih0 _ _ _ _ _)
      | (with_reducible exact LeO.refl _)
      | (with_reducible exact LeO.none _)
      | (with_reducible refine LeO.ite ?_ ?_)
      | (with_reducible refine LeO.bind ?_ (fun _ => ?_))
      | exact ih0 _ _ _ _ _
      | exact LeO.none _
      | refine LeO.ite ?_ ?_
      | refine LeO.bind ?_ (fun _ => ?_)
theorem Q20.mono : ∀ a0 a1 a2 k, LeO (Q20.f k a0 a1 a2) (Q20.f (k + 1) a0 a1 a2) := by
  intro a0 a1 a2 k
  have ih0 := Q20.mono_l k
  unfold Q20.f
  repeat' first
      | (with_reducible exact ih0 _ _ _ _ _)
      | (with_reducible exact LeO.refl _)
      | (with_reducible exact LeO.none _)
      | (with_reducible refine LeO.ite ?_ ?_)
      | (with_reducible refine LeO.bind ?_ (fun _ => ?_))
      | exact ih0 _ _ _ _ _
      | exact LeO.none _
      | refine LeO.ite ?_ ?_
      | refine LeO.bind ?_ (fun _ => ?_)
set_option maxHeartbeats 8000000 in
set_option maxRecDepth 100000 in
theorem Q20.calls (k : Nat) (A0 : Option Addr) (c0 : Nat) (l0 : List Int) (a1 : Int) (a2 : Int) (r : Bool) (w : World) (hr0 : Kd.C (Kd.int .i64) w A0 l0.length l0) (hc0 : l0.length ≤ c0) (h : Q20.f k l0 a1 a2 = some r) :
    Calls Try.prog 53 #[.slice A0 l0.length c0, .int .i64 a1, .int .i64 a2] w fun e w' => e = .returned (.bool r) ∧ Drawn0 w w' := by
 have HR0 := A_ hr0; have HC0 := A_ hc0; clear hr0 hc0; have H : (Q20.l0 k a1 a2 l0 (l0.length : Int) 0) = some r := h; clear h; have H' := A_ H; clear H; go_enter Try.func53, Try.ntmps53
 go_wp2
 go_loopg [11] k (fun kq v11 w' => ∃ (x11_1 : Int), v11 = .int .i64 x11_1 ∧ Aside0 (Q20.l0 kq a1 a2 l0 (l0.length : Int) x11_1 = some r) ∧ Aside0 (kq ≤ k) ∧ Drawn0 w w')
 case atStart => exact ⟨(0), rf, H', ⟨Nat.le_refl _⟩, by repeat (first | exact Drawn0.refl _ | apply Drawn0.step)⟩
 case round =>
  clear H'; obtain ⟨x11_1, rfl, HA, HK1, ⟨m1, rfl⟩⟩ := hrel
  cases gk with
  | zero => exact absurd HA.out (by simp [Q20.l0])
  | succ k1 =>
   have H := HA.out; clear HA; simp only [Q20.l0] at H
   by_cases c4 : x11_1 < (l0.length : Int)
   ·
    rw [if_pos c4] at H; have c4b0 := decide_eq_true c4; clear c4; by_cases c5 : 0 ≤ x11_1
    ·
     rw [if_pos c5] at H; have c5b0 := decide_eq_true c5; clear c5; by_cases c6 : x11_1 < (l0.length : Int)
     ·
      rw [if_pos c6] at H; have c6b0 := decide_eq_true c6; clear c6; replace H := bm H; obtain ⟨t197, A7, H⟩ := H; by_cases c8 : t197 = true
      ·
       subst c8
       have H1 : (Q20.l0 k1 a1 a2 l0 (l0.length : Int) (wrap64 (x11_1 + 1))) = some r := by rw [if_pos rfl] at H; exact H
       clear H; have H := H1; clear H1; have H' := A_ H; clear H; have p196 : 0 ≤ (x11_1 : Int) := dq; have q196 : x11_1 < (l0.length : Int) := dq; obtain ⟨ad196, e196, hx196_0⟩ := Kd.at_int HR0.out x11_1 p196 q196
       cases e196
       replace p196 := eq_true p196; replace q196 := eq_true q196; go_wp2_with (first | ((with_reducible refine gate_callee (f := 44) rfl ?_); refine gL (some 18) Try.func44 #[.int .i64 (rd l0 x11_1), .int .i64 a1, .int .i64 a2] ?_; (with_reducible refine (Q19.calls (rd l0 x11_1) a1 a2 true _ A7.out).mono ?_); rintro e w' ⟨rfl, ⟨nd, rfl⟩⟩; refine ⟨_, rfl, ?_⟩))
       go_roundg k1
       case measure => have := HK1.out; omega
       case rel => exact ⟨(wrap64 (x11_1 + 1)), rf, H', ⟨by have := HK1.out; omega⟩, by repeat (first | exact Drawn0.refl _ | apply Drawn0.step)⟩
      ·
       replace c8 := Bool.eq_false_iff.mpr c8; subst c8
       have H1 : (some false) = some r := by rw [if_neg (show ¬ (false = true) by decide)] at H; exact H
       clear H; have H := H1; clear H1; obtain rfl := Option.some.inj H; have p196 : 0 ≤ (x11_1 : Int) := dq; have q196 : x11_1 < (l0.length : Int) := dq; obtain ⟨ad196, e196, hx196_0⟩ := Kd.at_int HR0.out x11_1 p196 q196
       cases e196
       replace p196 := eq_true p196; replace q196 := eq_true q196; go_wp2_with (first | ((with_reducible refine gate_callee (f := 44) rfl ?_); refine gL (some 18) Try.func44 #[.int .i64 (rd l0 x11_1), .int .i64 a1, .int .i64 a2] ?_; (with_reducible refine (Q19.calls (rd l0 x11_1) a1 a2 false _ A7.out).mono ?_); rintro e w' ⟨rfl, ⟨nd, rfl⟩⟩; refine ⟨_, rfl, ?_⟩))
       go_ret
       exact ⟨rf, by repeat (first | exact Drawn0.refl _ | apply Drawn0.step)⟩
     ·
      rw [if_neg c6] at H; exact absurd H (by simp)
    ·
     rw [if_neg c5] at H; exact absurd H (by simp)
   ·
    rw [if_neg c4] at H; have c4b0 := decide_eq_false c4; clear c4; obtain rfl := Option.some.inj H; go_wp2
    go_ret
    exact ⟨rf, by repeat (first | exact Drawn0.refl _ | apply Drawn0.step)⟩

/-! ### impl_Road_has: function 25 -/
def Q10.f (k : Nat) (a0_0 : Int) (a0_1 : Bool) (l1 : List Int) : Option (Bool) := (Q20.f k l1 0 (wrap64 (a0_0 - 1))).bind fun t199 => (some t199)
theorem Q10.mono : ∀ a0 a1 a2 k, LeO (Q10.f k a0 a1 a2) (Q10.f (k + 1) a0 a1 a2) := by
  intro a0 a1 a2 k
  unfold Q10.f
  repeat' first
      | (with_reducible exact Q20.mono _ _ _ _)
      | (with_reducible exact LeO.refl _)
      | (with_reducible exact LeO.none _)
      | (with_reducible refine LeO.ite ?_ ?_)
      | (with_reducible refine LeO.bind ?_ (fun _ => ?_))
      | exact Q20.mono _ _ _ _
      | exact LeO.none _
      | refine LeO.ite ?_ ?_
      | refine LeO.bind ?_ (fun _ => ?_)
set_option maxHeartbeats 8000000 in
set_option maxRecDepth 100000 in
theorem Q10.calls (k : Nat) (a0_0 : Int) (a0_1 : Bool) (A1 : Option Addr) (c1 : Nat) (l1 : List Int) (r : Bool) (w : World) (hr1 : Kd.C (Kd.int .i64) w A1 l1.length l1) (hc1 : l1.length ≤ c1) (h : Q10.f k a0_0 a0_1 l1 = some r) :
    Calls Try.prog 25 #[.agg #[.int .i64 a0_0, .bool a0_1], .slice A1 l1.length c1] w fun e w' => e = .returned (.bool r) ∧ Below w.heap.size w w' := by
 have hu25 := Try.underlying25; have HR1 := A_ hr1; have HC1 := A_ hc1; clear hr1 hc1; have HB := A_ (Below.refl w.heap.size w); have H : ((Q20.f k l1 0 (wrap64 (a0_0 - 1))).bind fun t199 => (some t199)) = some r := h; clear h; replace H := bm H; obtain ⟨t199, A3, H⟩ := H; obtain rfl := Option.some.inj H; go_enter Try.func25, Try.ntmps25
 go_wp2_with (first | ((with_reducible refine gate_dst (N := 2) rfl ?_); refine bx (N := 2) #[.int .i64 a0_0, .bool a0_1] 25 ?_; intro gb198 hg w4 hbox hb; have BK198 := A_ (hbox); have GW198 := A_ (bs hg (hq HB) : w.heap.size ≤ gb198); have GE198 := A_ (bs hg (hq HB) : w.heap.size ≤ gb198); replace HB := A_ (below_step (hq HB) hb); clear hb hbox hg; have hcz5_0 : w4.cell? ⟨gb198, 0, none⟩ = some (.int .i64 a0_0) := bc BK198 0; have hcz5_1 : w4.cell? ⟨gb198, 1, none⟩ = some (.bool a0_1) := bc BK198 1; have hfz5_0 := blk_frozen BK198.out 0; have hfz5_1 := blk_frozen BK198.out 1) | ((with_reducible refine gate_callee (f := 53) rfl ?_); refine gL (some 9) Try.func53 #[.slice A1 l1.length c1, .int .i64 0, .int .i64 (wrap64 (a0_0 - 1))] ?_; (with_reducible refine (Q20.calls k _ _ l1 0 (wrap64 (a0_0 - 1)) t199 _ ?side1 ?side2 A3.out).mono ?_); (case side1 => exact cq (Kd.C_below HR1.out HB.out)); (case side2 => exact HC1.out); rintro e w' ⟨rfl, ⟨nd, rfl⟩⟩; refine ⟨_, rfl, ?_⟩))
 go_ret
 exact ⟨rt, hq HB⟩

-- NOT PRINTED: function 54 (impl_mapped)

/-! ### slices.Sort at ints, by the contract that is laid from the shelf -/
def sortI (l : List Int) : List Int := l.mergeSort fun x y => decide (x ≤ y)
def Q51.f (k : Nat) (l0 : List Int) : Option (List Int) := if l0.length ≤ 1048576 then some (sortI l0) else none
theorem Q51.calls (k : Nat) (P0_ : Nat → Prop) (u9000_ : Value) (l0 : List Int) (r : List Int) (w0 w : World) (hB : Below w0.heap.size w0 w) (ho0 : Kd.R (Kd.int .i64) 3 w w0.heap.size P0_ u9000_ l0) (h : Q51.f k l0 = some r) :
    Calls Try.prog 56 #[u9000_] w fun e w' => e = .returned (.tuple #[]) ∧ Kd.R (Kd.int .i64) 3 w' w0.heap.size (fun k_ => (P0_ k_ ∨ w.heap.size ≤ k_)) u9000_ r ∧ Below w0.heap.size w0 w' ∧ Kept w w' (fun k_ => P0_ k_) := by
 unfold Q51.f at h; by_cases c : l0.length ≤ 1048576
 ·
  rw [if_pos c] at h; obtain rfl := Option.some.inj h; have hs : (sortI l0).length = l0.length := List.length_mergeSort _; have hsz : w0.heap.size ≤ w.heap.size := hB.size; by_cases h0 : l0.length = 0
  ·
   have hl : l0 = [] := List.eq_nil_of_length_eq_zero h0; subst hl; obtain ⟨A, c1, rfl⟩ := Kd.R_slice ho0; refine (Go.Proofs.Ytbjpfnpleajhgad.Shelf.slices_Sort_int_none A c1 w).mono ?_; rintro e w' ⟨rfl, rfl⟩; rw [show sortI [] = [] by unfold sortI; simp]; exact ⟨rfl, Kd.R_mono ho0 (fun _ hk => .inl hk), hB, Kept.refl _ _⟩
  ·
   have ho := Kd.own_of_R ho0
   rcases ho.2 with ⟨_, hz⟩ | ⟨g, cap, cur, rfl, hg, hh, hn, hm, hc, ht⟩
   ·
    exact absurd hz h0
   ·
    have hlt : g < w.heap.size := (Array.getElem?_eq_some_iff.1 hh).1; refine (Go.Proofs.Ytbjpfnpleajhgad.Shelf.slices_Sort_int g 0 cap l0 w (holds_of_blockI hh (by simpa [encs] using ht)) hlt (by omega)).mono ?_; rintro e w' ⟨rfl, n, os, rfl⟩; have hgr := grownBy_sortedI (w := w) (g := g) (n := n) (os := os) (sortI l0).toArray; have hown := ownsRow_sortedI (n := n) (os := os) (ts := sortI l0) hs hg hh hn hm hc; refine ⟨rfl, Kd.R_of_own ?_ (fun k_ hk => .inl (ho0.1 k_ hk)), hB.grown hgr hsz (fun k_ e_ => by injection e_ with e_; omega), Kept.of_grown hgr (Kept.refl _ _) (fun k_ e_ => .inl (ho0.1 k_ (by injection e_ with e_; subst e_; rfl)))⟩; rw [hs]; exact hown
 ·
  rw [if_neg c] at h; exact absurd h (by simp)

-- NOT PRINTED: function 73 (slices_IndexFunc_int_int_73)

-- NOT PRINTED: function 57 (slices_DeleteFunc_int_int)

/-! ### impl_Road_tour_3: function 59 -/
def Q24.f (a0 : Int) (a1 : Int) : Option (Int) := some (wrap64 ((wrap64 (a0 + a1)) + (mn a0 a1)))
set_option maxHeartbeats 8000000 in
set_option maxRecDepth 100000 in
theorem Q24.calls (a0 : Int) (a1 : Int) (r : Int) (w : World) (h : Q24.f a0 a1 = some r) :
    Calls Try.prog 59 #[.int .i64 a0, .int .i64 a1] w fun e w' => e = .returned (.int .i64 r) ∧ Below w.heap.size w w' := by
 have HB := A_ (Below.refl w.heap.size w); have H : (some (wrap64 ((wrap64 (a0 + a1)) + (mn a0 a1)))) = some r := h; clear h
 obtain ⟨ji3, hji3⟩ : ∃ j_ : Int, (mn a0 a1) = j_ := ⟨_, rfl⟩
 replace H : (some (wrap64 ((wrap64 (a0 + a1)) + (ji3)))) = some r := by first | (rw [hji3] at H; exact H) | (simp only [hji3] at H ⊢; exact H)
 have hji3_ : (if a1 < a0 then a1 else a0) = ji3 := hji3; obtain rfl := Option.some.inj H; go_enter Try.func59, Try.ntmps59
 go_wp2
 go_ret
 exact ⟨by first | rfl | (simp [errW_none, errW_some] <;> rfl) | (simp only [← hji3]; first | rfl | (simp [errW_none, errW_some] <;> rfl)) | (simp [*, errW_none, errW_some] <;> rfl), hq HB⟩

/-! ### impl_Road_tour_1: function 55 -/
def Q66.f (a0 : Int) (a1_0 : Int) (a1_1 : Bool) (a2_0 : Int) : Option (Int) := if a1_1 = true then (if a1_0 = 0 then (none) else (some (Int.tmod (wrap64 ((wrap64 (a0 - a2_0)) + a1_0)) a1_0))) else (some (wrap64 (a0 - a2_0)))
set_option maxHeartbeats 8000000 in
set_option maxRecDepth 100000 in
theorem Q66.calls (a0 : Int) (gc1 : Nat) (a1_0 : Int) (a1_1 : Bool) (gc2 : Nat) (a2_0 : Int) (r : Int) (w : World) (hb1 : w.heap[gc1]? = some (.cells #[.int .i64 a1_0, .bool a1_1] 25 (0, 0))) (hb2 : w.heap[gc2]? = some (.cells #[.int .i64 a2_0] 3 (0, 0))) (h : Q66.f a0 a1_0 a1_1 a2_0 = some r) :
    Calls Try.prog 55 #[.int .i64 a0, .pointer (some ⟨gc1, 0, none⟩), .pointer (some ⟨gc2, 0, none⟩)] w fun e w' => e = .returned (.int .i64 r) ∧ Drawn0 w w' := by
 have BK1 := A_ hb1; clear hb1; have BK2 := A_ hb2; clear hb2; have H : (if a1_1 = true then (if a1_0 = 0 then (none) else (some (Int.tmod (wrap64 ((wrap64 (a0 - a2_0)) + a1_0)) a1_0))) else (some (wrap64 (a0 - a2_0)))) = some r := h; clear h; by_cases c4 : a1_1 = true
 ·
  subst c4
  have H1 : (if a1_0 = 0 then (none) else (some (Int.tmod (wrap64 ((wrap64 (a0 - a2_0)) + a1_0)) a1_0))) = some r := by rw [if_pos rfl] at H; exact H
  clear H; have H := H1; clear H1; by_cases c5 : a1_0 = 0
  ·
   rw [if_pos c5] at H; exact absurd H (by simp)
  ·
   rw [if_neg c5] at H; have c5b0 : (a1_0 == 0) = false := beq_eq_false_iff_ne.mpr c5; have c5b1 : (a1_0 != 0) = true := bne_iff_ne.mpr c5; obtain rfl := Option.some.inj H; have hcz6_0 : w.cell? ⟨gc1, 0, none⟩ = some (.int .i64 a1_0) := bc BK1 0; have hcz6_1 : w.cell? ⟨gc1, 1, none⟩ = some (.bool true) := bc BK1 1; have hfz6_0 := blk_frozen BK1.out 0; have hfz6_1 := blk_frozen BK1.out 1; have hcz7_0 : w.cell? ⟨gc2, 0, none⟩ = some (.int .i64 a2_0) := bc BK2 0; have hfz7_0 := blk_frozen BK2.out 0; go_enter Try.func55, Try.ntmps55
   go_wp2
   go_ret
   exact ⟨rf, by repeat (first | exact Drawn0.refl _ | apply Drawn0.step)⟩
 ·
  replace c4 := Bool.eq_false_iff.mpr c4; subst c4
  have H1 : (some (wrap64 (a0 - a2_0))) = some r := by rw [if_neg (show ¬ (false = true) by decide)] at H; exact H
  clear H; have H := H1; clear H1; obtain rfl := Option.some.inj H; have hcz8_0 : w.cell? ⟨gc1, 0, none⟩ = some (.int .i64 a1_0) := bc BK1 0; have hcz8_1 : w.cell? ⟨gc1, 1, none⟩ = some (.bool false) := bc BK1 1; have hfz8_0 := blk_frozen BK1.out 0; have hfz8_1 := blk_frozen BK1.out 1; have hcz9_0 : w.cell? ⟨gc2, 0, none⟩ = some (.int .i64 a2_0) := bc BK2 0; have hfz9_0 := blk_frozen BK2.out 0; go_enter Try.func55, Try.ntmps55
  go_wp2
  go_ret
  exact ⟨rf, by repeat (first | exact Drawn0.refl _ | apply Drawn0.step)⟩

/-! ### impl_mapped__Road_tour_1: function 54 -/
def Q34.l0 : Nat → List Int → List Int → Int → Int → Int → Bool → Int → Option (List Int)
  | 0, _, _, _, _, _, _, _ => none
  | k + 1, x5, x9, x10, x11, x2000, x2001, x3000 => if x11 < x10 then (if 0 ≤ x11 then (if x11 < (x9.length : Int) then ((Q66.f (rd x9 x11) x2000 x2001 x3000).bind fun t204 => (if x5.length < 17592186044416 then (Q34.l0 k (x5 ++ [t204]) x9 x10 (wrap64 (x11 + 1)) x2000 x2001 x3000) else (none))) else (none)) else (none)) else (some x5)
def Q34.f (k : Nat) (l0 : List Int) (a1_0 : Int) (a1_1 : Bool) (a2_0 : Int) : Option (List Int) := Q34.l0 k (([] : List Int)) l0 (l0.length : Int) 0 a1_0 a1_1 a2_0
set_option maxHeartbeats 8000000 in
set_option maxRecDepth 100000 in
theorem Q34.calls (k : Nat) (A0 : Option Addr) (c0 : Nat) (l0 : List Int) (gc1 : Nat) (a1_0 : Int) (a1_1 : Bool) (gc2 : Nat) (a2_0 : Int) (r : List Int) (w : World) (hb1 : w.heap[gc1]? = some (.cells #[.int .i64 a1_0, .bool a1_1] 25 (0, 0))) (hb2 : w.heap[gc2]? = some (.cells #[.int .i64 a2_0] 3 (0, 0))) (hr0 : Kd.C (Kd.int .i64) w A0 l0.length l0) (hc0 : l0.length ≤ c0) (h : Q34.f k l0 a1_0 a1_1 a2_0 = some r) :
    Calls Try.prog 54 #[.slice A0 l0.length c0, .func (.func 55) #[] #[.pointer (some ⟨gc1, 0, none⟩), .pointer (some ⟨gc2, 0, none⟩)]] w fun e w' => ∃ v0_ : Value, e = .returned (v0_) ∧ Kd.R (Kd.int .i64) 3 w' w.heap.size (fun _ => True) v0_ r ∧ Below w.heap.size w w' := by
 have HR0 := A_ hr0; have HC0 := A_ hc0; clear hr0 hc0; have BK1 := A_ hb1; clear hb1; have BK2 := A_ hb2; clear hb2; have HB := A_ (Below.refl w.heap.size w); have H : (Q34.l0 k (([] : List Int)) l0 (l0.length : Int) 0 a1_0 a1_1 a2_0) = some r := h; clear h
 obtain ⟨y200, hy200⟩ : ∃ y_ : List Int, y_ = (([] : List Int)) := ⟨_, rfl⟩
 replace H : (Q34.l0 k y200 l0 (l0.length : Int) 0 a1_0 a1_1 a2_0) = some r := by first | (rw [hy200]; with_reducible exact H) | (have H2_ := (Option.bind_some _ _).symm.trans H; rw [hy200]; with_reducible exact H2_) | (have H2_ := (Option.bind_some _ _).symm.trans H; with_reducible exact H2_) | with_reducible exact H | (rw [hy200]; exact H) | exact H
 have Ny200 := A_ hy200; clear hy200; have H' := A_ H; clear H; go_enter Try.func54, Try.ntmps54
 go_wp2_with (first | ((with_reducible refine gate_dst (N := 8) rfl ?_); refine Kd.R_lit (Kd.int .i64) _ 3 ?hg (N := 8) ?hd (xs := ([] : List Int)) (inner := []) (ok := fun _ => True) (okp := fun _ => True) ?hr ?hp (fun _ hk => hk) trivial (Below.refl _ _) (Nat.le_refl _) (by simp) ?_; (case hd => rfl); (case hg => rfl); (case hr => first | (go_simp; done) | (go_simp; rfl)); (case hp => exact (Reps.none _ _)); intro v201 w4 ho5 hb hg_ hnew_; clear hg_ hnew_; (first | rw [← Ny200.out] at ho5 | (simp only [Int.reduceToNat] at ho5; rw [← Ny200.out] at ho5)); have HO202 := A_ (Kd.R_lower (Kd.R_newB ho5 (g := gc2) (o := .cells #[.int .i64 a2_0] 3 (0, 0)) (bq BK2)) (below_size (hq HB))); replace BK1 := A_ (blk_below (bq BK1) hb); replace BK2 := A_ (blk_below (bq BK2) hb); replace HB := A_ (below_step (hq HB) hb); clear hb ho5))
 go_loopg [5, 11] k (fun kq v5 v11 w' => ∃ (x5_1 : List Int) (x11_1 : Int), v11 = .int .i64 x11_1 ∧ Aside0 (Q34.l0 kq x5_1 l0 (l0.length : Int) x11_1 a1_0 a1_1 a2_0 = some r) ∧ Aside0 (kq ≤ k) ∧ Aside0 (Kd.R (Kd.int .i64) 3 w' w.heap.size (fun k_ => k_ ≠ gc2) v5 x5_1) ∧ Aside0 (w'.heap[gc1]? = some (.cells #[.int .i64 a1_0, .bool a1_1] 25 (0, 0))) ∧ Aside0 (w'.heap[gc2]? = some (.cells #[.int .i64 a2_0] 3 (0, 0))) ∧ Aside0 (Below w.heap.size w w'))
 case atStart => exact ⟨(y200), (0), rf, H', ⟨Nat.le_refl _⟩, ⟨rm HO202⟩, ⟨bq BK1⟩, ⟨bq BK2⟩, ⟨hq HB⟩⟩
 case round =>
  clear H'; obtain ⟨x5_1, x11_1, rfl, HA, HK1, HO_5, BK1, BK2, HB⟩ := hrel
  cases gk with
  | zero => exact absurd HA.out (by simp [Q34.l0])
  | succ k1 =>
   have H := HA.out; clear HA; simp only [Q34.l0] at H
   by_cases c6 : x11_1 < (l0.length : Int)
   ·
    rw [if_pos c6] at H; have c6b0 := decide_eq_true c6; clear c6; by_cases c7 : 0 ≤ x11_1
    ·
     rw [if_pos c7] at H; have c7b0 := decide_eq_true c7; clear c7; by_cases c8 : x11_1 < (l0.length : Int)
     ·
      rw [if_pos c8] at H; have c8b0 := decide_eq_true c8; clear c8; replace H := bm H; obtain ⟨t204, A9, H⟩ := H; by_cases c10 : x5_1.length < 17592186044416
      ·
       rw [if_pos c10] at H; have LMc10 := A_ c10; clear c10
       obtain ⟨y205, hy205⟩ : ∃ y_ : List Int, y_ = (x5_1 ++ [t204]) := ⟨_, rfl⟩
       replace H : (Q34.l0 k1 y205 l0 (l0.length : Int) (wrap64 (x11_1 + 1)) a1_0 a1_1 a2_0) = some r := by first | (rw [hy205]; with_reducible exact H) | (have H2_ := (Option.bind_some _ _).symm.trans H; rw [hy205]; with_reducible exact H2_) | (have H2_ := (Option.bind_some _ _).symm.trans H; with_reducible exact H2_) | with_reducible exact H | (rw [hy205]; exact H) | exact H
       have Ny205 := A_ hy205; clear hy205; have H' := A_ H; clear H; have p203 : 0 ≤ (x11_1 : Int) := dq; have q203 : x11_1 < (l0.length : Int) := dq; obtain ⟨ad203, e203, hx203_0⟩ := Kd.at_int HR0.out x11_1 p203 q203
       cases e203
       replace hx203_0 := (HB.out.cell (World.block_lt_of_cell? w _ hx203_0)).trans hx203_0; replace p203 := eq_true p203; replace q203 := eq_true q203; go_wp2_with (first | (go_at_call 55; (with_reducible refine (Q66.calls (rd l0 x11_1) gc1 a1_0 a1_1 gc2 a2_0 t204 _ ?side1 ?side2 A9.out).mono ?_); (case side1 => (with_reducible repeat (first | refine blk_drewN ?_ _ | refine blk_drew ?_ | refine blk_alloc ?_ _)); exact BK1.out); (case side2 => (with_reducible repeat (first | refine blk_drewN ?_ _ | refine blk_drew ?_ | refine blk_alloc ?_ _)); exact BK2.out); rintro e w' ⟨rfl, ⟨nd, rfl⟩⟩) | ((with_reducible refine gate_builtin (b := .append) (xs := #[.tmp 15, .tmp 19]) rfl ?_); at_builtin; refine Kd.R_append (Kd.int .i64) (w0 := w) w.heap.size rfl (.tmp 15) (.tmp 19) 26 3 (.int .i64 0) 8 rfl Try.underlying26 info3 rfl (by decide) (by omega) u5 x5_1 t204 [.int .i64 t204] (fun k_ => k_ ≠ gc2) (fun _ => False) rfl rfl ?aP (fun _ hk => hk.elim) ?aF ?aO ?aB ?aS ?aL ?_; (case aP => exact rfl); (case aB => exact (hq HB)); (case aF => exact (fun k_ hk => Kd.freshB (g := gc2) (o := .cells #[.int .i64 a2_0] 3 (0, 0)) (bq BK2) k_ hk)); (case aO => exact (rq HO_5)); (case aS => exact (below_size (hq HB))); (case aL => have := LMc10.out; omega); intro v206 w11 ho hb hg hat; rw [← Ny205.out] at ho; have n0_ := A_ (blk_grown (g := gc1) (o := .cells #[.int .i64 a1_0, .bool a1_1] 25 (0, 0)) (bq BK1) hg (Kd.R_ne HO_5.out BK1.out (by decide))); have n1_ := A_ (blk_grown (g := gc2) (o := .cells #[.int .i64 a2_0] 3 (0, 0)) (bq BK2) hg (Kd.R_away HO_5.out (fun _ hk => hk))); have n2_ := A_ (hb); have n3_ := A_ (ho); clear BK1; clear BK2; clear HB; clear HO_5; have BK1 := n0_; have BK2 := n1_; have HB := n2_; have HO207 := n3_; clear n0_ n1_ n2_ n3_; clear ho hb hg hat))
       go_roundg k1
       case measure => have := HK1.out; omega
       case rel => exact ⟨(y205), (wrap64 (x11_1 + 1)), rf, H', ⟨by have := HK1.out; omega⟩, ⟨rq HO207⟩, ⟨bq BK1⟩, ⟨bq BK2⟩, ⟨hq HB⟩⟩
      ·
       rw [if_neg c10] at H; exact absurd H (by simp)
     ·
      rw [if_neg c8] at H; exact absurd H (by simp)
    ·
     rw [if_neg c7] at H; exact absurd H (by simp)
   ·
    rw [if_neg c6] at H; have c6b0 := decide_eq_false c6; clear c6; obtain rfl := Option.some.inj H; go_wp2
    go_ret
    exact ⟨_, rt, by (with_reducible repeat (first | apply Kd.R_alloc | apply Kd.R_drewN | apply Kd.R_drew)); exact Kd.R_mono HO_5.out (fun _ hk => trivial), hq HB⟩

/-! ### impl_Road_tour_2: function 58 -/
def Q55.f (a0 : Int) : Option (Bool) := some (a0 == 0)
set_option maxHeartbeats 8000000 in
set_option maxRecDepth 100000 in
theorem Q55.calls (a0 : Int) (r : Bool) (w : World) (h : Q55.f a0 = some r) :
    Calls Try.prog 58 #[.int .i64 a0] w fun e w' => e = .returned (.bool r) ∧ Drawn0 w w' := by
 have H : (some (a0 == 0)) = some r := h; clear h; obtain rfl := Option.some.inj H; go_enter Try.func58, Try.ntmps58
 go_wp2
 go_ret
 exact ⟨rf, by repeat (first | exact Drawn0.refl _ | apply Drawn0.step)⟩

/-! ### slices_IndexFunc_int_int___Road_tour_2: function 73 -/
def Q38.l0 : Nat → List Int → Int → Int → Option (Int)
  | 0, _, _, _ => none
  | k + 1, x0, x7, x8 => if x8 < x7 then (if 0 ≤ x8 then (if x8 < (x0.length : Int) then ((Q55.f (rd x0 x8)).bind fun t209 => (if t209 = true then (some x8) else (Q38.l0 k x0 x7 (wrap64 (x8 + 1))))) else (none)) else (none)) else (some (-1))
def Q38.f (k : Nat) (l0 : List Int) : Option (Int) := Q38.l0 k l0 (l0.length : Int) 0
set_option maxHeartbeats 8000000 in
set_option maxRecDepth 100000 in
theorem Q38.calls (k : Nat) (A0 : Option Addr) (c0 : Nat) (l0 : List Int) (r : Int) (w : World) (hr0 : Kd.C (Kd.int .i64) w A0 l0.length l0) (hc0 : l0.length ≤ c0) (h : Q38.f k l0 = some r) :
    Calls Try.prog 73 #[.slice A0 l0.length c0, .func (.func 58) #[] #[]] w fun e w' => e = .returned (.int .i64 r) ∧ Below w.heap.size w w' := by
 have HR0 := A_ hr0; have HC0 := A_ hc0; clear hr0 hc0; have HB := A_ (Below.refl w.heap.size w); have H : (Q38.l0 k l0 (l0.length : Int) 0) = some r := h; clear h; have H' := A_ H; clear H; go_enter Try.func73, Try.ntmps73
 go_wp2
 go_loopg [8] k (fun kq v8 w' => ∃ (x8_1 : Int), v8 = .int .i64 x8_1 ∧ Aside0 (Q38.l0 kq l0 (l0.length : Int) x8_1 = some r) ∧ Aside0 (kq ≤ k) ∧ Aside0 (Below w.heap.size w w'))
 case atStart => exact ⟨(0), rf, H', ⟨Nat.le_refl _⟩, ⟨hq HB⟩⟩
 case round =>
  clear H'; obtain ⟨x8_1, rfl, HA, HK1, HB⟩ := hrel
  cases gk with
  | zero => exact absurd HA.out (by simp [Q38.l0])
  | succ k1 =>
   have H := HA.out; clear HA; simp only [Q38.l0] at H
   by_cases c2 : x8_1 < (l0.length : Int)
   ·
    rw [if_pos c2] at H; have c2b0 := decide_eq_true c2; clear c2; by_cases c3 : 0 ≤ x8_1
    ·
     rw [if_pos c3] at H; have c3b0 := decide_eq_true c3; clear c3; by_cases c4 : x8_1 < (l0.length : Int)
     ·
      rw [if_pos c4] at H; have c4b0 := decide_eq_true c4; clear c4; replace H := bm H; obtain ⟨t209, A5, H⟩ := H; by_cases c6 : t209 = true
      ·
       subst c6
       have H1 : (some x8_1) = some r := by rw [if_pos rfl] at H; exact H
       clear H; have H := H1; clear H1; obtain rfl := Option.some.inj H; have p208 : 0 ≤ (x8_1 : Int) := dq; have q208 : x8_1 < (l0.length : Int) := dq; obtain ⟨ad208, e208, hx208_0⟩ := Kd.at_int HR0.out x8_1 p208 q208
       cases e208
       replace hx208_0 := (HB.out.cell (World.block_lt_of_cell? w _ hx208_0)).trans hx208_0; replace p208 := eq_true p208; replace q208 := eq_true q208; go_wp2_with (first | (go_at_call 58; (with_reducible refine (Q55.calls (rd l0 x8_1) true _ A5.out).mono ?_); rintro e w' ⟨rfl, ⟨nd, rfl⟩⟩))
       go_ret
       exact ⟨rt, hq HB⟩
      ·
       replace c6 := Bool.eq_false_iff.mpr c6; subst c6
       have H1 : (Q38.l0 k1 l0 (l0.length : Int) (wrap64 (x8_1 + 1))) = some r := by rw [if_neg (show ¬ (false = true) by decide)] at H; exact H
       clear H; have H := H1; clear H1; have H' := A_ H; clear H; have p208 : 0 ≤ (x8_1 : Int) := dq; have q208 : x8_1 < (l0.length : Int) := dq; obtain ⟨ad208, e208, hx208_0⟩ := Kd.at_int HR0.out x8_1 p208 q208
       cases e208
       replace hx208_0 := (HB.out.cell (World.block_lt_of_cell? w _ hx208_0)).trans hx208_0; replace p208 := eq_true p208; replace q208 := eq_true q208; go_wp2_with (first | (go_at_call 58; (with_reducible refine (Q55.calls (rd l0 x8_1) false _ A5.out).mono ?_); rintro e w' ⟨rfl, ⟨nd, rfl⟩⟩))
       go_roundg k1
       case measure => have := HK1.out; omega
       case rel => exact ⟨(wrap64 (x8_1 + 1)), rf, H', ⟨by have := HK1.out; omega⟩, ⟨hq HB⟩⟩
     ·
      rw [if_neg c4] at H; exact absurd H (by simp)
    ·
     rw [if_neg c3] at H; exact absurd H (by simp)
   ·
    rw [if_neg c2] at H; have c2b0 := decide_eq_false c2; clear c2; obtain rfl := Option.some.inj H; go_wp2
    go_ret
    exact ⟨rt, hq HB⟩

end Go.Proofs.Ytbjpfnpleajhgad.PFnTours
