-- Told shorter still by shrink2.py.
-- Printed, and told shorter by this session's program shrink.py.
-- Printed by this session's program myprint.py.
import Derived.Test.YtbjpfnpleajhgadPFnToursx0
import Derived.Test.YtbjpfnpleajhgadPFnToursx1
namespace Go.Proofs.Ytbjpfnpleajhgad.PFnTours
open Go.RowKit Go.Proofs.Ytbjpfnpleajhgad.Own Go.Proofs.YtbjpfnpleajhgadW.PrintWords Go.Proofs.YtbjpfnpleajhgadW.PrintLast Go.Proofs.YtbjpfnpleajhgadW.PrintMore
attribute [local go_sem] max2_int min2_int max_two min_two max_three min_three max_four min_four   -- for this text's walks alone
set_option linter.unusedVariables false
set_option linter.unusedSimpArgs false

/-! ### spec_DrawNeighborsOn: function 32 -/
def Q62.f (l0 : List Int) : Option (Int × Bool × Int) := (Q35.f l0 0 0).bind fun bt259 => ((Q39.f l0 bt259.2.2.1 bt259.2.2.2 bt259.1 bt259.2.1).bind fun bt264 => (some (bt259.1, bt259.2.1, bt264.1)))
set_option maxHeartbeats 8000000 in
set_option maxRecDepth 100000 in
theorem Q62.calls (A0 : Option Addr) (c0 : Nat) (l0 : List Int) (r1 : Int) (r2 : Bool) (r3 : Int) (w : World) (hr0 : Kd.C (Kd.int .u8) w A0 l0.length l0) (hc0 : l0.length ≤ c0) (h : Q62.f l0 = some (r1, r2, r3)) :
    Calls Try.prog 32 #[.slice A0 l0.length c0] w fun e w' => e = .returned (.tuple #[.agg #[.int .i64 r1, .bool r2], .int .i64 r3]) ∧ Below w.heap.size w w' := by
 have hu25 := Try.underlying25; have hu47 := Try.underlying47; have HR0 := A_ hr0; have HC0 := A_ hc0; clear hr0 hc0; have HB := A_ (Below.refl w.heap.size w); have H : ((Q35.f l0 0 0).bind fun bt259 => ((Q39.f l0 bt259.2.2.1 bt259.2.2.2 bt259.1 bt259.2.1).bind fun bt264 => (some (bt259.1, bt259.2.1, bt264.1)))) = some (r1, r2, r3) := h; clear h; replace H := bm H; obtain ⟨⟨t259, t260, t261, t262⟩, A2, H⟩ := H; (try dsimp only at H); replace H := bm H; obtain ⟨⟨t264, t265, t266⟩, A3, H⟩ := H; (try dsimp only at H); simp only [Option.some.injEq, Prod.mk.injEq] at H
 obtain ⟨rfl, rfl, rfl⟩ := H; go_enter Try.func32, Try.ntmps32
 try go_wp2_with (first | ((with_reducible refine gate_dst (N := 2) rfl ?_); refine bx (N := 2) #[.int .i64 0, .bool false] 25 ?_; intro gb257 hg w4 hbox hb; have BK257 := A_ (hbox); have GW257 := A_ (bs hg (hq HB) : w.heap.size ≤ gb257); have GE257 := A_ (bs hg (hq HB) : w.heap.size ≤ gb257); replace HB := A_ (below_step (hq HB) hb); clear hb hbox hg) | ((with_reducible refine gate_dst (N := 8) rfl ?_); refine bx (N := 8) #[.slice A0 l0.length c0, .int .i64 0, .int .u64 0] 47 ?_; intro gb258 hg w5 hbox hb; have GW258 := A_ (bs hg (hq HB) : w.heap.size ≤ gb258); have GE258 := A_ (bs hg (hq HB) : w.heap.size ≤ gb258); have NB257_258 := A_ ((by rw [hg]; exact Nat.ne_of_lt (blk_lt (bq BK257)) : gb257 ≠ gb258)); have NB258_257 := A_ ((by rw [hg]; exact Nat.ne_of_gt (blk_lt (bq BK257)) : gb258 ≠ gb257)); replace BK257 := A_ (blk_below (bq BK257) hb); have HI258 := A_ ((⟨_, _, hbox, by rw [hg]; exact (below_size (hq HB)), HR0.out⟩ : IsS47 w w5 gb258 l0 0 0)); replace HB := A_ (below_step (hq HB) hb); clear hb hbox hg) | ((with_reducible refine gate_callee (f := 21) rfl ?_); refine gL (some 10) Try.func21 #[.pointer (some ⟨gb258, 0, none⟩)] ?_; (with_reducible refine (Q35.calls gb258 l0 0 0 t259 t260 t261 t262 w _ ?side1 ?side2 A2.out).mono ?_); (case side1 => repeat (first | (with_reducible first | exact HI258.out | apply IsS47.alloc | apply IsS47.drewN | apply IsS47.drew | apply IsS47.set_1 | apply IsS47.set_2 | refine IsS47.far ?_ NB258_257.out _) | exact HI258.out)); (case side2 => repeat (first | (with_reducible first | exact HB.out | apply below_alloc | apply pw_below_drewN | apply below_drew1 | refine below_set ?_ (IsS47.ge HI258.out) | refine below_set ?_ GE257.out) | exact HB.out)); rintro e w6 ⟨rfl, hi, hb, hk⟩; refine ⟨_, rfl, ?_⟩; replace BK257 := A_ (KeepBut.blk hk (g' := gb257) (o := .cells #[.int .i64 0, .bool false] 25 (0, 0)) (bq BK257) NB257_258.out (by simp)); replace HB := A_ (hb); replace HI258 := A_ (hi); clear hb hk hi) | ((with_reducible refine gate_dst (N := 5) rfl ?_); refine bx (N := 5) #[.int .i64 0, .bool false] 25 ?_; intro gb263 hg w7 hbox hb; have BK263 := A_ (hbox); have GW263 := A_ ((by rw [hg]; exact (below_size (by repeat (first | (with_reducible first | exact HB.out | apply below_alloc | apply pw_below_drewN | apply below_drew1 | refine below_set ?_ (IsS47.ge HI258.out) | refine below_set ?_ GE257.out) | exact HB.out))) : w.heap.size ≤ gb263)); have GE263 := A_ ((by rw [hg]; exact (below_size (by repeat (first | (with_reducible first | exact HB.out | apply below_alloc | apply pw_below_drewN | apply below_drew1 | refine below_set ?_ (IsS47.ge HI258.out) | refine below_set ?_ GE257.out) | exact HB.out))) : w.heap.size ≤ gb263)); replace HB := A_ (below_step (by repeat (first | (with_reducible first | exact HB.out | apply below_alloc | apply pw_below_drewN | apply below_drew1 | refine below_set ?_ (IsS47.ge HI258.out) | refine below_set ?_ GE257.out) | exact HB.out)) hb); have NB257_263 := A_ ((by rw [hg]; exact Nat.ne_of_lt (blk_lt (bq BK257)) : gb257 ≠ gb263)); have NB263_257 := A_ ((by rw [hg]; exact Nat.ne_of_gt (blk_lt (bq BK257)) : gb263 ≠ gb257)); replace BK257 := A_ (blk_below (bq BK257) hb); have NB258_263 := A_ ((by rw [hg]; exact Nat.ne_of_lt (IsS47.lt (show IsS47 w _ gb258 l0 t261 t262 from by repeat (first | (with_reducible first | exact HI258.out | apply IsS47.alloc | apply IsS47.drewN | apply IsS47.drew | apply IsS47.set_1 | apply IsS47.set_2 | refine IsS47.far ?_ NB258_257.out _) | exact HI258.out))) : gb258 ≠ gb263)); have NB263_258 := A_ ((by rw [hg]; exact Nat.ne_of_gt (IsS47.lt (show IsS47 w _ gb258 l0 t261 t262 from by repeat (first | (with_reducible first | exact HI258.out | apply IsS47.alloc | apply IsS47.drewN | apply IsS47.drew | apply IsS47.set_1 | apply IsS47.set_2 | refine IsS47.far ?_ NB258_257.out _) | exact HI258.out))) : gb263 ≠ gb258)); replace HI258 := A_ (IsS47.below (by repeat (first | (with_reducible first | exact HI258.out | apply IsS47.alloc | apply IsS47.drewN | apply IsS47.drew | apply IsS47.set_1 | apply IsS47.set_2 | refine IsS47.far ?_ NB258_257.out _) | exact HI258.out)) hb); clear hb hbox hg; have hnb8 := NB263_257.out; have hnc8 := NB257_263.out; have hnb9 := NB263_258.out; have hnc9 := NB258_263.out; have hcz10_0 : w7.cell? ⟨gb263, 0, none⟩ = some (.int .i64 0) := bc BK263 0; have hcz10_1 : w7.cell? ⟨gb263, 1, none⟩ = some (.bool false) := bc BK263 1; have hfz10_0 := blk_frozen BK263.out 0; have hfz10_1 := blk_frozen BK263.out 1))
 have n0_ : Aside0 (((w7.setCell ⟨gb263, 0, none⟩ (.int .i64 t259)).setCell ⟨gb263, 1, none⟩ (.bool t260)).heap[gb257]? = some (.cells #[.int .i64 0, .bool false] 25 (0, 0))) := ⟨by (with_reducible repeat (first | refine blk_drewN ?_ _ | refine blk_drew ?_ | refine blk_alloc ?_ _)); refine blk_far ?_ NB257_263.out _; (with_reducible repeat (first | refine blk_drewN ?_ _ | refine blk_drew ?_ | refine blk_alloc ?_ _)); refine blk_far ?_ NB257_263.out _; (with_reducible repeat (first | refine blk_drewN ?_ _ | refine blk_drew ?_ | refine blk_alloc ?_ _)); exact BK257.out⟩
 have n1_ : Aside0 (((w7.setCell ⟨gb263, 0, none⟩ (.int .i64 t259)).setCell ⟨gb263, 1, none⟩ (.bool t260)).heap[gb263]? = some (.cells #[.int .i64 t259, .bool t260] 25 (0, 0))) := ⟨by (with_reducible repeat (first | refine blk_drewN ?_ _ | refine blk_drew ?_ | refine blk_alloc ?_ _)); refine blk_put (cs := #[.int .i64 t259, .bool false]) ?_ 1 _ rfl; (with_reducible repeat (first | refine blk_drewN ?_ _ | refine blk_drew ?_ | refine blk_alloc ?_ _)); refine blk_put (cs := #[.int .i64 0, .bool false]) ?_ 0 _ rfl; (with_reducible repeat (first | refine blk_drewN ?_ _ | refine blk_drew ?_ | refine blk_alloc ?_ _)); exact BK263.out⟩
 have n2_ : Aside0 (IsS47 w ((w7.setCell ⟨gb263, 0, none⟩ (.int .i64 t259)).setCell ⟨gb263, 1, none⟩ (.bool t260)) gb258 l0 t261 t262) := ⟨by repeat (first | (with_reducible first | exact HI258.out | apply IsS47.alloc | apply IsS47.drewN | apply IsS47.drew | apply IsS47.set_1 | apply IsS47.set_2 | refine IsS47.far ?_ NB258_257.out _ | refine IsS47.far ?_ NB258_263.out _) | exact HI258.out)⟩
 have n3_ : Aside0 (Below w.heap.size w ((w7.setCell ⟨gb263, 0, none⟩ (.int .i64 t259)).setCell ⟨gb263, 1, none⟩ (.bool t260))) := ⟨by repeat (first | (with_reducible first | exact HB.out | apply below_alloc | apply pw_below_drewN | apply below_drew1 | refine below_set ?_ (IsS47.ge HI258.out) | refine below_set ?_ GE257.out | refine below_set ?_ GE263.out) | exact HB.out)⟩
 (try clear BK257); (try clear BK263); (try clear HI258); (try clear HB); generalize ((w7.setCell ⟨gb263, 0, none⟩ (.int .i64 t259)).setCell ⟨gb263, 1, none⟩ (.bool t260)) = w11 at n0_ n1_ n2_ n3_ ⊢; have BK257 := n0_; have BK263 := n1_; have HI258 := n2_; have HB := n3_; clear n0_ n1_ n2_ n3_; replace BK257 := A_ (blk_drew BK257.out); replace BK263 := A_ (blk_drew BK263.out); replace HI258 := A_ (IsS47.drew HI258.out); replace HB := A_ (below_drew1 HB.out); refine start_ (n := 6) (S := fun w' => w'.cell? ⟨gb263, 0, none⟩ = some (.int .i64 t259) ∧ w'.cell? ⟨gb263, 1, none⟩ = some (.bool t260)) (ds := []) #[false, false, false, false, false, false] (by kernel_rfl) rfl rfl ⟨bc BK263 0, bc BK263 1⟩ (fun hHeld => ?_); generalize w11.drew = w12 at BK257 BK263 HI258 HB hHeld ⊢; refine pu (i := 1) (N := some 12) #[false, true, false, false, false, false] ?_; refine tk (i := 0) (N := some 11) hHeld #[true, true, false, false, false, false] ?_; refine tk (i := 2) (N := some 13) hHeld #[true, true, true, false, false, false] ?_; refine on (i := 3) (N := some 14) #[true, true, true, true, false, false] (fun K hK => ?_); refine go_ Try.func23 #[.pointer (some ⟨gb258, 0, none⟩), .agg #[.int .i64 t259, .bool t260]] ?_; with_reducible refine (Q39.calls gb258 l0 t261 t262 t259 t260 t264 t265 t266 w _ ?side1 ?side2 A3.out).mono ?_
 (case side1 => repeat (first | (with_reducible first | exact HI258.out | apply IsS47.alloc | apply IsS47.drewN | apply IsS47.drew | apply IsS47.set_1 | apply IsS47.set_2 | refine IsS47.far ?_ NB258_257.out _ | refine IsS47.far ?_ NB258_263.out _) | exact HI258.out)); (case side2 => repeat (first | (with_reducible first | exact HB.out | apply below_alloc | apply pw_below_drewN | apply below_drew1 | refine below_set ?_ (IsS47.ge HI258.out) | refine below_set ?_ GE257.out | refine below_set ?_ GE263.out) | exact HB.out)); rintro e w13 ⟨rfl, hi, hb, hk⟩; refine ⟨_, rfl, ?_⟩; replace BK257 := A_ (KeepBut.blk hk (g' := gb257) (o := .cells #[.int .i64 0, .bool false] 25 (0, 0)) (bq BK257) NB257_258.out (by simp)); replace BK263 := A_ (KeepBut.blk hk (g' := gb263) (o := .cells #[.int .i64 t259, .bool t260] 25 (0, 0)) (bq BK263) NB263_258.out (by simp)); replace HB := A_ (hb); replace HI258 := A_ (hi); clear hb hk hi; refine hK.out _ _ ⟨bc BK263 0, bc BK263 1⟩ (fun hHeld => ?_); clear hK K; refine nq_ (some 14) ?_; refine on (i := 4) (N := none) #[true, true, true, true, true, false] (fun K hK => ?_); have hs14 : w13.cell? ⟨gb257, 0, none⟩ = some (.int .i64 0) := bc BK257 0; have hfs14 := blk_frozen BK257.out 0; have hns14_1 := NB263_257.out; have hms14_1 := NB257_263.out; have hs15 : w13.cell? ⟨gb257, 1, none⟩ = some (.bool false) := bc BK257 1; have hfs15 := blk_frozen BK257.out 1; have hns15_1 := NB263_257.out; have hms15_1 := NB257_263.out; refine skip_ (w1 := ?_) (by rfl) rfl ?_ ?_
 rotate_left
 ·
  go_simp
  rfl
 refine hK.out _ _ ⟨((cell_far (p := ⟨gb257, _, none⟩) NB263_257.out _).trans (((cell_far (p := ⟨gb257, _, none⟩) NB263_257.out _).trans (hHeld.1)))), ((cell_far (p := ⟨gb257, _, none⟩) NB263_257.out _).trans (((cell_far (p := ⟨gb257, _, none⟩) NB263_257.out _).trans (hHeld.2))))⟩ (fun hHeld => ?_); clear hK K; refine pu (i := 5) (N := some 3) #[true, true, true, true, true, true] ?_; refine done_ (by kernel_rfl) ?_; try go_wp2
 refine bodyPost_ret (results_ct rfl _ _ gb257 25 #[.int .i64 t259, .bool t260] (0, 0) _ rfl (by (with_reducible repeat (first | refine blk_drewN ?_ _ | refine blk_drew ?_ | refine blk_alloc ?_ _)); refine blk_put (cs := #[.int .i64 t259, .bool false]) ?_ 1 _ rfl; (with_reducible repeat (first | refine blk_drewN ?_ _ | refine blk_drew ?_ | refine blk_alloc ?_ _)); refine blk_put (cs := #[.int .i64 0, .bool false]) ?_ 0 _ rfl; (with_reducible repeat (first | refine blk_drewN ?_ _ | refine blk_drew ?_ | refine blk_alloc ?_ _)); exact BK257.out) Try.underlying25 rfl (by kernel_rfl)) rfl ?_; exact ⟨rt, by repeat (first | (with_reducible first | exact HB.out | apply below_alloc | apply pw_below_drewN | apply below_drew1 | refine below_set ?_ (IsS47.ge HI258.out) | refine below_set ?_ GE257.out | refine below_set ?_ GE263.out) | exact HB.out)⟩

/-! ### spec_DrawSweepWalk: function 8 -/
def Q63.f (l0 : List Int) : Option (Int × Bool × Int) := (Q62.f l0).bind fun bt268 => (some (bt268.1, bt268.2.1, bt268.2.2))
set_option maxHeartbeats 8000000 in
set_option maxRecDepth 100000 in
theorem Q63.calls (A0 : Option Addr) (c0 : Nat) (l0 : List Int) (r1 : Int) (r2 : Bool) (r3 : Int) (w : World) (hr0 : Kd.C (Kd.int .u8) w A0 l0.length l0) (hc0 : l0.length ≤ c0) (h : Q63.f l0 = some (r1, r2, r3)) :
    Calls Try.prog 8 #[.slice A0 l0.length c0] w fun e w' => e = .returned (.tuple #[.agg #[.int .i64 r1, .bool r2], .int .i64 r3]) ∧ Below w.heap.size w w' := by
 have hu25 := Try.underlying25; have HR0 := A_ hr0; have HC0 := A_ hc0; clear hr0 hc0; have HB := A_ (Below.refl w.heap.size w); have H : ((Q62.f l0).bind fun bt268 => (some (bt268.1, bt268.2.1, bt268.2.2))) = some (r1, r2, r3) := h; clear h; replace H := bm H; obtain ⟨⟨t268, t269, t270⟩, A2, H⟩ := H; (try dsimp only at H); simp only [Option.some.injEq, Prod.mk.injEq] at H
 obtain ⟨rfl, rfl, rfl⟩ := H; go_enter Try.func8, Try.ntmps8
 go_wp2_with (first | ((with_reducible refine gate_dst (N := 2) rfl ?_); refine bx (N := 2) #[.int .i64 0, .bool false] 25 ?_; intro gb267 hg w3 hbox hb; have BK267 := A_ (hbox); have GW267 := A_ (bs hg (hq HB) : w.heap.size ≤ gb267); have GE267 := A_ (bs hg (hq HB) : w.heap.size ≤ gb267); replace HB := A_ (below_step (hq HB) hb); clear hb hbox hg) | ((with_reducible refine gate_callee (f := 32) rfl ?_); refine gL (some 5) Try.func32 #[.slice A0 l0.length c0] ?_; (with_reducible refine (Q62.calls _ _ l0 t268 t269 t270 _ ?side1 ?side2 A2.out).mono ?_); (case side1 => exact cq (Kd.C_below HR0.out HB.out)); (case side2 => exact HC0.out); rintro e w4 ⟨rfl, hb⟩; refine ⟨_, rfl, ?_⟩; replace BK267 := A_ (blk_below (bq BK267) hb); replace HB := A_ (below_step (hq HB) hb); clear hb; have hcz5_0 : w4.cell? ⟨gb267, 0, none⟩ = some (.int .i64 0) := bc BK267 0; have hcz5_1 : w4.cell? ⟨gb267, 1, none⟩ = some (.bool false) := bc BK267 1; have hfz5_0 := blk_frozen BK267.out 0; have hfz5_1 := blk_frozen BK267.out 1))
 refine bodyPost_ret (results_ct rfl _ _ gb267 25 #[.int .i64 t268, .bool t269] (0, 0) _ rfl (by (with_reducible repeat (first | refine blk_drewN ?_ _ | refine blk_drew ?_ | refine blk_alloc ?_ _)); refine blk_put (cs := #[.int .i64 t268, .bool false]) ?_ 1 _ rfl; (with_reducible repeat (first | refine blk_drewN ?_ _ | refine blk_drew ?_ | refine blk_alloc ?_ _)); refine blk_put (cs := #[.int .i64 0, .bool false]) ?_ 0 _ rfl; (with_reducible repeat (first | refine blk_drewN ?_ _ | refine blk_drew ?_ | refine blk_alloc ?_ _)); exact BK267.out) Try.underlying25 rfl (by kernel_rfl)) rfl ?_; exact ⟨rt, hq HB⟩

/-! ### impl_Road_straight: function 61 -/
mutual
def Q1.j0 : Nat → List Int → Int → Int → Int → Int → Bool → Option (List Int)
  | 0, _, _, _, _, _, _ => none
  | k + 1, x1, x2, x7, x8, x272000, x272001 => Q1.l0 k x1 x2 x7 x8 x272000 x272001
def Q1.l0 : Nat → List Int → Int → Int → Int → Int → Bool → Option (List Int)
  | 0, _, _, _, _, _, _ => none
  | k + 1, x1, x2, x7, x8, x272000, x272001 => if x7 = x2 then (some x1) else (if x272000 = 0 then (none) else (if x1.length < 17592186044416 then (Q1.l0 k (x1 ++ [Int.tmod (wrap64 ((wrap64 (x7 + x8)) + x272000)) x272000]) x2 (Int.tmod (wrap64 ((wrap64 (x7 + x8)) + x272000)) x272000) x8 x272000 x272001) else (none)))
end
def Q1.f (k : Nat) (a0_0 : Int) (a0_1 : Bool) (l1 : List Int) (a2 : Int) : Option (List Int) := if 0 ≤ (wrap64 ((l1.length : Int) - 1)) then (if (wrap64 ((l1.length : Int) - 1)) < (l1.length : Int) then (if a0_1 = true then (if a0_0 = 0 then (none) else (if (Int.tmod (wrap64 ((wrap64 (a2 - (rd l1 (wrap64 ((l1.length : Int) - 1))))) + a0_0)) a0_0) > (wrap64 (a0_0 - (Int.tmod (wrap64 ((wrap64 (a2 - (rd l1 (wrap64 ((l1.length : Int) - 1))))) + a0_0)) a0_0))) then (Q1.j0 k l1 a2 (rd l1 (wrap64 ((l1.length : Int) - 1))) (-1) a0_0 a0_1) else (Q1.j0 k l1 a2 (rd l1 (wrap64 ((l1.length : Int) - 1))) 1 a0_0 a0_1))) else (if (wrap64 (a2 - (rd l1 (wrap64 ((l1.length : Int) - 1))))) < 0 then (Q1.j0 k l1 a2 (rd l1 (wrap64 ((l1.length : Int) - 1))) (-1) a0_0 a0_1) else (Q1.j0 k l1 a2 (rd l1 (wrap64 ((l1.length : Int) - 1))) 1 a0_0 a0_1))) else (none)) else (none)
theorem Q1.mono_l : ∀ k, (∀ y0 y1 y2 y3 y4 y5, LeO (Q1.j0 k y0 y1 y2 y3 y4 y5) (Q1.j0 (k + 1) y0 y1 y2 y3 y4 y5)) ∧ (∀ y0 y1 y2 y3 y4 y5, LeO (Q1.l0 k y0 y1 y2 y3 y4 y5) (Q1.l0 (k + 1) y0 y1 y2 y3 y4 y5))
  | 0 => ⟨fun _ _ _ _ _ _ r h => by simp [Q1.j0] at h, fun _ _ _ _ _ _ r h => by simp [Q1.l0] at h⟩
  | k + 1 => by
    obtain ⟨ih0, ih1⟩ := Q1.mono_l k
    refine ⟨?_, ?_⟩
    · intro y0 y1 y2 y3 y4 y5
      unfold Q1.j0
      repeat' first
      | (with_reducible exact ih0 _ _ _ _ _ _)
      | (with_reducible exact ih1 _ _ _ _ _ _)
      | (with_reducible exact LeO.refl _)
      | (with_reducible exact LeO.none _)
      | (with_reducible refine LeO.ite ?_ ?_)
      | (with_reducible refine LeO.bind ?_ (fun _ => ?_))
      | exact ih0 _ _ _ _ _ _
      | exact ih1 _ _ _ _ _ _
      | exact LeO.none _
      | refine LeO.ite ?_ ?_
      | refine LeO.bind ?_ (fun _ => ?_)
    · intro y0 y1 y2 y3 y4 y5
      unfold Q1.l0
      repeat' first
      | (with_reducible exact ih0 _ _ _ _ _ _)
      | (with_reducible exact ih1 _ _ _ _ _ _)
      | (with_reducible exact LeO.refl _)
      | (with_reducible exact LeO.none _)
      | (with_reducible refine LeO.ite ?_ ?_)
      | (with_reducible refine LeO.bind ?_ (fun _ => ?_))
      | exact ih0 _ _ _ _ _ _
      | exact ih1 _ _ _ _ _ _
      | exact LeO.none _
      | refine LeO.ite ?_ ?_
      | refine LeO.bind ?_ (fun _ => ?_)
theorem Q1.mono : ∀ a0 a1 a2 a3 k, LeO (Q1.f k a0 a1 a2 a3) (Q1.f (k + 1) a0 a1 a2 a3) := by
  intro a0 a1 a2 a3 k
  obtain ⟨ih0, ih1⟩ := Q1.mono_l k
  unfold Q1.f
  repeat' first
      | (with_reducible exact ih0 _ _ _ _ _ _)
      | (with_reducible exact ih1 _ _ _ _ _ _)
      | (with_reducible exact LeO.refl _)
      | (with_reducible exact LeO.none _)
      | (with_reducible refine LeO.ite ?_ ?_)
      | (with_reducible refine LeO.bind ?_ (fun _ => ?_))
      | exact ih0 _ _ _ _ _ _
      | exact ih1 _ _ _ _ _ _
      | exact LeO.none _
      | refine LeO.ite ?_ ?_
      | refine LeO.bind ?_ (fun _ => ?_)
set_option maxHeartbeats 8000000 in
set_option maxRecDepth 100000 in
theorem Q1.calls (k : Nat) (a0_0 : Int) (a0_1 : Bool) (P1_ : Nat → Prop) (u9000_ : Value) (l1 : List Int) (a2 : Int) (r : List Int) (w0 w : World) (hB : Below w0.heap.size w0 w) (ho1 : Kd.R (Kd.int .i64) 3 w w0.heap.size P1_ u9000_ l1) (h : Q1.f k a0_0 a0_1 l1 a2 = some r) :
    Calls Try.prog 61 #[.agg #[.int .i64 a0_0, .bool a0_1], u9000_, .int .i64 a2] w fun e w' => ∃ v0_ : Value, e = .returned (v0_) ∧ Kd.R (Kd.int .i64) 3 w' w0.heap.size (fun k_ => (P1_ k_ ∨ w.heap.size ≤ k_)) v0_ r ∧ Below w0.heap.size w0 w' ∧ Kept w w' (fun k_ => P1_ k_) := by
 have hu25 := Try.underlying25; have HO1 := A_ (show Kd.R (Kd.int .i64) 3 w w0.heap.size (fun k_ => (P1_ k_ ∨ w.heap.size ≤ k_)) u9000_ l1 from Kd.R_mono ho1 (fun k_ hk => (.inl hk))); have HK := A_ (Kept.refl w (fun k_ => P1_ k_)); have HW0 := A_ hB.size; have HB := A_ hB; clear hB; have H : (if 0 ≤ (wrap64 ((l1.length : Int) - 1)) then (if (wrap64 ((l1.length : Int) - 1)) < (l1.length : Int) then (if a0_1 = true then (if a0_0 = 0 then (none) else (if (Int.tmod (wrap64 ((wrap64 (a2 - (rd l1 (wrap64 ((l1.length : Int) - 1))))) + a0_0)) a0_0) > (wrap64 (a0_0 - (Int.tmod (wrap64 ((wrap64 (a2 - (rd l1 (wrap64 ((l1.length : Int) - 1))))) + a0_0)) a0_0))) then (Q1.j0 k l1 a2 (rd l1 (wrap64 ((l1.length : Int) - 1))) (-1) a0_0 a0_1) else (Q1.j0 k l1 a2 (rd l1 (wrap64 ((l1.length : Int) - 1))) 1 a0_0 a0_1))) else (if (wrap64 (a2 - (rd l1 (wrap64 ((l1.length : Int) - 1))))) < 0 then (Q1.j0 k l1 a2 (rd l1 (wrap64 ((l1.length : Int) - 1))) (-1) a0_0 a0_1) else (Q1.j0 k l1 a2 (rd l1 (wrap64 ((l1.length : Int) - 1))) 1 a0_0 a0_1))) else (none)) else (none)) = some r := h; clear h
 obtain ⟨ji4, hji4⟩ : ∃ j_ : Int, (wrap64 ((l1.length : Int) - 1)) = j_ := ⟨_, rfl⟩
 replace H : (if 0 ≤ (ji4) then (if (ji4) < (l1.length : Int) then (if a0_1 = true then (if a0_0 = 0 then (none) else (if (Int.tmod (wrap64 ((wrap64 (a2 - (rd l1 (ji4)))) + a0_0)) a0_0) > (wrap64 (a0_0 - (Int.tmod (wrap64 ((wrap64 (a2 - (rd l1 (ji4)))) + a0_0)) a0_0))) then (Q1.j0 k l1 a2 (rd l1 (ji4)) (-1) a0_0 a0_1) else (Q1.j0 k l1 a2 (rd l1 (ji4)) 1 a0_0 a0_1))) else (if (wrap64 (a2 - (rd l1 (ji4)))) < 0 then (Q1.j0 k l1 a2 (rd l1 (ji4)) (-1) a0_0 a0_1) else (Q1.j0 k l1 a2 (rd l1 (ji4)) 1 a0_0 a0_1))) else (none)) else (none)) = some r := by first | (rw [hji4] at H; exact H) | (simp only [hji4] at H ⊢; exact H)
 have hji4w : (IntKind.i64.wrap ((l1.length : Int) - 1)) = ji4 := (i64_w _).trans hji4; by_cases c5 : 0 ≤ (ji4)
 ·
  rw [if_pos c5] at H; have c5b0 := decide_eq_true c5; clear c5; by_cases c6 : (ji4) < (l1.length : Int)
  ·
   rw [if_pos c6] at H; have c6b0 := decide_eq_true c6; clear c6; have HC7 := A_ H; clear H; go_enter Try.func61, Try.ntmps61
   go_upto_if 20 with (first | ((with_reducible refine gate_dst (N := 3) rfl ?_); refine bx (N := 3) #[.int .i64 a0_0, .bool a0_1] 25 ?_; intro gb271 hg w8 hbox hb; replace HO1 := A_ (Kd.R_below (rq HO1) hb); have BK271 := A_ (hbox); have GW271 := A_ ((by rw [hg]; exact (by first | exact HK.out.1 | exact (show Kept w _ (fun k_ => P1_ k_) from by repeat (first | (with_reducible first | exact HK.out | apply Kept.alloc | apply Kept.drewN | apply Kept.drew) | exact HK.out)).1) : w.heap.size ≤ gb271)); replace HK := A_ (Kept.below (S := (fun k_ => P1_ k_)) (by repeat (first | (with_reducible first | exact HK.out | apply Kept.alloc | apply Kept.drewN | apply Kept.drew) | exact HK.out)) hb); have GE271 := A_ ((by rw [hg]; exact (below_size (hq HB)) : w0.heap.size ≤ gb271)); replace HB := A_ (below_step (hq HB) hb); clear hb hbox hg; obtain ⟨Ao9, co9, eo9⟩ := Kd.R_slice HO1.out; subst eo9; have p272 : 0 ≤ ((ji4) : Int) := dq; have q272 : (ji4) < (l1.length : Int) := dq; obtain ⟨ad272, e272, hx272_0⟩ := Kd.at_int (Kd.R_reads' HO1.out).2.2 (ji4) p272 q272; cases e272; replace p272 := eq_true p272; replace q272 := eq_true q272; have hcz10_0 : w8.cell? ⟨gb271, 0, none⟩ = some (.int .i64 a0_0) := bc BK271 0; have hcz10_1 : w8.cell? ⟨gb271, 1, none⟩ = some (.bool a0_1) := bc BK271 1; have hfz10_0 := blk_frozen BK271.out 0; have hfz10_1 := blk_frozen BK271.out 1))
   (try simp only [Act.put, List.setIfInBounds_toArray, List.set_cons_zero, List.set_cons_succ]); go_cut [8] (fun v8 wc => ∃ (kq : Nat) (x8_6 : Int), v8 = .int .i64 x8_6 ∧ Aside0 (Q1.j0 kq l1 a2 (rd l1 (ji4)) x8_6 a0_0 a0_1 = some r) ∧ Aside0 (kq ≤ k) ∧ Aside0 (Kd.R (Kd.int .i64) 3 wc w0.heap.size (fun k_ => (P1_ k_ ∨ w.heap.size ≤ k_)) (.slice (some ad272) l1.length co9) l1) ∧ Aside0 (wc.heap[gb271]? = some (.cells #[.int .i64 a0_0, .bool a0_1] 25 (0, 0))) ∧ Aside0 (Kept w wc (fun k_ => P1_ k_)) ∧ Aside0 (Below w0.heap.size w0 wc))
   case first =>
    have H := HC7.out; clear HC7; by_cases c11 : a0_1 = true
    ·
     subst c11
     have H1 : (if a0_0 = 0 then (none) else (if (Int.tmod (wrap64 ((wrap64 (a2 - (rd l1 (ji4)))) + a0_0)) a0_0) > (wrap64 (a0_0 - (Int.tmod (wrap64 ((wrap64 (a2 - (rd l1 (ji4)))) + a0_0)) a0_0))) then (Q1.j0 k l1 a2 (rd l1 (ji4)) (-1) a0_0 true) else (Q1.j0 k l1 a2 (rd l1 (ji4)) 1 a0_0 true))) = some r := by rw [if_pos rfl] at H; exact H
     clear H; have H := H1; clear H1; by_cases c12 : a0_0 = 0
     ·
      rw [if_pos c12] at H; exact absurd H (by simp)
     ·
      rw [if_neg c12] at H; have c12b0 : (a0_0 == 0) = false := beq_eq_false_iff_ne.mpr c12; have c12b1 : (a0_0 != 0) = true := bne_iff_ne.mpr c12; (first | rw [c12b0] | (simp only [i64_w, i32_w]; rw [c12b0]) | skip); by_cases c13 : (Int.tmod (wrap64 ((wrap64 (a2 - (rd l1 (ji4)))) + a0_0)) a0_0) > (wrap64 (a0_0 - (Int.tmod (wrap64 ((wrap64 (a2 - (rd l1 (ji4)))) + a0_0)) a0_0)))
      ·
       rw [if_pos c13] at H; have c13b0 : decide ((wrap64 (a0_0 - (Int.tmod (wrap64 ((wrap64 (a2 - (rd l1 (ji4)))) + a0_0)) a0_0))) < (Int.tmod (wrap64 ((wrap64 (a2 - (rd l1 (ji4)))) + a0_0)) a0_0)) = true := decide_eq_true c13; clear c13; have H' := A_ H; clear H; have hcz14_0 : w8.cell? ⟨gb271, 0, none⟩ = some (.int .i64 a0_0) := bc BK271 0; have hcz14_1 : w8.cell? ⟨gb271, 1, none⟩ = some (.bool true) := bc BK271 1; have hfz14_0 := blk_frozen BK271.out 0; have hfz14_1 := blk_frozen BK271.out 1; go_wp2
       go_meet
       case rel => exact ⟨_, ((-1)), rf, H', ⟨by first | omega | exact Nat.le_refl _⟩, ⟨rq HO1⟩, ⟨bq BK271⟩, ⟨by repeat (first | (with_reducible first | exact HK.out | apply Kept.alloc | apply Kept.drewN | apply Kept.drew | refine Kept.setCell ?_ (.inr GW271.out) _) | exact HK.out)⟩, ⟨hq HB⟩⟩
      ·
       rw [if_neg c13] at H; have c13b0 : decide ((wrap64 (a0_0 - (Int.tmod (wrap64 ((wrap64 (a2 - (rd l1 (ji4)))) + a0_0)) a0_0))) < (Int.tmod (wrap64 ((wrap64 (a2 - (rd l1 (ji4)))) + a0_0)) a0_0)) = false := decide_eq_false c13; clear c13; have H' := A_ H; clear H; have hcz15_0 : w8.cell? ⟨gb271, 0, none⟩ = some (.int .i64 a0_0) := bc BK271 0; have hcz15_1 : w8.cell? ⟨gb271, 1, none⟩ = some (.bool true) := bc BK271 1; have hfz15_0 := blk_frozen BK271.out 0; have hfz15_1 := blk_frozen BK271.out 1; go_wp2
       go_meet
       case rel => exact ⟨_, (1), rf, H', ⟨by first | omega | exact Nat.le_refl _⟩, ⟨rq HO1⟩, ⟨bq BK271⟩, ⟨by repeat (first | (with_reducible first | exact HK.out | apply Kept.alloc | apply Kept.drewN | apply Kept.drew | refine Kept.setCell ?_ (.inr GW271.out) _) | exact HK.out)⟩, ⟨hq HB⟩⟩
    ·
     replace c11 := Bool.eq_false_iff.mpr c11; subst c11
     have H1 : (if (wrap64 (a2 - (rd l1 (ji4)))) < 0 then (Q1.j0 k l1 a2 (rd l1 (ji4)) (-1) a0_0 false) else (Q1.j0 k l1 a2 (rd l1 (ji4)) 1 a0_0 false)) = some r := by rw [if_neg (show ¬ (false = true) by decide)] at H; exact H
     clear H; have H := H1; clear H1; by_cases c16 : (wrap64 (a2 - (rd l1 (ji4)))) < 0
     ·
      rw [if_pos c16] at H; have c16b0 := decide_eq_true c16; clear c16; have H' := A_ H; clear H; go_wp2
      go_meet
      case rel => exact ⟨_, ((-1)), rf, H', ⟨by first | omega | exact Nat.le_refl _⟩, ⟨rq HO1⟩, ⟨bq BK271⟩, ⟨by repeat (first | (with_reducible first | exact HK.out | apply Kept.alloc | apply Kept.drewN | apply Kept.drew | refine Kept.setCell ?_ (.inr GW271.out) _) | exact HK.out)⟩, ⟨hq HB⟩⟩
     ·
      rw [if_neg c16] at H; have c16b0 := decide_eq_false c16; clear c16; have H' := A_ H; clear H; go_wp2
      go_meet
      case rel => exact ⟨_, (1), rf, H', ⟨by first | omega | exact Nat.le_refl _⟩, ⟨rq HO1⟩, ⟨bq BK271⟩, ⟨by repeat (first | (with_reducible first | exact HK.out | apply Kept.alloc | apply Kept.drewN | apply Kept.drew | refine Kept.setCell ?_ (.inr GW271.out) _) | exact HK.out)⟩, ⟨hq HB⟩⟩
   case rest =>
    clear HC7; (try clear c5); (try clear c5b0); (try clear c6); (try clear c6b0); (try clear c11); (try clear c12); (try clear c12b0); (try clear c12b1); (try clear c13); (try clear c13b0); (try clear c16); (try clear c16b0); (try clear hcz10_0); (try clear hcz10_1); (try clear hcz14_0); (try clear hcz14_1); (try clear hcz15_0); (try clear hcz15_1); (try clear hfz10_0); (try clear hfz10_1); (try clear hfz14_0); (try clear hfz14_1); (try clear hfz15_0); (try clear hfz15_1); (try clear hx272_0); (try clear p272); (try clear q272); obtain ⟨kq, x8_6, rfl, HA, HJ6, HO_1, BK271, HK, HB⟩ := hcut
    cases kq with
    | zero => exact absurd HA.out (by simp [Q1.j0])
    | succ kj6 =>
     have H := HA.out; clear HA; simp only [Q1.j0] at H
     have H' := A_ H; clear H; go_wp2
     go_loopg [1, 7] kj6 (fun kq v1 v7 w' => ∃ (x1_2 : List Int) (x7_2 : Int), v7 = .int .i64 x7_2 ∧ Aside0 (Q1.l0 kq x1_2 a2 x7_2 x8_6 a0_0 a0_1 = some r) ∧ Aside0 (kq ≤ kj6) ∧ Aside0 (Kd.R (Kd.int .i64) 3 w' w0.heap.size (fun k_ => (P1_ k_ ∨ w.heap.size ≤ k_)) v1 x1_2) ∧ Aside0 (w'.heap[gb271]? = some (.cells #[.int .i64 a0_0, .bool a0_1] 25 (0, 0))) ∧ Aside0 (Kept w w' (fun k_ => P1_ k_)) ∧ Aside0 (Below w0.heap.size w0 w'))
     case atStart => exact ⟨(l1), ((rd l1 (ji4))), (by first | rfl | (simp; done) | (simp only [← hji4] <;> (first | rfl | simp)) | (simp [*]; done)), H', ⟨Nat.le_refl _⟩, ⟨rq HO_1⟩, ⟨bq BK271⟩, ⟨by repeat (first | (with_reducible first | exact HK.out | apply Kept.alloc | apply Kept.drewN | apply Kept.drew | refine Kept.setCell ?_ (.inr GW271.out) _) | exact HK.out)⟩, ⟨hq HB⟩⟩
     case round =>
      clear H'; (try clear c5); (try clear c5b0); (try clear c6); (try clear c6b0); (try clear c11); (try clear c12); (try clear c12b0); (try clear c12b1); (try clear c13); (try clear c13b0); (try clear c16); (try clear c16b0); (try clear hcz10_0); (try clear hcz10_1); (try clear hcz14_0); (try clear hcz14_1); (try clear hcz15_0); (try clear hcz15_1); (try clear hfz10_0); (try clear hfz10_1); (try clear hfz14_0); (try clear hfz14_1); (try clear hfz15_0); (try clear hfz15_1); (try clear hx272_0); (try clear p272); (try clear q272); obtain ⟨x1_2, x7_2, rfl, HA, HK2, HO_1, BK271, HK, HB⟩ := hrel
      cases gk with
      | zero => exact absurd HA.out (by simp [Q1.l0])
      | succ k2 =>
       have H := HA.out; clear HA; simp only [Q1.l0] at H
       by_cases c17 : x7_2 = a2
       ·
        rw [if_pos c17] at H; have c17b0 : (x7_2 == a2) = true := beq_iff_eq.mpr c17; have c17b1 : (x7_2 != a2) = false := bne_eq_false_iff_eq.mpr c17; clear c17; obtain rfl := Option.some.inj H; go_wp2
        go_ret
        exact ⟨_, by first | rfl | (simp [errW_none, errW_some] <;> rfl) | (simp only [← hji4]; first | rfl | (simp [errW_none, errW_some] <;> rfl)) | (simp [*, errW_none, errW_some] <;> rfl), rq HO_1, hq HB, by repeat (first | (with_reducible first | exact HK.out | apply Kept.alloc | apply Kept.drewN | apply Kept.drew | refine Kept.setCell ?_ (.inr GW271.out) _) | exact HK.out)⟩
       ·
        rw [if_neg c17] at H; have c17b0 : (x7_2 == a2) = false := beq_eq_false_iff_ne.mpr c17; have c17b1 : (x7_2 != a2) = true := bne_iff_ne.mpr c17; by_cases c18 : a0_0 = 0
        ·
         rw [if_pos c18] at H; exact absurd H (by simp)
        ·
         rw [if_neg c18] at H; have c18b0 : (a0_0 == 0) = false := beq_eq_false_iff_ne.mpr c18; have c18b1 : (a0_0 != 0) = true := bne_iff_ne.mpr c18; by_cases c19 : x1_2.length < 17592186044416
         ·
          rw [if_pos c19] at H; have LMc19 := A_ c19; clear c19
          obtain ⟨y273, hy273⟩ : ∃ y_ : List Int, y_ = (x1_2 ++ [Int.tmod (wrap64 ((wrap64 (x7_2 + x8_6)) + a0_0)) a0_0]) := ⟨_, rfl⟩
          replace H : (Q1.l0 k2 y273 a2 (Int.tmod (wrap64 ((wrap64 (x7_2 + x8_6)) + a0_0)) a0_0) x8_6 a0_0 a0_1) = some r := by first | (rw [hy273]; with_reducible exact H) | (have H2_ := (Option.bind_some _ _).symm.trans H; rw [hy273]; with_reducible exact H2_) | (have H2_ := (Option.bind_some _ _).symm.trans H; with_reducible exact H2_) | with_reducible exact H | (rw [hy273]; exact H) | exact H
          have Ny273 := A_ hy273; clear hy273; have H' := A_ H; clear H; have hcz20_0 : wr.cell? ⟨gb271, 0, none⟩ = some (.int .i64 a0_0) := bc BK271 0; have hcz20_1 : wr.cell? ⟨gb271, 1, none⟩ = some (.bool a0_1) := bc BK271 1; have hfz20_0 := blk_frozen BK271.out 0; have hfz20_1 := blk_frozen BK271.out 1; go_wp2_with (first | ((with_reducible refine gate_builtin (b := .append) (xs := #[.tmp 50, .tmp 52]) rfl ?_); at_builtin; refine Kd.R_append (Kd.int .i64) (w0 := w0) w0.heap.size rfl (.tmp 50) (.tmp 52) 26 3 (.int .i64 0) 8 rfl Try.underlying26 info3 rfl (by decide) (by omega) u1 x1_2 (Int.tmod (wrap64 ((wrap64 (x7_2 + x8_6)) + a0_0)) a0_0) [.int .i64 (Int.tmod (wrap64 ((wrap64 (x7_2 + x8_6)) + a0_0)) a0_0)] (fun k_ => (P1_ k_ ∨ w.heap.size ≤ k_)) (fun _ => False) rfl rfl ?aP (fun _ hk => hk.elim) ?aF ?aO ?aB ?aS ?aL ?_; (case aP => exact rfl); (case aB => exact (hq HB)); (case aF => exact (fun k_ hk => (.inr (Nat.le_trans (by first | exact HK.out.1 | exact (show Kept w _ (fun k_ => P1_ k_) from by repeat (first | (with_reducible first | exact HK.out | apply Kept.alloc | apply Kept.drewN | apply Kept.drew | refine Kept.setCell ?_ (.inr GW271.out) _) | exact HK.out)).1) hk)))); (case aO => exact (rq HO_1)); (case aS => exact (below_size (hq HB))); (case aL => have := LMc19.out; omega); intro v274 w21 ho hb hg hat; rw [← Ny273.out] at ho; have n0_ := A_ (blk_grown (g := gb271) (o := .cells #[.int .i64 a0_0, .bool a0_1] 25 (0, 0)) (bq BK271) hg (Kd.R_ne HO_1.out BK271.out (by decide))); have n1_ := A_ (hb); have n2_ := A_ (Kept.of_grown (S := (fun k_ => P1_ k_)) hg (by repeat (first | (with_reducible first | exact HK.out | apply Kept.alloc | apply Kept.drewN | apply Kept.drew | refine Kept.setCell ?_ (.inr GW271.out) _) | exact HK.out)) (fun k_ e_ => (HO_1.out.1 k_ e_))); have n3_ := A_ (ho); clear BK271; clear HB; clear HK; clear HO_1; have BK271 := n0_; have HB := n1_; have HK := n2_; have HO275 := n3_; clear n0_ n1_ n2_ n3_; clear ho hb hg hat))
          go_roundg k2
          case measure => have := HJ6.out; have := HK2.out; omega
          case rel => exact ⟨(y273), (Int.tmod (wrap64 ((wrap64 (x7_2 + x8_6)) + a0_0)) a0_0), rf, H', ⟨by have := HJ6.out; have := HK2.out; omega⟩, ⟨rq HO275⟩, ⟨bq BK271⟩, ⟨by repeat (first | (with_reducible first | exact HK.out | apply Kept.alloc | apply Kept.drewN | apply Kept.drew | refine Kept.setCell ?_ (.inr GW271.out) _) | exact HK.out)⟩, ⟨hq HB⟩⟩
         ·
          rw [if_neg c19] at H; exact absurd H (by simp)
  ·
   rw [if_neg c6] at H; exact absurd H (by simp)
 ·
  rw [if_neg c5] at H; exact absurd H (by simp)

end Go.Proofs.Ytbjpfnpleajhgad.PFnTours
