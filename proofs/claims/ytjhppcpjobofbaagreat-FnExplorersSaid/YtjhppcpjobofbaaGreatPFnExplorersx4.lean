-- Told shorter still by shrink2.py.
-- Printed, and told shorter by this session's program shrink.py.
-- Printed by this session's program myprint.py.
import Derived.Test.YtjhppcpjobofbaaGreatPFnExplorersx0
import Derived.Test.YtjhppcpjobofbaaGreatPFnExplorersx2
import Derived.Test.YtjhppcpjobofbaaGreatPFnExplorersx3
namespace Go.Proofs.YtjhppcpjobofbaaGreat.PFnExplorers
open Go.RowKit Go.Proofs.YtjhppcpjobofbaaGreat.Own Go.Proofs.YtjhppcpjobofbaaGreatW.PrintWords Go.Proofs.YtjhppcpjobofbaaGreatW.PrintLast Go.Proofs.YtjhppcpjobofbaaGreatW.PrintMore
attribute [local go_sem] max2_int min2_int max_two min_two max_three min_three max_four min_four   -- for this text's walks alone
set_option linter.unusedVariables false
set_option linter.unusedSimpArgs false

/-! ### slices_IndexFunc_int_int___Road_tour_2: function 85 -/
def Q45.l0 : Nat → List Int → Int → Int → Option (Int)
  | 0, _, _, _ => none
  | k + 1, x0, x7, x8 => if x8 < x7 then (if 0 ≤ x8 then (if x8 < (x0.length : Int) then ((Q62.f (rd x0 x8)).bind fun t263 => (if t263 = true then (some x8) else (Q45.l0 k x0 x7 (wrap64 (x8 + 1))))) else (none)) else (none)) else (some (-1))
def Q45.f (k : Nat) (l0 : List Int) : Option (Int) := Q45.l0 k l0 (l0.length : Int) 0
set_option maxHeartbeats 8000000 in
set_option maxRecDepth 100000 in
theorem Q45.calls (k : Nat) (A0 : Option Addr) (c0 : Nat) (l0 : List Int) (r : Int) (w : World) (hr0 : Kd.C (Kd.int .i64) w A0 l0.length l0) (hc0 : l0.length ≤ c0) (h : Q45.f k l0 = some r) :
    Calls Tryz.prog 85 #[.slice A0 l0.length c0, .func (.func 77) #[] #[]] w fun e w' => e = .returned (.int .i64 r) ∧ Below w.heap.size w w' := by
 have HR0 := A_ hr0; have HC0 := A_ hc0; clear hr0 hc0; have HB := A_ (Below.refl w.heap.size w); have H : (Q45.l0 k l0 (l0.length : Int) 0) = some r := h; clear h; have H' := A_ H; clear H; go_enter Tryz.func85, Tryz.ntmps85
 go_wp2
 go_loopg [8] k (fun kq v8 w' => ∃ (x8_1 : Int), v8 = .int .i64 x8_1 ∧ Aside0 (Q45.l0 kq l0 (l0.length : Int) x8_1 = some r) ∧ Aside0 (kq ≤ k) ∧ Aside0 (Below w.heap.size w w'))
 case atStart => exact ⟨(0), rf, H', ⟨Nat.le_refl _⟩, ⟨hq HB⟩⟩
 case round =>
  clear H'; obtain ⟨x8_1, rfl, HA, HK1, HB⟩ := hrel
  cases gk with
  | zero => exact absurd HA.out (by simp [Q45.l0])
  | succ k1 =>
   have H := HA.out; clear HA; simp only [Q45.l0] at H
   by_cases c2 : x8_1 < (l0.length : Int)
   ·
    rw [if_pos c2] at H; have c2b0 := decide_eq_true c2; clear c2; by_cases c3 : 0 ≤ x8_1
    ·
     rw [if_pos c3] at H; have c3b0 := decide_eq_true c3; clear c3; by_cases c4 : x8_1 < (l0.length : Int)
     ·
      rw [if_pos c4] at H; have c4b0 := decide_eq_true c4; clear c4; replace H := bm H; obtain ⟨t263, A5, H⟩ := H; by_cases c6 : t263 = true
      ·
       subst c6
       have H1 : (some x8_1) = some r := by rw [if_pos rfl] at H; exact H
       clear H; have H := H1; clear H1; obtain rfl := Option.some.inj H; have p262 : 0 ≤ (x8_1 : Int) := dq; have q262 : x8_1 < (l0.length : Int) := dq; obtain ⟨ad262, e262, hx262_0⟩ := Kd.at_int HR0.out x8_1 p262 q262
       cases e262
       replace hx262_0 := (HB.out.cell (World.block_lt_of_cell? w _ hx262_0)).trans hx262_0; replace p262 := eq_true p262; replace q262 := eq_true q262; go_wp2_with (first | (go_at_call 77; (with_reducible refine (Q62.calls (rd l0 x8_1) true _ A5.out).mono ?_); rintro e w' ⟨rfl, ⟨nd, rfl⟩⟩))
       go_ret
       exact ⟨rt, hq HB⟩
      ·
       replace c6 := Bool.eq_false_iff.mpr c6; subst c6
       have H1 : (Q45.l0 k1 l0 (l0.length : Int) (wrap64 (x8_1 + 1))) = some r := by rw [if_neg (show ¬ (false = true) by decide)] at H; exact H
       clear H; have H := H1; clear H1; have H' := A_ H; clear H; have p262 : 0 ≤ (x8_1 : Int) := dq; have q262 : x8_1 < (l0.length : Int) := dq; obtain ⟨ad262, e262, hx262_0⟩ := Kd.at_int HR0.out x8_1 p262 q262
       cases e262
       replace hx262_0 := (HB.out.cell (World.block_lt_of_cell? w _ hx262_0)).trans hx262_0; replace p262 := eq_true p262; replace q262 := eq_true q262; go_wp2_with (first | (go_at_call 77; (with_reducible refine (Q62.calls (rd l0 x8_1) false _ A5.out).mono ?_); rintro e w' ⟨rfl, ⟨nd, rfl⟩⟩))
       go_roundg k1
       case measure => have := HK1.out; omega
       case rel => exact ⟨(wrap64 (x8_1 + 1)), rf, H', ⟨by have := HK1.out; omega⟩, ⟨hq HB⟩⟩
     ·
      rw [if_neg c4] at H; exact absurd H (by simp)
    ·
     rw [if_neg c3] at H; exact absurd H (by simp)
   ·
    rw [if_neg c2] at H; have c2b0 := decide_eq_false c2; clear c2; obtain rfl := Option.some.inj H; go_wp2
    go_ret
    exact ⟨rt, hq HB⟩

/-! ### slices.DeleteFunc at ints, all that are 0 taken out, by the contract that is laid from the shelf -/
def Q50.f (k : Nat) (l0 : List Int) : Option (List Int) := some (l0.filter fun x => !(x == 0))
theorem idx_tour_none : Q45.f 1 [] = some (-1) := rfl
set_option maxHeartbeats 8000000 in
set_option maxRecDepth 100000 in
theorem del_tour_none (c : Nat) (w : World) : Calls Tryz.prog 74 #[.slice none 0 c, .func (.func 77) #[] #[]] w fun e w' => e = .returned (.slice none 0 c) ∧ Below w.heap.size w w' := by
  have HB := A_ (Below.refl w.heap.size w)
  go_enter Tryz.func74, Tryz.ntmps74
  go_wp2_with (go_at_call 85; (refine (Q45.calls 1 none c [] (-1) _ ?side1 ?side2 idx_tour_none).mono ?_); (case side1 => exact Kd.C_nil _ _); (case side2 => exact Nat.zero_le _); rintro e w10 ⟨rfl, hb⟩; have HB2 := A_ (below_step HB.out hb); clear hb)
  go_ret
  exact ⟨rfl, HB2.out⟩
theorem pred_tour (W : World) (x : Int) : FnGives Tryz.prog 77 #[] #[.int .i64 x] (.bool (x == 0)) W := by
  show Calls Tryz.prog 77 #[.int .i64 x] W _
  refine (Q62.calls x (x == 0) W rfl).mono ?_
  rintro e w' ⟨he, hd⟩
  exact ⟨he, hd.out⟩
theorem Q50.calls (k : Nat) (P0_ : Nat → Prop) (u9000_ : Value) (l0 : List Int) (r : List Int) (w0 w : World) (hB : Below w0.heap.size w0 w) (ho0 : Kd.R (Kd.int .i64) 3 w w0.heap.size P0_ u9000_ l0) (h : Q50.f k l0 = some r) :
    Calls Tryz.prog 74 #[u9000_, .func (.func 77) #[] #[]] w fun e w' => ∃ v0_ : Value, e = .returned (v0_) ∧ Kd.R (Kd.int .i64) 3 w' w0.heap.size (fun k_ => (P0_ k_ ∨ w.heap.size ≤ k_)) v0_ r ∧ Below w0.heap.size w0 w' ∧ Kept w w' (fun k_ => P0_ k_) := by
 obtain rfl := Option.some.inj h; have hsz : w0.heap.size ≤ w.heap.size := hB.size; have ho := Kd.own_of_R ho0
 rcases ho.2 with ⟨hv, hz⟩ | ⟨g, cap, cur, rfl, hg, hh, hn, hm, hc, ht⟩
 ·
  have hl : l0 = [] := List.eq_nil_of_length_eq_zero hz; subst hl; subst hv; refine (del_tour_none 0 w).mono ?_; rintro e w' ⟨rfl, hb⟩; exact ⟨_, rfl, Kd.R_nil _ _ _ _ _, hB.trans (hb.mono hB.size), ⟨hb.size, fun i hi _ => hb.block i hi⟩⟩
 ·
  have hlt : g < w.heap.size := (Array.getElem?_eq_some_iff.1 hh).1; have hlen : (l0.filter fun x => !(x == 0)).length ≤ l0.length := List.length_filter_le _ _; have eg : ∀ args w, (callFunc 77 args).run Tryz.prog w = .ok (.enter 77 args) w := enters_of Tryz.func77 (by kernel_rfl) rfl; have hcon := Go.Proofs.YtjhppcpjobofbaaGreat.Shelf.slices_DeleteFunc (Value.int .i64) (fun _ => rfl) (fun x : Int => x == 0) 77 #[] eg 0 Tryz.zeroValue3 g 0 cap l0.toArray w (fun W x _ => pred_tour W x) (fun n os dk x _ => pred_tour _ x) (holds_of_blockI hh (by simpa [encs] using ht)) (by unfold maxLen at hm; simp; omega) (by simpa using hn); rw [List.size_toArray] at hcon; refine hcon.mono ?_; rintro e w' ⟨he, q, rfl⟩
  have hts : ((l0.filter fun x => !(x == 0)) ++ List.replicate (l0.length - (l0.filter fun x => !(x == 0)).length) 0).length = l0.length := by
   rw [List.length_append, List.length_replicate]; omega
  have hgr := grownBy_sortedI (w := w) (g := g) (n := q) (os := #[]) ((l0.filter fun x => !(x == 0)) ++ List.replicate (l0.length - (l0.filter fun x => !(x == 0)).length) 0).toArray; have hown := ownsRow_sortedI (n := q) (os := #[]) (ts := (l0.filter fun x => !(x == 0)) ++ List.replicate (l0.length - (l0.filter fun x => !(x == 0)).length) 0) hts hg hh hn hm hc; rw [Go.Sort.grow_empty] at hgr hown; refine ⟨_, he, Kd.R_of_own ?_ (fun k_ hk => .inl (ho0.1 k_ hk)), hB.grown hgr hsz (fun k_ e_ => by injection e_ with e_; omega), Kept.of_grown hgr (Kept.refl _ _) (fun k_ e_ => .inl (ho0.1 k_ (by injection e_ with e_; subst e_; rfl)))⟩
  rcases hown.2 with ⟨hv, _⟩ | ⟨g', cap', cur', hv, hg', hh', hn', hm', hc', ht'⟩
  ·
   exact absurd hv (by simp)
  ·
   injection hv with h1 h2 h3; injection h1 with h1; injection h1 with h1; subst h1; subst h3; refine ⟨by simp [encs], .inr ⟨g, cap, cur', rfl, hg', by first | exact hh' | simpa using hh', Nat.le_trans hlen hn', hm', hc', ?_⟩⟩; rw [Nat.mul_one] at ht'; have h5 := congrArg (List.take (l0.filter fun x => !(x == 0)).length) ht'; rw [List.take_take, Nat.min_eq_left hlen] at h5; simpa [encs] using h5

/-! ### impl_Road_tour: function 61 -/
mutual
def Q4.j0 : Nat → List Int → Int → Bool → Option (Int)
  | 0, _, _, _ => none
  | k + 1, x7, x265000, x265001 => if x265001 = true then (Q4.l1 k x7 60 (wrap64 ((x7.length : Int) + 1)) 0 x265000 x265001) else (Q4.l0 k 0 0 x7 (x7.length : Int) 0)
def Q4.l1 : Nat → List Int → Int → Int → Int → Int → Bool → Option (Int)
  | 0, _, _, _, _, _, _ => none
  | k + 1, x7, x13, x49, x50, x265000, x265001 => if x50 < x49 then (if x50 > 0 then (if 0 ≤ (wrap64 (x50 - 1)) then (if (wrap64 (x50 - 1)) < (x7.length : Int) then (if x50 < (x7.length : Int) then (if 0 ≤ x50 then ((Q17.f (rd x7 (wrap64 (x50 - 1))) (wrap64 (x265000 - (rd x7 x50)))).bind fun t277 => (Q4.l1 k x7 (mn x13 t277) x49 (wrap64 (x50 + 1)) x265000 x265001)) else (none)) else ((Q17.f (rd x7 (wrap64 (x50 - 1))) 0).bind fun t278 => (Q4.l1 k x7 (mn x13 t278) x49 (wrap64 (x50 + 1)) x265000 x265001))) else (none)) else (none)) else (if x50 < (x7.length : Int) then (if 0 ≤ x50 then ((Q17.f 0 (wrap64 (x265000 - (rd x7 x50)))).bind fun t280 => (Q4.l1 k x7 (mn x13 t280) x49 (wrap64 (x50 + 1)) x265000 x265001)) else (none)) else ((Q17.f 0 0).bind fun t281 => (Q4.l1 k x7 (mn x13 t281) x49 (wrap64 (x50 + 1)) x265000 x265001)))) else (some x13)
def Q4.l0 : Nat → Int → Int → List Int → Int → Int → Option (Int)
  | 0, _, _, _, _, _ => none
  | k + 1, x9, x10, x29, x30, x31 => if x31 < x30 then (if 0 ≤ x31 then (if x31 < (x29.length : Int) then (Q4.l0 k (mx x9 (rd x29 x31)) (mx x10 (wrap64 (-(rd x29 x31)))) x29 x30 (wrap64 (x31 + 1))) else (none)) else (none)) else ((Q17.f x9 x10).bind fun t274 => (some t274))
end
def Q4.f (k : Nat) (a0_0 : Int) (a0_1 : Bool) (a1 : Int) (l2 : List Int) : Option (Int) := (Q34.f k l2 a0_0 a0_1 a1).bind fun t266 => ((Q41.f k t266).bind fun t269 => (if a0_1 = true then ((Q50.f k t269).bind fun t270 => (Q4.j0 k t270 a0_0 a0_1)) else (Q4.j0 k t269 a0_0 a0_1)))
set_option maxHeartbeats 8000000 in
set_option maxRecDepth 100000 in
theorem Q4.calls (k : Nat) (a0_0 : Int) (a0_1 : Bool) (a1 : Int) (A2 : Option Addr) (c2 : Nat) (l2 : List Int) (r : Int) (w : World) (hr2 : Kd.C (Kd.int .i64) w A2 l2.length l2) (hc2 : l2.length ≤ c2) (h : Q4.f k a0_0 a0_1 a1 l2 = some r) :
    Calls Tryz.prog 61 #[.agg #[.int .i64 a0_0, .bool a0_1], .int .i64 a1, .slice A2 l2.length c2] w fun e w' => e = .returned (.int .i64 r) ∧ Below w.heap.size w w' := by
 have hu25 := Tryz.underlying25; have HR2 := A_ hr2; have HC2 := A_ hc2; clear hr2 hc2; have HB := A_ (Below.refl w.heap.size w); have H : ((Q34.f k l2 a0_0 a0_1 a1).bind fun t266 => ((Q41.f k t266).bind fun t269 => (if a0_1 = true then ((Q50.f k t269).bind fun t270 => (Q4.j0 k t270 a0_0 a0_1)) else (Q4.j0 k t269 a0_0 a0_1)))) = some r := h; clear h; replace H := bm H; obtain ⟨t266, A4, H⟩ := H; replace H := bm H; obtain ⟨t269, A5, H⟩ := H; have HC6 := A_ H; clear H; go_enter Tryz.func61, Tryz.ntmps61
 go_upto_if 23 with (first | ((with_reducible refine gate_dst (N := 3) rfl ?_); refine bx (N := 3) #[.int .i64 a0_0, .bool a0_1] 25 ?_; intro gb264 hg w7 hbox hb; have BK264 := A_ (hbox); have GW264 := A_ (bs hg (hq HB) : w.heap.size ≤ gb264); have GE264 := A_ (bs hg (hq HB) : w.heap.size ≤ gb264); replace HB := A_ (below_step (hq HB) hb); clear hb hbox hg) | ((with_reducible refine gate_dst (N := 4) rfl ?_); refine bx (N := 4) #[.int .i64 a1] 3 ?_; intro gb265 hg w8 hbox hb; have BK265 := A_ (hbox); have GW265 := A_ (bs hg (hq HB) : w.heap.size ≤ gb265); have GE265 := A_ (bs hg (hq HB) : w.heap.size ≤ gb265); replace HB := A_ (below_step (hq HB) hb); have NB264_265 := A_ ((by rw [hg]; exact Nat.ne_of_lt (blk_lt (bq BK264)) : gb264 ≠ gb265)); have NB265_264 := A_ ((by rw [hg]; exact Nat.ne_of_gt (blk_lt (bq BK264)) : gb265 ≠ gb264)); replace BK264 := A_ (blk_below (bq BK264) hb); clear hb hbox hg) | (go_at_call 71; (with_reducible refine (Q34.calls k _ _ l2 gb264 a0_0 a0_1 gb265 a1 t266 _ ?side1 ?side2 ?side3 ?side4 A4.out).mono ?_); (case side1 => (with_reducible repeat (first | refine blk_drewN ?_ _ | refine blk_drew ?_ | refine blk_alloc ?_ _)); exact BK264.out); (case side2 => (with_reducible repeat (first | refine blk_drewN ?_ _ | refine blk_drew ?_ | refine blk_alloc ?_ _)); exact BK265.out); (case side3 => exact cq (Kd.C_below HR2.out HB.out)); (case side4 => exact HC2.out); rintro e w9 ⟨v267, rfl, ho0, hb⟩; have HO268 := A_ (Kd.R_lower (Kd.R_newB ho0 (g := gb265) (o := .cells #[.int .i64 a1] 3 (0, 0)) (bq BK265)) (below_size (hq HB))); replace BK264 := A_ (blk_below (bq BK264) hb); replace BK265 := A_ (blk_below (bq BK265) hb); replace HB := A_ (below_step (hq HB) hb); clear hb ho0; obtain ⟨Ao10, co10, eo10⟩ := Kd.R_slice HO268.out; subst eo10) | (go_at_call 73; (with_reducible refine (Q41.calls k (fun k_ => some k_ = (.slice Ao10 t266.length co10 : Value).ownBlock) (.slice Ao10 t266.length co10) t266 t269 w _ ?side1 ?side2 A5.out).mono ?_); (case side1 => repeat (first | (with_reducible first | exact HB.out | apply below_alloc | apply pw_below_drewN | apply below_drew1 | refine below_set ?_ GE264.out | refine below_set ?_ GE265.out) | exact HB.out)); (case side2 => exact Kd.R_tight rfl HO268.out); rintro e w11 ⟨rfl, hy0, hb, hkp⟩; replace BK264 := A_ (blk_kept (bq BK264) hkp (fun hs_ => (fun e_ => (Kd.R_ne HO268.out BK264.out (by decide)) e_) hs_)); replace BK265 := A_ (blk_kept (bq BK265) hkp (fun hs_ => (fun e_ => (Kd.R_away HO268.out (fun _ hk => hk.2)) e_) hs_)); replace HO268 := A_ (Kd.R_reok rfl hy0 (fun k_ e_ => HO268.out.1 k_ e_)); replace HB := A_ (hb); clear hb hkp hy0; have hnb12 := NB264_265.out; have hnc12 := NB265_264.out; have hcz13_0 : w11.cell? ⟨gb264, 0, none⟩ = some (.int .i64 a0_0) := bc BK264 0; have hcz13_1 : w11.cell? ⟨gb264, 1, none⟩ = some (.bool a0_1) := bc BK264 1; have hfz13_0 := blk_frozen BK264.out 0; have hfz13_1 := blk_frozen BK264.out 1))
 repeat (go_quiet (first | ((with_reducible refine gate_dst (N := 3) rfl ?_); refine bx (N := 3) #[.int .i64 a0_0, .bool a0_1] 25 ?_; intro gb264 hg w7 hbox hb; have BK264 := A_ (hbox); have GW264 := A_ (bs hg (hq HB) : w.heap.size ≤ gb264); have GE264 := A_ (bs hg (hq HB) : w.heap.size ≤ gb264); replace HB := A_ (below_step (hq HB) hb); clear hb hbox hg) | ((with_reducible refine gate_dst (N := 4) rfl ?_); refine bx (N := 4) #[.int .i64 a1] 3 ?_; intro gb265 hg w8 hbox hb; have BK265 := A_ (hbox); have GW265 := A_ (bs hg (hq HB) : w.heap.size ≤ gb265); have GE265 := A_ (bs hg (hq HB) : w.heap.size ≤ gb265); replace HB := A_ (below_step (hq HB) hb); have NB264_265 := A_ ((by rw [hg]; exact Nat.ne_of_lt (blk_lt (bq BK264)) : gb264 ≠ gb265)); have NB265_264 := A_ ((by rw [hg]; exact Nat.ne_of_gt (blk_lt (bq BK264)) : gb265 ≠ gb264)); replace BK264 := A_ (blk_below (bq BK264) hb); clear hb hbox hg) | (go_at_call 71; (with_reducible refine (Q34.calls k _ _ l2 gb264 a0_0 a0_1 gb265 a1 t266 _ ?side1 ?side2 ?side3 ?side4 A4.out).mono ?_); (case side1 => (with_reducible repeat (first | refine blk_drewN ?_ _ | refine blk_drew ?_ | refine blk_alloc ?_ _)); exact BK264.out); (case side2 => (with_reducible repeat (first | refine blk_drewN ?_ _ | refine blk_drew ?_ | refine blk_alloc ?_ _)); exact BK265.out); (case side3 => exact cq (Kd.C_below HR2.out HB.out)); (case side4 => exact HC2.out); rintro e w9 ⟨v267, rfl, ho0, hb⟩; have HO268 := A_ (Kd.R_lower (Kd.R_newB ho0 (g := gb265) (o := .cells #[.int .i64 a1] 3 (0, 0)) (bq BK265)) (below_size (hq HB))); replace BK264 := A_ (blk_below (bq BK264) hb); replace BK265 := A_ (blk_below (bq BK265) hb); replace HB := A_ (below_step (hq HB) hb); clear hb ho0; obtain ⟨Ao10, co10, eo10⟩ := Kd.R_slice HO268.out; subst eo10) | (go_at_call 73; (with_reducible refine (Q41.calls k (fun k_ => some k_ = (.slice Ao10 t266.length co10 : Value).ownBlock) (.slice Ao10 t266.length co10) t266 t269 w _ ?side1 ?side2 A5.out).mono ?_); (case side1 => repeat (first | (with_reducible first | exact HB.out | apply below_alloc | apply pw_below_drewN | apply below_drew1 | refine below_set ?_ GE264.out | refine below_set ?_ GE265.out) | exact HB.out)); (case side2 => exact Kd.R_tight rfl HO268.out); rintro e w11 ⟨rfl, hy0, hb, hkp⟩; replace BK264 := A_ (blk_kept (bq BK264) hkp (fun hs_ => (fun e_ => (Kd.R_ne HO268.out BK264.out (by decide)) e_) hs_)); replace BK265 := A_ (blk_kept (bq BK265) hkp (fun hs_ => (fun e_ => (Kd.R_away HO268.out (fun _ hk => hk.2)) e_) hs_)); replace HO268 := A_ (Kd.R_reok rfl hy0 (fun k_ e_ => HO268.out.1 k_ e_)); replace HB := A_ (hb); clear hb hkp hy0; have hnb12 := NB264_265.out; have hnc12 := NB265_264.out; have hcz13_0 : w11.cell? ⟨gb264, 0, none⟩ = some (.int .i64 a0_0) := bc BK264 0; have hcz13_1 : w11.cell? ⟨gb264, 1, none⟩ = some (.bool a0_1) := bc BK264 1; have hfz13_0 := blk_frozen BK264.out 0; have hfz13_1 := blk_frozen BK264.out 1)); go_upto_if 23 with (first | ((with_reducible refine gate_dst (N := 3) rfl ?_); refine bx (N := 3) #[.int .i64 a0_0, .bool a0_1] 25 ?_; intro gb264 hg w7 hbox hb; have BK264 := A_ (hbox); have GW264 := A_ (bs hg (hq HB) : w.heap.size ≤ gb264); have GE264 := A_ (bs hg (hq HB) : w.heap.size ≤ gb264); replace HB := A_ (below_step (hq HB) hb); clear hb hbox hg) | ((with_reducible refine gate_dst (N := 4) rfl ?_); refine bx (N := 4) #[.int .i64 a1] 3 ?_; intro gb265 hg w8 hbox hb; have BK265 := A_ (hbox); have GW265 := A_ (bs hg (hq HB) : w.heap.size ≤ gb265); have GE265 := A_ (bs hg (hq HB) : w.heap.size ≤ gb265); replace HB := A_ (below_step (hq HB) hb); have NB264_265 := A_ ((by rw [hg]; exact Nat.ne_of_lt (blk_lt (bq BK264)) : gb264 ≠ gb265)); have NB265_264 := A_ ((by rw [hg]; exact Nat.ne_of_gt (blk_lt (bq BK264)) : gb265 ≠ gb264)); replace BK264 := A_ (blk_below (bq BK264) hb); clear hb hbox hg) | (go_at_call 71; (with_reducible refine (Q34.calls k _ _ l2 gb264 a0_0 a0_1 gb265 a1 t266 _ ?side1 ?side2 ?side3 ?side4 A4.out).mono ?_); (case side1 => (with_reducible repeat (first | refine blk_drewN ?_ _ | refine blk_drew ?_ | refine blk_alloc ?_ _)); exact BK264.out); (case side2 => (with_reducible repeat (first | refine blk_drewN ?_ _ | refine blk_drew ?_ | refine blk_alloc ?_ _)); exact BK265.out); (case side3 => exact cq (Kd.C_below HR2.out HB.out)); (case side4 => exact HC2.out); rintro e w9 ⟨v267, rfl, ho0, hb⟩; have HO268 := A_ (Kd.R_lower (Kd.R_newB ho0 (g := gb265) (o := .cells #[.int .i64 a1] 3 (0, 0)) (bq BK265)) (below_size (hq HB))); replace BK264 := A_ (blk_below (bq BK264) hb); replace BK265 := A_ (blk_below (bq BK265) hb); replace HB := A_ (below_step (hq HB) hb); clear hb ho0; obtain ⟨Ao10, co10, eo10⟩ := Kd.R_slice HO268.out; subst eo10) | (go_at_call 73; (with_reducible refine (Q41.calls k (fun k_ => some k_ = (.slice Ao10 t266.length co10 : Value).ownBlock) (.slice Ao10 t266.length co10) t266 t269 w _ ?side1 ?side2 A5.out).mono ?_); (case side1 => repeat (first | (with_reducible first | exact HB.out | apply below_alloc | apply pw_below_drewN | apply below_drew1 | refine below_set ?_ GE264.out | refine below_set ?_ GE265.out) | exact HB.out)); (case side2 => exact Kd.R_tight rfl HO268.out); rintro e w11 ⟨rfl, hy0, hb, hkp⟩; replace BK264 := A_ (blk_kept (bq BK264) hkp (fun hs_ => (fun e_ => (Kd.R_ne HO268.out BK264.out (by decide)) e_) hs_)); replace BK265 := A_ (blk_kept (bq BK265) hkp (fun hs_ => (fun e_ => (Kd.R_away HO268.out (fun _ hk => hk.2)) e_) hs_)); replace HO268 := A_ (Kd.R_reok rfl hy0 (fun k_ e_ => HO268.out.1 k_ e_)); replace HB := A_ (hb); clear hb hkp hy0; have hnb12 := NB264_265.out; have hnc12 := NB265_264.out; have hcz13_0 : w11.cell? ⟨gb264, 0, none⟩ = some (.int .i64 a0_0) := bc BK264 0; have hcz13_1 : w11.cell? ⟨gb264, 1, none⟩ = some (.bool a0_1) := bc BK264 1; have hfz13_0 := blk_frozen BK264.out 0; have hfz13_1 := blk_frozen BK264.out 1)))
 (try simp only [Act.put, List.setIfInBounds_toArray, List.set_cons_zero, List.set_cons_succ]); go_cut [7] (fun v7 wc => ∃ (kq : Nat) (x7_5 : List Int), Aside0 (Q4.j0 kq x7_5 a0_0 a0_1 = some r) ∧ Aside0 (kq ≤ k) ∧ Aside0 (Kd.R (Kd.int .i64) 3 wc w.heap.size (fun k_ => k_ ≠ gb265) v7 x7_5) ∧ Aside0 (wc.heap[gb264]? = some (.cells #[.int .i64 a0_0, .bool a0_1] 25 (0, 0))) ∧ Aside0 (wc.heap[gb265]? = some (.cells #[.int .i64 a1] 3 (0, 0))) ∧ Aside0 (Below w.heap.size w wc))
 case first =>
  have H := HC6.out; clear HC6; by_cases c14 : a0_1 = true
  ·
   subst c14
   have H1 : ((Q50.f k t269).bind fun t270 => (Q4.j0 k t270 a0_0 true)) = some r := by rw [if_pos rfl] at H; exact H
   clear H; have H := H1; clear H1; replace H := bm H; obtain ⟨t270, A15, H⟩ := H; have H' := A_ H; clear H; go_wp2_with (first | (go_at_call 74; (with_reducible refine (Q50.calls k (fun k_ => some k_ = (.slice Ao10 t266.length co10 : Value).ownBlock) (.slice Ao10 t266.length co10) t269 t270 w _ ?side1 ?side2 A15.out).mono ?_); (case side1 => repeat (first | (with_reducible first | exact HB.out | apply below_alloc | apply pw_below_drewN | apply below_drew1 | refine below_set ?_ GE264.out | refine below_set ?_ GE265.out) | exact HB.out)); (case side2 => exact Kd.R_tight rfl HO268.out); rintro e w16 ⟨v271, rfl, ho0, hb, hkp⟩; have n0_ := A_ (blk_kept (bq BK264) hkp (fun hs_ => (fun e_ => (Kd.R_ne HO268.out BK264.out (by decide)) e_) hs_)); have n1_ := A_ (blk_kept (bq BK265) hkp (fun hs_ => (fun e_ => (Kd.R_away HO268.out (fun _ hk => hk.2)) e_) hs_)); have n2_ := A_ (Kd.R_mono (ok' := fun k_ => k_ ≠ gb265) ho0 (fun k_ hk_ => Or.elim hk_ (fun hs_ => fun e_ => (Kd.R_away HO268.out (fun _ hk => hk.2)) (by rw [← e_]; exact hs_)) (fun hn_ => (Kd.freshB (g := gb265) (o := .cells #[.int .i64 a1] 3 (0, 0)) (bq BK265) k_ hn_)))); have n3_ := A_ (hb); clear BK264; clear BK265; clear HB; clear HO268; have BK264 := n0_; have BK265 := n1_; have HO272 := n2_; have HB := n3_; clear n0_ n1_ n2_ n3_; clear hb hkp ho0))
   repeat (go_quiet (first | (go_at_call 74; (with_reducible refine (Q50.calls k (fun k_ => some k_ = (.slice Ao10 t266.length co10 : Value).ownBlock) (.slice Ao10 t266.length co10) t269 t270 w _ ?side1 ?side2 A15.out).mono ?_); (case side1 => repeat (first | (with_reducible first | exact HB.out | apply below_alloc | apply pw_below_drewN | apply below_drew1 | refine below_set ?_ GE264.out | refine below_set ?_ GE265.out) | exact HB.out)); (case side2 => exact Kd.R_tight rfl HO268.out); rintro e w16 ⟨v271, rfl, ho0, hb, hkp⟩; have n0_ := A_ (blk_kept (bq BK264) hkp (fun hs_ => (fun e_ => (Kd.R_ne HO268.out BK264.out (by decide)) e_) hs_)); have n1_ := A_ (blk_kept (bq BK265) hkp (fun hs_ => (fun e_ => (Kd.R_away HO268.out (fun _ hk => hk.2)) e_) hs_)); have n2_ := A_ (Kd.R_mono (ok' := fun k_ => k_ ≠ gb265) ho0 (fun k_ hk_ => Or.elim hk_ (fun hs_ => fun e_ => (Kd.R_away HO268.out (fun _ hk => hk.2)) (by rw [← e_]; exact hs_)) (fun hn_ => (Kd.freshB (g := gb265) (o := .cells #[.int .i64 a1] 3 (0, 0)) (bq BK265) k_ hn_)))); have n3_ := A_ (hb); clear BK264; clear BK265; clear HB; clear HO268; have BK264 := n0_; have BK265 := n1_; have HO272 := n2_; have HB := n3_; clear n0_ n1_ n2_ n3_; clear hb hkp ho0)); try go_wp2_with (first | (go_at_call 74; (with_reducible refine (Q50.calls k (fun k_ => some k_ = (.slice Ao10 t266.length co10 : Value).ownBlock) (.slice Ao10 t266.length co10) t269 t270 w _ ?side1 ?side2 A15.out).mono ?_); (case side1 => repeat (first | (with_reducible first | exact HB.out | apply below_alloc | apply pw_below_drewN | apply below_drew1 | refine below_set ?_ GE264.out | refine below_set ?_ GE265.out) | exact HB.out)); (case side2 => exact Kd.R_tight rfl HO268.out); rintro e w16 ⟨v271, rfl, ho0, hb, hkp⟩; have n0_ := A_ (blk_kept (bq BK264) hkp (fun hs_ => (fun e_ => (Kd.R_ne HO268.out BK264.out (by decide)) e_) hs_)); have n1_ := A_ (blk_kept (bq BK265) hkp (fun hs_ => (fun e_ => (Kd.R_away HO268.out (fun _ hk => hk.2)) e_) hs_)); have n2_ := A_ (Kd.R_mono (ok' := fun k_ => k_ ≠ gb265) ho0 (fun k_ hk_ => Or.elim hk_ (fun hs_ => fun e_ => (Kd.R_away HO268.out (fun _ hk => hk.2)) (by rw [← e_]; exact hs_)) (fun hn_ => (Kd.freshB (g := gb265) (o := .cells #[.int .i64 a1] 3 (0, 0)) (bq BK265) k_ hn_)))); have n3_ := A_ (hb); clear BK264; clear BK265; clear HB; clear HO268; have BK264 := n0_; have BK265 := n1_; have HO272 := n2_; have HB := n3_; clear n0_ n1_ n2_ n3_; clear hb hkp ho0)))
   go_meet
   case rel => exact ⟨_, (t270), H', ⟨by first | omega | exact Nat.le_refl _⟩, ⟨rq HO272⟩, ⟨bq BK264⟩, ⟨bq BK265⟩, ⟨hq HB⟩⟩
  ·
   replace c14 := Bool.eq_false_iff.mpr c14; subst c14
   have H1 : (Q4.j0 k t269 a0_0 false) = some r := by rw [if_neg (show ¬ (false = true) by decide)] at H; exact H
   clear H; have H := H1; clear H1; have H' := A_ H; clear H; go_wp2
   repeat (go_quiet (fail); try go_wp2)
   go_meet
   case rel => exact ⟨_, (t269), H', ⟨by first | omega | exact Nat.le_refl _⟩, ⟨by (with_reducible repeat (first | apply Kd.R_alloc | apply Kd.R_drewN | apply Kd.R_drew)); exact Kd.R_mono HO268.out (fun _ hk => hk.2)⟩, ⟨bq BK264⟩, ⟨bq BK265⟩, ⟨hq HB⟩⟩
 case rest =>
  clear HC6; (try clear c14); (try clear hcz13_0); (try clear hcz13_1); (try clear hfz13_0); (try clear hfz13_1); obtain ⟨kq, x7_5, HA, HJ5, HO_7, BK264, BK265, HB⟩ := hcut
  cases kq with
  | zero => exact absurd HA.out (by simp [Q4.j0])
  | succ kj5 =>
   have H := HA.out; clear HA; simp only [Q4.j0] at H
   by_cases c17 : a0_1 = true
   ·
    subst c17
    have H1 : (Q4.l1 kj5 x7_5 60 (wrap64 ((x7_5.length : Int) + 1)) 0 a0_0 true) = some r := by rw [if_pos rfl] at H; exact H
    clear H; have H := H1; clear H1; have H' := A_ H; clear H; have hnb18 := NB264_265.out; have hnc18 := NB265_264.out; have hcz19_0 : wc.cell? ⟨gb264, 0, none⟩ = some (.int .i64 a0_0) := bc BK264 0; have hcz19_1 : wc.cell? ⟨gb264, 1, none⟩ = some (.bool true) := bc BK264 1; have hfz19_0 := blk_frozen BK264.out 0; have hfz19_1 := blk_frozen BK264.out 1; obtain ⟨Ao20, co20, eo20⟩ := Kd.R_slice HO_7.out; subst eo20; go_wp2
    repeat (go_quiet (fail); try go_wp2)
    go_loopg [13, 50] kj5 (fun kq v13 v50 w' => ∃ (x13_2 : Int) (x50_2 : Int), v13 = .int .i64 x13_2 ∧ v50 = .int .i64 x50_2 ∧ Aside0 (Q4.l1 kq x7_5 x13_2 (wrap64 ((x7_5.length : Int) + 1)) x50_2 a0_0 true = some r) ∧ Aside0 (kq ≤ kj5) ∧ Aside0 (Kd.R (Kd.int .i64) 3 w' w.heap.size (fun k_ => k_ ≠ gb265) (.slice Ao20 x7_5.length co20) x7_5) ∧ Aside0 (w'.heap[gb264]? = some (.cells #[.int .i64 a0_0, .bool true] 25 (0, 0))) ∧ Aside0 (w'.heap[gb265]? = some (.cells #[.int .i64 a1] 3 (0, 0))) ∧ Aside0 (Below w.heap.size w w'))
    case atStart => exact ⟨(60), (0), rf, rf, H', ⟨Nat.le_refl _⟩, ⟨rq HO_7⟩, ⟨bq BK264⟩, ⟨bq BK265⟩, ⟨hq HB⟩⟩
    case round =>
     clear H'; (try clear c14); (try clear c17); (try clear hcz13_0); (try clear hcz13_1); (try clear hcz19_0); (try clear hcz19_1); (try clear hfz13_0); (try clear hfz13_1); (try clear hfz19_0); (try clear hfz19_1); obtain ⟨x13_2, x50_2, rfl, rfl, HA, HK2, HO_7, BK264, BK265, HB⟩ := hrel
     cases gk with
     | zero => exact absurd HA.out (by simp [Q4.l1])
     | succ k2 =>
      have H := HA.out; clear HA; simp only [Q4.l1] at H
      by_cases c21 : x50_2 < (wrap64 ((x7_5.length : Int) + 1))
      ·
       rw [if_pos c21] at H; have c21b0 := decide_eq_true c21; clear c21; by_cases c22 : x50_2 > 0
       ·
        rw [if_pos c22] at H; have c22b0 : decide (0 < x50_2) = true := decide_eq_true c22; clear c22
        obtain ⟨ji23, hji23⟩ : ∃ j_ : Int, (wrap64 (x50_2 - 1)) = j_ := ⟨_, rfl⟩
        replace H : (if 0 ≤ (ji23) then (if (ji23) < (x7_5.length : Int) then (if x50_2 < (x7_5.length : Int) then (if 0 ≤ x50_2 then ((Q17.f (rd x7_5 (ji23)) (wrap64 (a0_0 - (rd x7_5 x50_2)))).bind fun t277 => (Q4.l1 k2 x7_5 (mn x13_2 t277) (wrap64 ((x7_5.length : Int) + 1)) (wrap64 (x50_2 + 1)) a0_0 true)) else (none)) else ((Q17.f (rd x7_5 (ji23)) 0).bind fun t278 => (Q4.l1 k2 x7_5 (mn x13_2 t278) (wrap64 ((x7_5.length : Int) + 1)) (wrap64 (x50_2 + 1)) a0_0 true))) else (none)) else (none)) = some r := by first | (rw [hji23] at H; exact H) | (simp only [hji23] at H ⊢; exact H)
        have hji23w : (IntKind.i64.wrap (x50_2 - 1)) = ji23 := (i64_w _).trans hji23; by_cases c24 : 0 ≤ (ji23)
        ·
         rw [if_pos c24] at H; have c24b0 := decide_eq_true c24; clear c24; by_cases c25 : (ji23) < (x7_5.length : Int)
         ·
          rw [if_pos c25] at H; have c25b0 := decide_eq_true c25; clear c25; by_cases c26 : x50_2 < (x7_5.length : Int)
          ·
           rw [if_pos c26] at H; have c26b0 := decide_eq_true c26; clear c26; by_cases c27 : 0 ≤ x50_2
           ·
            rw [if_pos c27] at H; have c27b0 := decide_eq_true c27; clear c27; replace H := bm H; obtain ⟨t277, A28, H⟩ := H
            obtain ⟨ji29, hji29⟩ : ∃ j_ : Int, (mn x13_2 t277) = j_ := ⟨_, rfl⟩
            replace H : (Q4.l1 k2 x7_5 ji29 (wrap64 ((x7_5.length : Int) + 1)) (wrap64 (x50_2 + 1)) a0_0 true) = some r := by first | (rw [hji29] at H; exact H) | (simp only [hji29] at H ⊢; exact H)
            (try rw [hji29] at A28); have hji29_ : (if t277 < x13_2 then t277 else x13_2) = ji29 := hji29; have H' := A_ H; clear H; have p275 : 0 ≤ ((ji23) : Int) := dq; have q275 : (ji23) < (x7_5.length : Int) := dq; obtain ⟨ad275, e275, hx275_0⟩ := Kd.at_int (Kd.R_reads' HO_7.out).2.2 (ji23) p275 q275
            cases e275
            replace p275 := eq_true p275; replace q275 := eq_true q275; have hnb30 := NB264_265.out; have hnc30 := NB265_264.out; have hcz31_0 : wr.cell? ⟨gb264, 0, none⟩ = some (.int .i64 a0_0) := bc BK264 0; have hcz31_1 : wr.cell? ⟨gb264, 1, none⟩ = some (.bool true) := bc BK264 1; have hfz31_0 := blk_frozen BK264.out 0; have hfz31_1 := blk_frozen BK264.out 1; have p276 : 0 ≤ (x50_2 : Int) := dq; have q276 : x50_2 < (x7_5.length : Int) := dq; obtain ⟨ad276, e276, hx276_0⟩ := Kd.at_int (Kd.R_reads' HO_7.out).2.2 x50_2 p276 q276
            obtain rfl : ad275 = ad276 := (by injection e276)
            replace p276 := eq_true p276; replace q276 := eq_true q276; go_wp2_with (first | (go_at_call 78; (with_reducible refine (Q17.calls (rd x7_5 (ji23)) (wrap64 (a0_0 - (rd x7_5 x50_2))) t277 _ A28.out).mono ?_); rintro e w32 ⟨rfl, hb⟩; replace HO_7 := A_ (Kd.R_below (rq HO_7) hb); replace BK264 := A_ (blk_below (bq BK264) hb); replace BK265 := A_ (blk_below (bq BK265) hb); replace HB := A_ (below_step (hq HB) hb); clear hb))
            repeat (go_quiet (first | (go_at_call 78; (with_reducible refine (Q17.calls (rd x7_5 (ji23)) (wrap64 (a0_0 - (rd x7_5 x50_2))) t277 _ A28.out).mono ?_); rintro e w32 ⟨rfl, hb⟩; replace HO_7 := A_ (Kd.R_below (rq HO_7) hb); replace BK264 := A_ (blk_below (bq BK264) hb); replace BK265 := A_ (blk_below (bq BK265) hb); replace HB := A_ (below_step (hq HB) hb); clear hb)); try go_wp2_with (first | (go_at_call 78; (with_reducible refine (Q17.calls (rd x7_5 (ji23)) (wrap64 (a0_0 - (rd x7_5 x50_2))) t277 _ A28.out).mono ?_); rintro e w32 ⟨rfl, hb⟩; replace HO_7 := A_ (Kd.R_below (rq HO_7) hb); replace BK264 := A_ (blk_below (bq BK264) hb); replace BK265 := A_ (blk_below (bq BK265) hb); replace HB := A_ (below_step (hq HB) hb); clear hb)))
            go_roundg k2
            case measure => have := HJ5.out; have := HK2.out; omega
            case rel => exact ⟨(ji29), (wrap64 (x50_2 + 1)), (by first | rfl | (simp; done) | (simp only [← hji29] <;> (first | rfl | simp)) | (simp [*]; done)), rf, H', ⟨by have := HJ5.out; have := HK2.out; omega⟩, ⟨rq HO_7⟩, ⟨bq BK264⟩, ⟨bq BK265⟩, ⟨hq HB⟩⟩
           ·
            rw [if_neg c27] at H; exact absurd H (by simp)
          ·
           rw [if_neg c26] at H; have c26b0 := decide_eq_false c26; clear c26; replace H := bm H; obtain ⟨t278, A33, H⟩ := H
           obtain ⟨ji34, hji34⟩ : ∃ j_ : Int, (mn x13_2 t278) = j_ := ⟨_, rfl⟩
           replace H : (Q4.l1 k2 x7_5 ji34 (wrap64 ((x7_5.length : Int) + 1)) (wrap64 (x50_2 + 1)) a0_0 true) = some r := by first | (rw [hji34] at H; exact H) | (simp only [hji34] at H ⊢; exact H)
           (try rw [hji34] at A33); have hji34_ : (if t278 < x13_2 then t278 else x13_2) = ji34 := hji34; have H' := A_ H; clear H; have p275 : 0 ≤ ((ji23) : Int) := dq; have q275 : (ji23) < (x7_5.length : Int) := dq; obtain ⟨ad275, e275, hx275_0⟩ := Kd.at_int (Kd.R_reads' HO_7.out).2.2 (ji23) p275 q275
           cases e275
           replace p275 := eq_true p275; replace q275 := eq_true q275; go_wp2_with (first | (go_at_call 78; (with_reducible refine (Q17.calls (rd x7_5 (ji23)) 0 t278 _ A33.out).mono ?_); rintro e w35 ⟨rfl, hb⟩; replace HO_7 := A_ (Kd.R_below (rq HO_7) hb); replace BK264 := A_ (blk_below (bq BK264) hb); replace BK265 := A_ (blk_below (bq BK265) hb); replace HB := A_ (below_step (hq HB) hb); clear hb))
           repeat (go_quiet (first | (go_at_call 78; (with_reducible refine (Q17.calls (rd x7_5 (ji23)) 0 t278 _ A33.out).mono ?_); rintro e w35 ⟨rfl, hb⟩; replace HO_7 := A_ (Kd.R_below (rq HO_7) hb); replace BK264 := A_ (blk_below (bq BK264) hb); replace BK265 := A_ (blk_below (bq BK265) hb); replace HB := A_ (below_step (hq HB) hb); clear hb)); try go_wp2_with (first | (go_at_call 78; (with_reducible refine (Q17.calls (rd x7_5 (ji23)) 0 t278 _ A33.out).mono ?_); rintro e w35 ⟨rfl, hb⟩; replace HO_7 := A_ (Kd.R_below (rq HO_7) hb); replace BK264 := A_ (blk_below (bq BK264) hb); replace BK265 := A_ (blk_below (bq BK265) hb); replace HB := A_ (below_step (hq HB) hb); clear hb)))
           go_roundg k2
           case measure => have := HJ5.out; have := HK2.out; omega
           case rel => exact ⟨(ji34), (wrap64 (x50_2 + 1)), (by first | rfl | (simp; done) | (simp only [← hji34] <;> (first | rfl | simp)) | (simp [*]; done)), rf, H', ⟨by have := HJ5.out; have := HK2.out; omega⟩, ⟨rq HO_7⟩, ⟨bq BK264⟩, ⟨bq BK265⟩, ⟨hq HB⟩⟩
         ·
          rw [if_neg c25] at H; exact absurd H (by simp)
        ·
         rw [if_neg c24] at H; exact absurd H (by simp)
       ·
        rw [if_neg c22] at H; have c22b0 : decide (0 < x50_2) = false := decide_eq_false c22; clear c22; by_cases c36 : x50_2 < (x7_5.length : Int)
        ·
         rw [if_pos c36] at H; have c36b0 := decide_eq_true c36; clear c36; by_cases c37 : 0 ≤ x50_2
         ·
          rw [if_pos c37] at H; have c37b0 := decide_eq_true c37; clear c37; replace H := bm H; obtain ⟨t280, A38, H⟩ := H
          obtain ⟨ji39, hji39⟩ : ∃ j_ : Int, (mn x13_2 t280) = j_ := ⟨_, rfl⟩
          replace H : (Q4.l1 k2 x7_5 ji39 (wrap64 ((x7_5.length : Int) + 1)) (wrap64 (x50_2 + 1)) a0_0 true) = some r := by first | (rw [hji39] at H; exact H) | (simp only [hji39] at H ⊢; exact H)
          (try rw [hji39] at A38); have hji39_ : (if t280 < x13_2 then t280 else x13_2) = ji39 := hji39; have H' := A_ H; clear H; have hnb40 := NB264_265.out; have hnc40 := NB265_264.out; have hcz41_0 : wr.cell? ⟨gb264, 0, none⟩ = some (.int .i64 a0_0) := bc BK264 0; have hcz41_1 : wr.cell? ⟨gb264, 1, none⟩ = some (.bool true) := bc BK264 1; have hfz41_0 := blk_frozen BK264.out 0; have hfz41_1 := blk_frozen BK264.out 1; have p279 : 0 ≤ (x50_2 : Int) := dq; have q279 : x50_2 < (x7_5.length : Int) := dq; obtain ⟨ad279, e279, hx279_0⟩ := Kd.at_int (Kd.R_reads' HO_7.out).2.2 x50_2 p279 q279
          cases e279
          replace p279 := eq_true p279; replace q279 := eq_true q279; go_wp2_with (first | (go_at_call 78; (with_reducible refine (Q17.calls 0 (wrap64 (a0_0 - (rd x7_5 x50_2))) t280 _ A38.out).mono ?_); rintro e w42 ⟨rfl, hb⟩; replace HO_7 := A_ (Kd.R_below (rq HO_7) hb); replace BK264 := A_ (blk_below (bq BK264) hb); replace BK265 := A_ (blk_below (bq BK265) hb); replace HB := A_ (below_step (hq HB) hb); clear hb))
          repeat (go_quiet (first | (go_at_call 78; (with_reducible refine (Q17.calls 0 (wrap64 (a0_0 - (rd x7_5 x50_2))) t280 _ A38.out).mono ?_); rintro e w42 ⟨rfl, hb⟩; replace HO_7 := A_ (Kd.R_below (rq HO_7) hb); replace BK264 := A_ (blk_below (bq BK264) hb); replace BK265 := A_ (blk_below (bq BK265) hb); replace HB := A_ (below_step (hq HB) hb); clear hb)); try go_wp2_with (first | (go_at_call 78; (with_reducible refine (Q17.calls 0 (wrap64 (a0_0 - (rd x7_5 x50_2))) t280 _ A38.out).mono ?_); rintro e w42 ⟨rfl, hb⟩; replace HO_7 := A_ (Kd.R_below (rq HO_7) hb); replace BK264 := A_ (blk_below (bq BK264) hb); replace BK265 := A_ (blk_below (bq BK265) hb); replace HB := A_ (below_step (hq HB) hb); clear hb)))
          go_roundg k2
          case measure => have := HJ5.out; have := HK2.out; omega
          case rel => exact ⟨(ji39), (wrap64 (x50_2 + 1)), (by first | rfl | (simp; done) | (simp only [← hji39] <;> (first | rfl | simp)) | (simp [*]; done)), rf, H', ⟨by have := HJ5.out; have := HK2.out; omega⟩, ⟨rq HO_7⟩, ⟨bq BK264⟩, ⟨bq BK265⟩, ⟨hq HB⟩⟩
         ·
          rw [if_neg c37] at H; exact absurd H (by simp)
        ·
         rw [if_neg c36] at H; have c36b0 := decide_eq_false c36; clear c36; replace H := bm H; obtain ⟨t281, A43, H⟩ := H
         obtain ⟨ji44, hji44⟩ : ∃ j_ : Int, (mn x13_2 t281) = j_ := ⟨_, rfl⟩
         replace H : (Q4.l1 k2 x7_5 ji44 (wrap64 ((x7_5.length : Int) + 1)) (wrap64 (x50_2 + 1)) a0_0 true) = some r := by first | (rw [hji44] at H; exact H) | (simp only [hji44] at H ⊢; exact H)
         (try rw [hji44] at A43); have hji44_ : (if t281 < x13_2 then t281 else x13_2) = ji44 := hji44; have H' := A_ H; clear H; go_wp2_with (first | (go_at_call 78; (with_reducible refine (Q17.calls 0 0 t281 _ A43.out).mono ?_); rintro e w45 ⟨rfl, hb⟩; replace HO_7 := A_ (Kd.R_below (rq HO_7) hb); replace BK264 := A_ (blk_below (bq BK264) hb); replace BK265 := A_ (blk_below (bq BK265) hb); replace HB := A_ (below_step (hq HB) hb); clear hb))
         repeat (go_quiet (first | (go_at_call 78; (with_reducible refine (Q17.calls 0 0 t281 _ A43.out).mono ?_); rintro e w45 ⟨rfl, hb⟩; replace HO_7 := A_ (Kd.R_below (rq HO_7) hb); replace BK264 := A_ (blk_below (bq BK264) hb); replace BK265 := A_ (blk_below (bq BK265) hb); replace HB := A_ (below_step (hq HB) hb); clear hb)); try go_wp2_with (first | (go_at_call 78; (with_reducible refine (Q17.calls 0 0 t281 _ A43.out).mono ?_); rintro e w45 ⟨rfl, hb⟩; replace HO_7 := A_ (Kd.R_below (rq HO_7) hb); replace BK264 := A_ (blk_below (bq BK264) hb); replace BK265 := A_ (blk_below (bq BK265) hb); replace HB := A_ (below_step (hq HB) hb); clear hb)))
         go_roundg k2
         case measure => have := HJ5.out; have := HK2.out; omega
         case rel => exact ⟨(ji44), (wrap64 (x50_2 + 1)), (by first | rfl | (simp; done) | (simp only [← hji44] <;> (first | rfl | simp)) | (simp [*]; done)), rf, H', ⟨by have := HJ5.out; have := HK2.out; omega⟩, ⟨rq HO_7⟩, ⟨bq BK264⟩, ⟨bq BK265⟩, ⟨hq HB⟩⟩
      ·
       rw [if_neg c21] at H; have c21b0 := decide_eq_false c21; clear c21; obtain rfl := Option.some.inj H; go_wp2
       repeat (go_quiet (fail); try go_wp2)
       go_ret
       exact ⟨rt, hq HB⟩
   ·
    replace c17 := Bool.eq_false_iff.mpr c17; subst c17
    have H1 : (Q4.l0 kj5 0 0 x7_5 (x7_5.length : Int) 0) = some r := by rw [if_neg (show ¬ (false = true) by decide)] at H; exact H
    clear H; have H := H1; clear H1; have H' := A_ H; clear H; have hnb46 := NB264_265.out; have hnc46 := NB265_264.out; have hcz47_0 : wc.cell? ⟨gb264, 0, none⟩ = some (.int .i64 a0_0) := bc BK264 0; have hcz47_1 : wc.cell? ⟨gb264, 1, none⟩ = some (.bool false) := bc BK264 1; have hfz47_0 := blk_frozen BK264.out 0; have hfz47_1 := blk_frozen BK264.out 1; obtain ⟨Ao48, co48, eo48⟩ := Kd.R_slice HO_7.out; subst eo48; go_wp2
    repeat (go_quiet (fail); try go_wp2)
    go_loopg [9, 10, 31] kj5 (fun kq v9 v10 v31 w' => ∃ (x9_2 : Int) (x10_2 : Int) (x31_2 : Int), v9 = .int .i64 x9_2 ∧ v10 = .int .i64 x10_2 ∧ v31 = .int .i64 x31_2 ∧ Aside0 (Q4.l0 kq x9_2 x10_2 x7_5 (x7_5.length : Int) x31_2 = some r) ∧ Aside0 (kq ≤ kj5) ∧ Aside0 (Kd.R (Kd.int .i64) 3 w' w.heap.size (fun k_ => k_ ≠ gb265) (.slice Ao48 x7_5.length co48) x7_5) ∧ Aside0 (w'.heap[gb264]? = some (.cells #[.int .i64 a0_0, .bool false] 25 (0, 0))) ∧ Aside0 (w'.heap[gb265]? = some (.cells #[.int .i64 a1] 3 (0, 0))) ∧ Aside0 (Below w.heap.size w w'))
    case atStart => exact ⟨(0), (0), (0), rf, rf, rf, H', ⟨Nat.le_refl _⟩, ⟨rq HO_7⟩, ⟨bq BK264⟩, ⟨bq BK265⟩, ⟨hq HB⟩⟩
    case round =>
     clear H'; (try clear c14); (try clear c17); (try clear c21); (try clear c21b0); (try clear c22); (try clear c22b0); (try clear c24); (try clear c24b0); (try clear c25); (try clear c25b0); (try clear c26); (try clear c26b0); (try clear c27); (try clear c27b0); (try clear c36); (try clear c36b0); (try clear c37); (try clear c37b0); (try clear hcz13_0); (try clear hcz13_1); (try clear hcz19_0); (try clear hcz19_1); (try clear hcz31_0); (try clear hcz31_1); (try clear hcz41_0); (try clear hcz41_1); (try clear hcz47_0); (try clear hcz47_1); (try clear hfz13_0); (try clear hfz13_1); (try clear hfz19_0); (try clear hfz19_1); (try clear hfz31_0); (try clear hfz31_1); (try clear hfz41_0); (try clear hfz41_1); (try clear hfz47_0); (try clear hfz47_1); (try clear hx275_0); (try clear hx276_0); (try clear hx279_0); (try clear p275); (try clear p276); (try clear p279); (try clear q275); (try clear q276); (try clear q279); obtain ⟨x9_2, x10_2, x31_2, rfl, rfl, rfl, HA, HK2, HO_29, BK264, BK265, HB⟩ := hrel
     cases gk with
     | zero => exact absurd HA.out (by simp [Q4.l0])
     | succ k2 =>
      have H := HA.out; clear HA; simp only [Q4.l0] at H
      by_cases c49 : x31_2 < (x7_5.length : Int)
      ·
       rw [if_pos c49] at H; have c49b0 := decide_eq_true c49; clear c49; by_cases c50 : 0 ≤ x31_2
       ·
        rw [if_pos c50] at H; have c50b0 := decide_eq_true c50; clear c50; by_cases c51 : x31_2 < (x7_5.length : Int)
        ·
         rw [if_pos c51] at H; have c51b0 := decide_eq_true c51; clear c51
         obtain ⟨ji52, hji52⟩ : ∃ j_ : Int, (mx x9_2 (rd x7_5 x31_2)) = j_ := ⟨_, rfl⟩
         replace H : (Q4.l0 k2 ji52 (mx x10_2 (wrap64 (-(rd x7_5 x31_2)))) x7_5 (x7_5.length : Int) (wrap64 (x31_2 + 1))) = some r := by first | (rw [hji52] at H; exact H) | (simp only [hji52] at H ⊢; exact H)
         have hji52_ : (if x9_2 < (rd x7_5 x31_2) then (rd x7_5 x31_2) else x9_2) = ji52 := hji52
         obtain ⟨ji53, hji53⟩ : ∃ j_ : Int, (mx x10_2 (wrap64 (-(rd x7_5 x31_2)))) = j_ := ⟨_, rfl⟩
         replace H : (Q4.l0 k2 ji52 ji53 x7_5 (x7_5.length : Int) (wrap64 (x31_2 + 1))) = some r := by first | (rw [hji53] at H; exact H) | (simp only [hji53] at H ⊢; exact H)
         have hji53_ : (if x10_2 < (wrap64 (-(rd x7_5 x31_2))) then (wrap64 (-(rd x7_5 x31_2))) else x10_2) = ji53 := hji53; have H' := A_ H; clear H; have p273 : 0 ≤ (x31_2 : Int) := dq; have q273 : x31_2 < (x7_5.length : Int) := dq; obtain ⟨ad273, e273, hx273_0⟩ := Kd.at_int (Kd.R_reads' HO_29.out).2.2 x31_2 p273 q273
         cases e273
         replace p273 := eq_true p273; replace q273 := eq_true q273; go_wp2
         repeat (go_quiet (fail); try go_wp2)
         go_roundg k2
         case measure => have := HJ5.out; have := HK2.out; omega
         case rel => exact ⟨(ji52), (ji53), (wrap64 (x31_2 + 1)), (by first | rfl | (simp; done) | (simp only [← hji52] <;> (first | rfl | simp)) | (simp [*]; done)), (by first | rfl | (simp; done) | (simp only [← hji53] <;> (first | rfl | simp)) | (simp [*]; done)), rf, H', ⟨by have := HJ5.out; have := HK2.out; omega⟩, ⟨rq HO_29⟩, ⟨bq BK264⟩, ⟨bq BK265⟩, ⟨hq HB⟩⟩
        ·
         rw [if_neg c51] at H; exact absurd H (by simp)
       ·
        rw [if_neg c50] at H; exact absurd H (by simp)
      ·
       rw [if_neg c49] at H; have c49b0 := decide_eq_false c49; clear c49; replace H := bm H; obtain ⟨t274, A54, H⟩ := H; obtain rfl := Option.some.inj H; go_wp2_with (first | (go_at_call 78; (with_reducible refine (Q17.calls x9_2 x10_2 t274 _ A54.out).mono ?_); rintro e w55 ⟨rfl, hb⟩; replace HO_29 := A_ (Kd.R_below (rq HO_29) hb); replace BK264 := A_ (blk_below (bq BK264) hb); replace BK265 := A_ (blk_below (bq BK265) hb); replace HB := A_ (below_step (hq HB) hb); clear hb))
       repeat (go_quiet (first | (go_at_call 78; (with_reducible refine (Q17.calls x9_2 x10_2 t274 _ A54.out).mono ?_); rintro e w55 ⟨rfl, hb⟩; replace HO_29 := A_ (Kd.R_below (rq HO_29) hb); replace BK264 := A_ (blk_below (bq BK264) hb); replace BK265 := A_ (blk_below (bq BK265) hb); replace HB := A_ (below_step (hq HB) hb); clear hb)); try go_wp2_with (first | (go_at_call 78; (with_reducible refine (Q17.calls x9_2 x10_2 t274 _ A54.out).mono ?_); rintro e w55 ⟨rfl, hb⟩; replace HO_29 := A_ (Kd.R_below (rq HO_29) hb); replace BK264 := A_ (blk_below (bq BK264) hb); replace BK265 := A_ (blk_below (bq BK265) hb); replace HB := A_ (below_step (hq HB) hb); clear hb)))
       go_ret
       exact ⟨rt, hq HB⟩

end Go.Proofs.YtjhppcpjobofbaaGreat.PFnExplorers
