-- Told shorter still by shrink2.py.
-- Printed, and told shorter by this session's program shrink.py.
-- Printed by this session's program myprint.py.
import Derived.Test.YtjhppcpjobofbabGreatPFnRunsx0
import Derived.Test.YtjhppcpjobofbabGreatPFnRunsx5
namespace Go.Proofs.YtjhppcpjobofbabGreat.PFnRuns
open Go.RowKit Go.Proofs.YtjhppcpjobofbabGreat.Own Go.Proofs.YtjhppcpjobofbabGreatW.PrintWords Go.Proofs.YtjhppcpjobofbabGreatW.PrintLast Go.Proofs.YtjhppcpjobofbabGreatW.PrintMore
attribute [local go_sem] max2_int min2_int max_two min_two max_three min_three max_four min_four   -- for this text's walks alone
set_option linter.unusedVariables false
set_option linter.unusedSimpArgs false

/-! ### slices_IndexFunc_int_int___Road_tour_2: function 87 -/
def Q48.l0 : Nat → List Int → Int → Int → Option (Int)
  | 0, _, _, _ => none
  | k + 1, x0, x7, x8 => if x8 < x7 then (if 0 ≤ x8 then (if x8 < (x0.length : Int) then ((Q68.f (rd x0 x8)).bind fun t344 => (if t344 = true then (some x8) else (Q48.l0 k x0 x7 (wrap64 (x8 + 1))))) else (none)) else (none)) else (some (-1))
def Q48.f (k : Nat) (l0 : List Int) : Option (Int) := Q48.l0 k l0 (l0.length : Int) 0
set_option maxHeartbeats 8000000 in
set_option maxRecDepth 100000 in
theorem Q48.calls (k : Nat) (A0 : Option Addr) (c0 : Nat) (l0 : List Int) (r : Int) (w : World) (hr0 : Kd.C (Kd.int .i64) w A0 l0.length l0) (hc0 : l0.length ≤ c0) (h : Q48.f k l0 = some r) :
    Calls Tryz.prog 87 #[.slice A0 l0.length c0, .func (.func 75) #[] #[]] w fun e w' => e = .returned (.int .i64 r) ∧ Below w.heap.size w w' := by
 have HR0 := A_ hr0; have HC0 := A_ hc0; clear hr0 hc0; have HB := A_ (Below.refl w.heap.size w); have H : (Q48.l0 k l0 (l0.length : Int) 0) = some r := h; clear h; have H' := A_ H; clear H; go_enter Tryz.func87, Tryz.ntmps87
 go_wp2
 go_loopg [8] k (fun kq v8 w' => ∃ (x8_1 : Int), v8 = .int .i64 x8_1 ∧ Aside0 (Q48.l0 kq l0 (l0.length : Int) x8_1 = some r) ∧ Aside0 (kq ≤ k) ∧ Aside0 (Below w.heap.size w w'))
 case atStart => exact ⟨(0), rf, H', ⟨Nat.le_refl _⟩, ⟨hq HB⟩⟩
 case round =>
  clear H'; obtain ⟨x8_1, rfl, HA, HK1, HB⟩ := hrel
  cases gk with
  | zero => exact absurd HA.out (by simp [Q48.l0])
  | succ k1 =>
   have H := HA.out; clear HA; simp only [Q48.l0] at H
   by_cases c2 : x8_1 < (l0.length : Int)
   ·
    rw [if_pos c2] at H; have c2b0 := decide_eq_true c2; clear c2; by_cases c3 : 0 ≤ x8_1
    ·
     rw [if_pos c3] at H; have c3b0 := decide_eq_true c3; clear c3; by_cases c4 : x8_1 < (l0.length : Int)
     ·
      rw [if_pos c4] at H; have c4b0 := decide_eq_true c4; clear c4; replace H := bm H; obtain ⟨t344, A5, H⟩ := H; by_cases c6 : t344 = true
      ·
       subst c6
       rw [if_pos rfl] at H; obtain rfl := Option.some.inj H; have p343 : 0 ≤ (x8_1 : Int) := dq; have q343 : x8_1 < (l0.length : Int) := dq; obtain ⟨ad343, e343, hx343_0⟩ := Kd.at_int HR0.out x8_1 p343 q343
       cases e343
       replace hx343_0 := (HB.out.cell (World.block_lt_of_cell? w _ hx343_0)).trans hx343_0; replace p343 := eq_true p343; replace q343 := eq_true q343; go_wp2_with (first | (go_at_call 75; (with_reducible refine (Q68.calls (rd l0 x8_1) true _ A5.out).mono ?_); rintro e w' ⟨rfl, ⟨nd, rfl⟩⟩))
       go_ret
       exact ⟨rt, hq HB⟩
      ·
       replace c6 := Bool.eq_false_iff.mpr c6; subst c6
       rw [if_neg nf] at H; have H' := A_ H; clear H; have p343 : 0 ≤ (x8_1 : Int) := dq; have q343 : x8_1 < (l0.length : Int) := dq; obtain ⟨ad343, e343, hx343_0⟩ := Kd.at_int HR0.out x8_1 p343 q343
       cases e343
       replace hx343_0 := (HB.out.cell (World.block_lt_of_cell? w _ hx343_0)).trans hx343_0; replace p343 := eq_true p343; replace q343 := eq_true q343; go_wp2_with (first | (go_at_call 75; (with_reducible refine (Q68.calls (rd l0 x8_1) false _ A5.out).mono ?_); rintro e w' ⟨rfl, ⟨nd, rfl⟩⟩))
       go_roundg k1
       case measure => have := HK1.out; omega
       case rel => exact ⟨(wrap64 (x8_1 + 1)), rf, H', ⟨by have := HK1.out; omega⟩, ⟨hq HB⟩⟩
     ·
      rw [if_neg c4] at H; exact absurd H (by simp)
    ·
     rw [if_neg c3] at H; exact absurd H (by simp)
   ·
    rw [if_neg c2] at H; have c2b0 := decide_eq_false c2; clear c2; obtain rfl := Option.some.inj H; go_wp2
    go_ret
    exact ⟨rt, hq HB⟩

/-! ### slices.DeleteFunc at ints, all that are 0 taken out, by the contract that is laid from the shelf -/
def Q63.f (k : Nat) (l0 : List Int) : Option (List Int) := some (l0.filter fun x => !(x == 0))
theorem idx_tour_none : Q48.f 1 [] = some (-1) := rfl
set_option maxHeartbeats 8000000 in
set_option maxRecDepth 100000 in
theorem del_tour_none (c : Nat) (w : World) : Calls Tryz.prog 74 #[.slice none 0 c, .func (.func 75) #[] #[]] w fun e w' => e = .returned (.slice none 0 c) ∧ Below w.heap.size w w' := by
  have HB := A_ (Below.refl w.heap.size w)
  go_enter Tryz.func74, Tryz.ntmps74
  go_wp2_with (go_at_call 87; (refine (Q48.calls 1 none c [] (-1) _ ?side1 ?side2 idx_tour_none).mono ?_); (case side1 => exact Kd.C_nil _ _); (case side2 => exact Nat.zero_le _); rintro e w10 ⟨rfl, hb⟩; have HB2 := A_ (below_step HB.out hb); clear hb)
  go_ret
  exact ⟨rfl, HB2.out⟩
theorem pred_tour (W : World) (x : Int) : FnGives Tryz.prog 75 #[] #[.int .i64 x] (.bool (x == 0)) W := by
  show Calls Tryz.prog 75 #[.int .i64 x] W _
  refine (Q68.calls x (x == 0) W rfl).mono ?_
  rintro e w' ⟨he, hd⟩
  exact ⟨he, hd.out⟩
theorem Q63.calls (k : Nat) (P0_ : Nat → Prop) (u9000_ : Value) (l0 : List Int) (r : List Int) (w0 w : World) (hB : Below w0.heap.size w0 w) (ho0 : Kd.R (Kd.int .i64) 3 w w0.heap.size P0_ u9000_ l0) (h : Q63.f k l0 = some r) :
    Calls Tryz.prog 74 #[u9000_, .func (.func 75) #[] #[]] w fun e w' => ∃ v0_ : Value, e = .returned (v0_) ∧ Kd.R (Kd.int .i64) 3 w' w0.heap.size (fun k_ => (P0_ k_ ∨ w.heap.size ≤ k_)) v0_ r ∧ Below w0.heap.size w0 w' ∧ Kept w w' (fun k_ => P0_ k_) := by
 obtain rfl := Option.some.inj h; have hsz : w0.heap.size ≤ w.heap.size := hB.size; have ho := Kd.own_of_R ho0
 rcases ho.2 with ⟨hv, hz⟩ | ⟨g, cap, cur, rfl, hg, hh, hn, hm, hc, ht⟩
 ·
  have hl : l0 = [] := List.eq_nil_of_length_eq_zero hz; subst hl; subst hv; refine (del_tour_none 0 w).mono ?_; rintro e w' ⟨rfl, hb⟩; exact ⟨_, rfl, Kd.R_nil _ _ _ _ _, hB.trans (hb.mono hB.size), ⟨hb.size, fun i hi _ => hb.block i hi⟩⟩
 ·
  have hlt : g < w.heap.size := (Array.getElem?_eq_some_iff.1 hh).1; have hlen : (l0.filter fun x => !(x == 0)).length ≤ l0.length := List.length_filter_le _ _; have eg : ∀ args w, (callFunc 75 args).run Tryz.prog w = .ok (.enter 75 args) w := enters_of Tryz.func75 (by kernel_rfl) rfl; have hcon := Go.Proofs.YtjhppcpjobofbabGreat.Shelf.slices_DeleteFunc (Value.int .i64) (fun _ => rfl) (fun x : Int => x == 0) 75 #[] eg 0 Tryz.zeroValue3 g 0 cap l0.toArray w (fun W x _ => pred_tour W x) (fun n os dk x _ => pred_tour _ x) (holds_of_blockI hh (by simpa [encs] using ht)) (by unfold maxLen at hm; simp; omega) (by simpa using hn); rw [List.size_toArray] at hcon; refine hcon.mono ?_; rintro e w' ⟨he, q, rfl⟩
  have hts : ((l0.filter fun x => !(x == 0)) ++ List.replicate (l0.length - (l0.filter fun x => !(x == 0)).length) 0).length = l0.length := by
   rw [List.length_append, List.length_replicate]; omega
  have hgr := grownBy_sortedI (w := w) (g := g) (n := q) (os := #[]) ((l0.filter fun x => !(x == 0)) ++ List.replicate (l0.length - (l0.filter fun x => !(x == 0)).length) 0).toArray; have hown := ownsRow_sortedI (n := q) (os := #[]) (ts := (l0.filter fun x => !(x == 0)) ++ List.replicate (l0.length - (l0.filter fun x => !(x == 0)).length) 0) hts hg hh hn hm hc; rw [Go.Sort.grow_empty] at hgr hown; refine ⟨_, he, Kd.R_of_own ?_ (fun k_ hk => .inl (ho0.1 k_ hk)), hB.grown hgr hsz (fun k_ e_ => by injection e_ with e_; omega), Kept.of_grown hgr (Kept.refl _ _) (fun k_ e_ => .inl (ho0.1 k_ (by injection e_ with e_; subst e_; rfl)))⟩
  rcases hown.2 with ⟨hv, _⟩ | ⟨g', cap', cur', hv, hg', hh', hn', hm', hc', ht'⟩
  ·
   exact absurd hv (by simp)
  ·
   injection hv with h1 h2 h3; injection h1 with h1; injection h1 with h1; subst h1; subst h3; refine ⟨by simp [encs], .inr ⟨g, cap, cur', rfl, hg', by first | exact hh' | simpa using hh', Nat.le_trans hlen hn', hm', hc', ?_⟩⟩; rw [Nat.mul_one] at ht'; have h5 := congrArg (List.take (l0.filter fun x => !(x == 0)).length) ht'; rw [List.take_take, Nat.min_eq_left hlen] at h5; simpa [encs] using h5

/-! ### impl_Road_tour: function 50 -/
mutual
def Q4.j0 : Nat → List Int → Int → Bool → Option (Int)
  | 0, _, _, _ => none
  | k + 1, x7, x346000, x346001 => if x346001 = true then (Q4.l1 k x7 60 (wrap64 ((x7.length : Int) + 1)) 0 x346000 x346001) else (Q4.l0 k 0 0 x7 (x7.length : Int) 0)
def Q4.l1 : Nat → List Int → Int → Int → Int → Int → Bool → Option (Int)
  | 0, _, _, _, _, _, _ => none
  | k + 1, x7, x13, x49, x50, x346000, x346001 => if x50 < x49 then (if x50 > 0 then (if 0 ≤ (wrap64 (x50 - 1)) then (if (wrap64 (x50 - 1)) < (x7.length : Int) then (if x50 < (x7.length : Int) then (if 0 ≤ x50 then ((Q23.f (rd x7 (wrap64 (x50 - 1))) (wrap64 (x346000 - (rd x7 x50)))).bind fun t358 => (Q4.l1 k x7 (mn x13 t358) x49 (wrap64 (x50 + 1)) x346000 x346001)) else (none)) else ((Q23.f (rd x7 (wrap64 (x50 - 1))) 0).bind fun t359 => (Q4.l1 k x7 (mn x13 t359) x49 (wrap64 (x50 + 1)) x346000 x346001))) else (none)) else (none)) else (if x50 < (x7.length : Int) then (if 0 ≤ x50 then ((Q23.f 0 (wrap64 (x346000 - (rd x7 x50)))).bind fun t361 => (Q4.l1 k x7 (mn x13 t361) x49 (wrap64 (x50 + 1)) x346000 x346001)) else (none)) else ((Q23.f 0 0).bind fun t362 => (Q4.l1 k x7 (mn x13 t362) x49 (wrap64 (x50 + 1)) x346000 x346001)))) else (some x13)
def Q4.l0 : Nat → Int → Int → List Int → Int → Int → Option (Int)
  | 0, _, _, _, _, _ => none
  | k + 1, x9, x10, x29, x30, x31 => if x31 < x30 then (if 0 ≤ x31 then (if x31 < (x29.length : Int) then (Q4.l0 k (mx x9 (rd x29 x31)) (mx x10 (wrap64 (-(rd x29 x31)))) x29 x30 (wrap64 (x31 + 1))) else (none)) else (none)) else ((Q23.f x9 x10).bind fun t355 => (some t355))
end
def Q4.f (k : Nat) (a0_0 : Int) (a0_1 : Bool) (a1 : Int) (l2 : List Int) : Option (Int) := (Q40.f k l2 a0_0 a0_1 a1).bind fun t347 => ((Q45.f k t347).bind fun t350 => (if a0_1 = true then ((Q63.f k t350).bind fun t351 => (Q4.j0 k t351 a0_0 a0_1)) else (Q4.j0 k t350 a0_0 a0_1)))
set_option maxHeartbeats 8000000 in
set_option maxRecDepth 100000 in
theorem Q4.calls (k : Nat) (a0_0 : Int) (a0_1 : Bool) (a1 : Int) (A2 : Option Addr) (c2 : Nat) (l2 : List Int) (r : Int) (w : World) (hr2 : Kd.C (Kd.int .i64) w A2 l2.length l2) (hc2 : l2.length ≤ c2) (h : Q4.f k a0_0 a0_1 a1 l2 = some r) :
    Calls Tryz.prog 50 #[.agg #[.int .i64 a0_0, .bool a0_1], .int .i64 a1, .slice A2 l2.length c2] w fun e w' => e = .returned (.int .i64 r) ∧ Below w.heap.size w w' := by
 have hu25 := Tryz.underlying25; have HR2 := A_ hr2; have HC2 := A_ hc2; clear hr2 hc2; have HB := A_ (Below.refl w.heap.size w); have H : ((Q40.f k l2 a0_0 a0_1 a1).bind fun t347 => ((Q45.f k t347).bind fun t350 => (if a0_1 = true then ((Q63.f k t350).bind fun t351 => (Q4.j0 k t351 a0_0 a0_1)) else (Q4.j0 k t350 a0_0 a0_1)))) = some r := h; clear h; replace H := bm H; obtain ⟨t347, A4, H⟩ := H; replace H := bm H; obtain ⟨t350, A5, H⟩ := H; have HC6 := A_ H; clear H; go_enter Tryz.func50, Tryz.ntmps50
 go_upto_if 23 with (first | ((with_reducible refine gate_dst (N := 3) rfl ?_); refine bx (N := 3) #[.int .i64 a0_0, .bool a0_1] 25 ?_; intro gb345 hg w7 hbox hb; have BK345 := A_ (hbox); have GW345 := A_ (bs hg (hq HB) : w.heap.size ≤ gb345); have GE345 := A_ (bs hg (hq HB) : w.heap.size ≤ gb345); replace HB := A_ (below_step (hq HB) hb); clear hb hbox hg) | ((with_reducible refine gate_dst (N := 4) rfl ?_); refine bx (N := 4) #[.int .i64 a1] 3 ?_; intro gb346 hg w8 hbox hb; have BK346 := A_ (hbox); have GW346 := A_ (bs hg (hq HB) : w.heap.size ≤ gb346); have GE346 := A_ (bs hg (hq HB) : w.heap.size ≤ gb346); replace HB := A_ (below_step (hq HB) hb); have NB345_346 := A_ ((by rw [hg]; exact Nat.ne_of_lt (blk_lt (bq BK345)) : gb345 ≠ gb346)); have NB346_345 := A_ ((by rw [hg]; exact Nat.ne_of_gt (blk_lt (bq BK345)) : gb346 ≠ gb345)); replace BK345 := A_ (blk_below (bq BK345) hb); clear hb hbox hg) | (go_at_call 72; (with_reducible refine (Q40.calls k _ _ l2 gb345 a0_0 a0_1 gb346 a1 t347 _ ?side1 ?side2 ?side3 ?side4 A4.out).mono ?_); (case side1 => (with_reducible repeat (first | refine blk_drewN ?_ _ | refine blk_drew ?_ | refine blk_alloc ?_ _)); exact BK345.out); (case side2 => (with_reducible repeat (first | refine blk_drewN ?_ _ | refine blk_drew ?_ | refine blk_alloc ?_ _)); exact BK346.out); (case side3 => exact cq (Kd.C_below HR2.out HB.out)); (case side4 => exact HC2.out); rintro e w9 ⟨v348, rfl, ho0, hb⟩; have HO349 := A_ (Kd.R_lower (Kd.R_newB ho0 (g := gb346) (o := .cells #[.int .i64 a1] 3 (0, 0)) (bq BK346)) (below_size (hq HB))); replace BK345 := A_ (blk_below (bq BK345) hb); replace BK346 := A_ (blk_below (bq BK346) hb); replace HB := A_ (below_step (hq HB) hb); clear hb ho0; obtain ⟨Ao10, co10, eo10⟩ := Kd.R_slice HO349.out; subst eo10) | (go_at_call 56; (with_reducible refine (Q45.calls k (fun k_ => some k_ = (.slice Ao10 t347.length co10 : Value).ownBlock) (.slice Ao10 t347.length co10) t347 t350 w _ ?side1 ?side2 A5.out).mono ?_); (case side1 => exact hq HB); (case side2 => exact Kd.R_tight rfl HO349.out); rintro e w11 ⟨rfl, hy0, hb, hkp⟩; replace BK345 := A_ (blk_kept (bq BK345) hkp (fun hs_ => (fun e_ => (Kd.R_ne HO349.out BK345.out (by decide)) e_) hs_)); replace BK346 := A_ (blk_kept (bq BK346) hkp (fun hs_ => (fun e_ => (Kd.R_away HO349.out (fun _ hk => hk.2)) e_) hs_)); replace HO349 := A_ (Kd.R_reok rfl hy0 (fun k_ e_ => HO349.out.1 k_ e_)); replace HB := A_ (hb); clear hb hkp hy0; have hnb12 := NB345_346.out; have hnc12 := NB346_345.out; obtain ⟨hcz13_0, hcz13_1, hfz13_0, hfz13_1⟩ := zc4 BK345))
 repeat (go_quiet (first | ((with_reducible refine gate_dst (N := 3) rfl ?_); refine bx (N := 3) #[.int .i64 a0_0, .bool a0_1] 25 ?_; intro gb345 hg w7 hbox hb; have BK345 := A_ (hbox); have GW345 := A_ (bs hg (hq HB) : w.heap.size ≤ gb345); have GE345 := A_ (bs hg (hq HB) : w.heap.size ≤ gb345); replace HB := A_ (below_step (hq HB) hb); clear hb hbox hg) | ((with_reducible refine gate_dst (N := 4) rfl ?_); refine bx (N := 4) #[.int .i64 a1] 3 ?_; intro gb346 hg w8 hbox hb; have BK346 := A_ (hbox); have GW346 := A_ (bs hg (hq HB) : w.heap.size ≤ gb346); have GE346 := A_ (bs hg (hq HB) : w.heap.size ≤ gb346); replace HB := A_ (below_step (hq HB) hb); have NB345_346 := A_ ((by rw [hg]; exact Nat.ne_of_lt (blk_lt (bq BK345)) : gb345 ≠ gb346)); have NB346_345 := A_ ((by rw [hg]; exact Nat.ne_of_gt (blk_lt (bq BK345)) : gb346 ≠ gb345)); replace BK345 := A_ (blk_below (bq BK345) hb); clear hb hbox hg) | (go_at_call 72; (with_reducible refine (Q40.calls k _ _ l2 gb345 a0_0 a0_1 gb346 a1 t347 _ ?side1 ?side2 ?side3 ?side4 A4.out).mono ?_); (case side1 => (with_reducible repeat (first | refine blk_drewN ?_ _ | refine blk_drew ?_ | refine blk_alloc ?_ _)); exact BK345.out); (case side2 => (with_reducible repeat (first | refine blk_drewN ?_ _ | refine blk_drew ?_ | refine blk_alloc ?_ _)); exact BK346.out); (case side3 => exact cq (Kd.C_below HR2.out HB.out)); (case side4 => exact HC2.out); rintro e w9 ⟨v348, rfl, ho0, hb⟩; have HO349 := A_ (Kd.R_lower (Kd.R_newB ho0 (g := gb346) (o := .cells #[.int .i64 a1] 3 (0, 0)) (bq BK346)) (below_size (hq HB))); replace BK345 := A_ (blk_below (bq BK345) hb); replace BK346 := A_ (blk_below (bq BK346) hb); replace HB := A_ (below_step (hq HB) hb); clear hb ho0; obtain ⟨Ao10, co10, eo10⟩ := Kd.R_slice HO349.out; subst eo10) | (go_at_call 56; (with_reducible refine (Q45.calls k (fun k_ => some k_ = (.slice Ao10 t347.length co10 : Value).ownBlock) (.slice Ao10 t347.length co10) t347 t350 w _ ?side1 ?side2 A5.out).mono ?_); (case side1 => exact hq HB); (case side2 => exact Kd.R_tight rfl HO349.out); rintro e w11 ⟨rfl, hy0, hb, hkp⟩; replace BK345 := A_ (blk_kept (bq BK345) hkp (fun hs_ => (fun e_ => (Kd.R_ne HO349.out BK345.out (by decide)) e_) hs_)); replace BK346 := A_ (blk_kept (bq BK346) hkp (fun hs_ => (fun e_ => (Kd.R_away HO349.out (fun _ hk => hk.2)) e_) hs_)); replace HO349 := A_ (Kd.R_reok rfl hy0 (fun k_ e_ => HO349.out.1 k_ e_)); replace HB := A_ (hb); clear hb hkp hy0; have hnb12 := NB345_346.out; have hnc12 := NB346_345.out; obtain ⟨hcz13_0, hcz13_1, hfz13_0, hfz13_1⟩ := zc4 BK345)); go_upto_if 23 with (first | ((with_reducible refine gate_dst (N := 3) rfl ?_); refine bx (N := 3) #[.int .i64 a0_0, .bool a0_1] 25 ?_; intro gb345 hg w7 hbox hb; have BK345 := A_ (hbox); have GW345 := A_ (bs hg (hq HB) : w.heap.size ≤ gb345); have GE345 := A_ (bs hg (hq HB) : w.heap.size ≤ gb345); replace HB := A_ (below_step (hq HB) hb); clear hb hbox hg) | ((with_reducible refine gate_dst (N := 4) rfl ?_); refine bx (N := 4) #[.int .i64 a1] 3 ?_; intro gb346 hg w8 hbox hb; have BK346 := A_ (hbox); have GW346 := A_ (bs hg (hq HB) : w.heap.size ≤ gb346); have GE346 := A_ (bs hg (hq HB) : w.heap.size ≤ gb346); replace HB := A_ (below_step (hq HB) hb); have NB345_346 := A_ ((by rw [hg]; exact Nat.ne_of_lt (blk_lt (bq BK345)) : gb345 ≠ gb346)); have NB346_345 := A_ ((by rw [hg]; exact Nat.ne_of_gt (blk_lt (bq BK345)) : gb346 ≠ gb345)); replace BK345 := A_ (blk_below (bq BK345) hb); clear hb hbox hg) | (go_at_call 72; (with_reducible refine (Q40.calls k _ _ l2 gb345 a0_0 a0_1 gb346 a1 t347 _ ?side1 ?side2 ?side3 ?side4 A4.out).mono ?_); (case side1 => (with_reducible repeat (first | refine blk_drewN ?_ _ | refine blk_drew ?_ | refine blk_alloc ?_ _)); exact BK345.out); (case side2 => (with_reducible repeat (first | refine blk_drewN ?_ _ | refine blk_drew ?_ | refine blk_alloc ?_ _)); exact BK346.out); (case side3 => exact cq (Kd.C_below HR2.out HB.out)); (case side4 => exact HC2.out); rintro e w9 ⟨v348, rfl, ho0, hb⟩; have HO349 := A_ (Kd.R_lower (Kd.R_newB ho0 (g := gb346) (o := .cells #[.int .i64 a1] 3 (0, 0)) (bq BK346)) (below_size (hq HB))); replace BK345 := A_ (blk_below (bq BK345) hb); replace BK346 := A_ (blk_below (bq BK346) hb); replace HB := A_ (below_step (hq HB) hb); clear hb ho0; obtain ⟨Ao10, co10, eo10⟩ := Kd.R_slice HO349.out; subst eo10) | (go_at_call 56; (with_reducible refine (Q45.calls k (fun k_ => some k_ = (.slice Ao10 t347.length co10 : Value).ownBlock) (.slice Ao10 t347.length co10) t347 t350 w _ ?side1 ?side2 A5.out).mono ?_); (case side1 => exact hq HB); (case side2 => exact Kd.R_tight rfl HO349.out); rintro e w11 ⟨rfl, hy0, hb, hkp⟩; replace BK345 := A_ (blk_kept (bq BK345) hkp (fun hs_ => (fun e_ => (Kd.R_ne HO349.out BK345.out (by decide)) e_) hs_)); replace BK346 := A_ (blk_kept (bq BK346) hkp (fun hs_ => (fun e_ => (Kd.R_away HO349.out (fun _ hk => hk.2)) e_) hs_)); replace HO349 := A_ (Kd.R_reok rfl hy0 (fun k_ e_ => HO349.out.1 k_ e_)); replace HB := A_ (hb); clear hb hkp hy0; have hnb12 := NB345_346.out; have hnc12 := NB346_345.out; obtain ⟨hcz13_0, hcz13_1, hfz13_0, hfz13_1⟩ := zc4 BK345)))
 (try simp only [Act.put, List.setIfInBounds_toArray, List.set_cons_zero, List.set_cons_succ]); go_cut [7] (fun v7 wc => ∃ (kq : Nat) (x7_5 : List Int), Aside0 (Q4.j0 kq x7_5 a0_0 a0_1 = some r) ∧ Aside0 (kq ≤ k) ∧ Aside0 (Kd.R (Kd.int .i64) 3 wc w.heap.size (fun k_ => k_ ≠ gb346) v7 x7_5) ∧ Aside0 (wc.heap[gb345]? = some (.cells #[.int .i64 a0_0, .bool a0_1] 25 (0, 0))) ∧ Aside0 (wc.heap[gb346]? = some (.cells #[.int .i64 a1] 3 (0, 0))) ∧ Aside0 (Below w.heap.size w wc))
 case first =>
  have H := HC6.out; clear HC6; by_cases c14 : a0_1 = true
  ·
   subst c14
   rw [if_pos rfl] at H; replace H := bm H; obtain ⟨t351, A15, H⟩ := H; have H' := A_ H; clear H; go_wp2_with (first | (go_at_call 74; (with_reducible refine (Q63.calls k (fun k_ => some k_ = (.slice Ao10 t347.length co10 : Value).ownBlock) (.slice Ao10 t347.length co10) t350 t351 w _ ?side1 ?side2 A15.out).mono ?_); (case side1 => exact hq HB); (case side2 => exact Kd.R_tight rfl HO349.out); rintro e w16 ⟨v352, rfl, ho0, hb, hkp⟩; have n0_ := A_ (blk_kept (bq BK345) hkp (fun hs_ => (fun e_ => (Kd.R_ne HO349.out BK345.out (by decide)) e_) hs_)); have n1_ := A_ (blk_kept (bq BK346) hkp (fun hs_ => (fun e_ => (Kd.R_away HO349.out (fun _ hk => hk.2)) e_) hs_)); have n2_ := A_ (Kd.R_mono (ok' := fun k_ => k_ ≠ gb346) ho0 (fun k_ hk_ => Or.elim hk_ (fun hs_ => fun e_ => (Kd.R_away HO349.out (fun _ hk => hk.2)) (by rw [← e_]; exact hs_)) (fun hn_ => (Kd.freshB (g := gb346) (o := .cells #[.int .i64 a1] 3 (0, 0)) (bq BK346) k_ hn_)))); have n3_ := A_ (hb); clear BK345; clear BK346; clear HB; clear HO349; have BK345 := n0_; have BK346 := n1_; have HO353 := n2_; have HB := n3_; clear n0_ n1_ n2_ n3_; clear hb hkp ho0))
   repeat (go_quiet (first | (go_at_call 74; (with_reducible refine (Q63.calls k (fun k_ => some k_ = (.slice Ao10 t347.length co10 : Value).ownBlock) (.slice Ao10 t347.length co10) t350 t351 w _ ?side1 ?side2 A15.out).mono ?_); (case side1 => exact hq HB); (case side2 => exact Kd.R_tight rfl HO349.out); rintro e w16 ⟨v352, rfl, ho0, hb, hkp⟩; have n0_ := A_ (blk_kept (bq BK345) hkp (fun hs_ => (fun e_ => (Kd.R_ne HO349.out BK345.out (by decide)) e_) hs_)); have n1_ := A_ (blk_kept (bq BK346) hkp (fun hs_ => (fun e_ => (Kd.R_away HO349.out (fun _ hk => hk.2)) e_) hs_)); have n2_ := A_ (Kd.R_mono (ok' := fun k_ => k_ ≠ gb346) ho0 (fun k_ hk_ => Or.elim hk_ (fun hs_ => fun e_ => (Kd.R_away HO349.out (fun _ hk => hk.2)) (by rw [← e_]; exact hs_)) (fun hn_ => (Kd.freshB (g := gb346) (o := .cells #[.int .i64 a1] 3 (0, 0)) (bq BK346) k_ hn_)))); have n3_ := A_ (hb); clear BK345; clear BK346; clear HB; clear HO349; have BK345 := n0_; have BK346 := n1_; have HO353 := n2_; have HB := n3_; clear n0_ n1_ n2_ n3_; clear hb hkp ho0)); try go_wp2_with (first | (go_at_call 74; (with_reducible refine (Q63.calls k (fun k_ => some k_ = (.slice Ao10 t347.length co10 : Value).ownBlock) (.slice Ao10 t347.length co10) t350 t351 w _ ?side1 ?side2 A15.out).mono ?_); (case side1 => exact hq HB); (case side2 => exact Kd.R_tight rfl HO349.out); rintro e w16 ⟨v352, rfl, ho0, hb, hkp⟩; have n0_ := A_ (blk_kept (bq BK345) hkp (fun hs_ => (fun e_ => (Kd.R_ne HO349.out BK345.out (by decide)) e_) hs_)); have n1_ := A_ (blk_kept (bq BK346) hkp (fun hs_ => (fun e_ => (Kd.R_away HO349.out (fun _ hk => hk.2)) e_) hs_)); have n2_ := A_ (Kd.R_mono (ok' := fun k_ => k_ ≠ gb346) ho0 (fun k_ hk_ => Or.elim hk_ (fun hs_ => fun e_ => (Kd.R_away HO349.out (fun _ hk => hk.2)) (by rw [← e_]; exact hs_)) (fun hn_ => (Kd.freshB (g := gb346) (o := .cells #[.int .i64 a1] 3 (0, 0)) (bq BK346) k_ hn_)))); have n3_ := A_ (hb); clear BK345; clear BK346; clear HB; clear HO349; have BK345 := n0_; have BK346 := n1_; have HO353 := n2_; have HB := n3_; clear n0_ n1_ n2_ n3_; clear hb hkp ho0)))
   go_meet
   case rel => exact ⟨_, (t351), H', ⟨by first | omega | exact Nat.le_refl _⟩, ⟨rq HO353⟩, ⟨bq BK345⟩, ⟨bq BK346⟩, ⟨hq HB⟩⟩
  ·
   replace c14 := Bool.eq_false_iff.mpr c14; subst c14
   rw [if_neg nf] at H; have H' := A_ H; clear H; go_wp2
   repeat (go_quiet (fail); try go_wp2)
   go_meet
   case rel => exact ⟨_, (t350), H', ⟨by first | omega | exact Nat.le_refl _⟩, ⟨by (with_reducible repeat (first | apply Kd.R_alloc | apply Kd.R_drewN | apply Kd.R_drew)); exact Kd.R_mono HO349.out (fun _ hk => hk.2)⟩, ⟨bq BK345⟩, ⟨bq BK346⟩, ⟨hq HB⟩⟩
 case rest =>
  clear HC6; (try clear c14); (try clear hcz13_0); (try clear hcz13_1); (try clear hfz13_0); (try clear hfz13_1); obtain ⟨kq, x7_5, HA, HJ5, HO_7, BK345, BK346, HB⟩ := hcut
  cases kq with
  | zero => exact absurd HA.out (by simp [Q4.j0])
  | succ kj5 =>
   have H := HA.out; clear HA; simp only [Q4.j0] at H
   by_cases c17 : a0_1 = true
   ·
    subst c17
    rw [if_pos rfl] at H; have H' := A_ H; clear H; have hnb18 := NB345_346.out; have hnc18 := NB346_345.out; obtain ⟨hcz19_0, hcz19_1, hfz19_0, hfz19_1⟩ := zc4 BK345; obtain ⟨Ao20, co20, eo20⟩ := Kd.R_slice HO_7.out; subst eo20; go_wp2
    repeat (go_quiet (fail); try go_wp2)
    go_loopg [13, 50] kj5 (fun kq v13 v50 w' => ∃ (x13_2 : Int) (x50_2 : Int), v13 = .int .i64 x13_2 ∧ v50 = .int .i64 x50_2 ∧ Aside0 (Q4.l1 kq x7_5 x13_2 (wrap64 ((x7_5.length : Int) + 1)) x50_2 a0_0 true = some r) ∧ Aside0 (kq ≤ kj5) ∧ Aside0 (Kd.R (Kd.int .i64) 3 w' w.heap.size (fun k_ => k_ ≠ gb346) (.slice Ao20 x7_5.length co20) x7_5) ∧ Aside0 (w'.heap[gb345]? = some (.cells #[.int .i64 a0_0, .bool true] 25 (0, 0))) ∧ Aside0 (w'.heap[gb346]? = some (.cells #[.int .i64 a1] 3 (0, 0))) ∧ Aside0 (Below w.heap.size w w'))
    case atStart => exact ⟨(60), (0), rf, rf, H', ⟨Nat.le_refl _⟩, ⟨rq HO_7⟩, ⟨bq BK345⟩, ⟨bq BK346⟩, ⟨hq HB⟩⟩
    case round =>
     clear H'; (try clear c14); (try clear c17); (try clear hcz13_0); (try clear hcz13_1); (try clear hcz19_0); (try clear hcz19_1); (try clear hfz13_0); (try clear hfz13_1); (try clear hfz19_0); (try clear hfz19_1); obtain ⟨x13_2, x50_2, rfl, rfl, HA, HK2, HO_7, BK345, BK346, HB⟩ := hrel
     cases gk with
     | zero => exact absurd HA.out (by simp [Q4.l1])
     | succ k2 =>
      have H := HA.out; clear HA; simp only [Q4.l1] at H
      by_cases c21 : x50_2 < (wrap64 ((x7_5.length : Int) + 1))
      ·
       rw [if_pos c21] at H; have c21b0 := decide_eq_true c21; clear c21; by_cases c22 : x50_2 > 0
       ·
        rw [if_pos c22] at H; have c22b0 : decide (0 < x50_2) = true := decide_eq_true c22; clear c22
        obtain ⟨ji23, hji23⟩ : ∃ j_ : Int, (wrap64 (x50_2 - 1)) = j_ := ⟨_, rfl⟩
        replace H : (if 0 ≤ (ji23) then (if (ji23) < (x7_5.length : Int) then (if x50_2 < (x7_5.length : Int) then (if 0 ≤ x50_2 then ((Q23.f (rd x7_5 (ji23)) (wrap64 (a0_0 - (rd x7_5 x50_2)))).bind fun t358 => (Q4.l1 k2 x7_5 (mn x13_2 t358) (wrap64 ((x7_5.length : Int) + 1)) (wrap64 (x50_2 + 1)) a0_0 true)) else (none)) else ((Q23.f (rd x7_5 (ji23)) 0).bind fun t359 => (Q4.l1 k2 x7_5 (mn x13_2 t359) (wrap64 ((x7_5.length : Int) + 1)) (wrap64 (x50_2 + 1)) a0_0 true))) else (none)) else (none)) = some r := by first | (rw [hji23] at H; exact H) | (simp only [hji23] at H ⊢; exact H)
        have hji23w : (IntKind.i64.wrap (x50_2 - 1)) = ji23 := (i64_w _).trans hji23; by_cases c24 : 0 ≤ (ji23)
        ·
         rw [if_pos c24] at H; have c24b0 := decide_eq_true c24; clear c24; by_cases c25 : (ji23) < (x7_5.length : Int)
         ·
          rw [if_pos c25] at H; have c25b0 := decide_eq_true c25; clear c25; by_cases c26 : x50_2 < (x7_5.length : Int)
          ·
           rw [if_pos c26] at H; have c26b0 := decide_eq_true c26; clear c26; by_cases c27 : 0 ≤ x50_2
           ·
            rw [if_pos c27] at H; have c27b0 := decide_eq_true c27; clear c27; replace H := bm H; obtain ⟨t358, A28, H⟩ := H
            obtain ⟨ji29, hji29⟩ : ∃ j_ : Int, (mn x13_2 t358) = j_ := ⟨_, rfl⟩
            replace H : (Q4.l1 k2 x7_5 ji29 (wrap64 ((x7_5.length : Int) + 1)) (wrap64 (x50_2 + 1)) a0_0 true) = some r := by first | (rw [hji29] at H; exact H) | (simp only [hji29] at H ⊢; exact H)
            (try rw [hji29] at A28); have hji29_ : (if t358 < x13_2 then t358 else x13_2) = ji29 := hji29; have H' := A_ H; clear H; have p356 : 0 ≤ ((ji23) : Int) := dq; have q356 : (ji23) < (x7_5.length : Int) := dq; obtain ⟨ad356, e356, hx356_0⟩ := Kd.at_int (Kd.R_reads' HO_7.out).2.2 (ji23) p356 q356
            cases e356
            replace p356 := eq_true p356; replace q356 := eq_true q356; have hnb30 := NB345_346.out; have hnc30 := NB346_345.out; obtain ⟨hcz31_0, hcz31_1, hfz31_0, hfz31_1⟩ := zc4 BK345; have p357 : 0 ≤ (x50_2 : Int) := dq; have q357 : x50_2 < (x7_5.length : Int) := dq; obtain ⟨ad357, e357, hx357_0⟩ := Kd.at_int (Kd.R_reads' HO_7.out).2.2 x50_2 p357 q357
            obtain rfl : ad356 = ad357 := (by injection e357)
            replace p357 := eq_true p357; replace q357 := eq_true q357; go_wp2_with (first | (go_at_call 76; (with_reducible refine (Q23.calls (rd x7_5 (ji23)) (wrap64 (a0_0 - (rd x7_5 x50_2))) t358 _ A28.out).mono ?_); rintro e w32 ⟨rfl, hb⟩; replace HO_7 := A_ (Kd.R_below (rq HO_7) hb); replace BK345 := A_ (blk_below (bq BK345) hb); replace BK346 := A_ (blk_below (bq BK346) hb); replace HB := A_ (below_step (hq HB) hb); clear hb))
            repeat (go_quiet (first | (go_at_call 76; (with_reducible refine (Q23.calls (rd x7_5 (ji23)) (wrap64 (a0_0 - (rd x7_5 x50_2))) t358 _ A28.out).mono ?_); rintro e w32 ⟨rfl, hb⟩; replace HO_7 := A_ (Kd.R_below (rq HO_7) hb); replace BK345 := A_ (blk_below (bq BK345) hb); replace BK346 := A_ (blk_below (bq BK346) hb); replace HB := A_ (below_step (hq HB) hb); clear hb)); try go_wp2_with (first | (go_at_call 76; (with_reducible refine (Q23.calls (rd x7_5 (ji23)) (wrap64 (a0_0 - (rd x7_5 x50_2))) t358 _ A28.out).mono ?_); rintro e w32 ⟨rfl, hb⟩; replace HO_7 := A_ (Kd.R_below (rq HO_7) hb); replace BK345 := A_ (blk_below (bq BK345) hb); replace BK346 := A_ (blk_below (bq BK346) hb); replace HB := A_ (below_step (hq HB) hb); clear hb)))
            go_roundg k2
            case measure => have := HJ5.out; have := HK2.out; omega
            case rel => exact ⟨(ji29), (wrap64 (x50_2 + 1)), (by first | rfl | (simp; done) | (simp only [← hji29] <;> (first | rfl | simp)) | (simp [*]; done)), rf, H', ⟨by have := HJ5.out; have := HK2.out; omega⟩, ⟨rq HO_7⟩, ⟨bq BK345⟩, ⟨bq BK346⟩, ⟨hq HB⟩⟩
           ·
            rw [if_neg c27] at H; exact absurd H (by simp)
          ·
           rw [if_neg c26] at H; have c26b0 := decide_eq_false c26; clear c26; replace H := bm H; obtain ⟨t359, A33, H⟩ := H
           obtain ⟨ji34, hji34⟩ : ∃ j_ : Int, (mn x13_2 t359) = j_ := ⟨_, rfl⟩
           replace H : (Q4.l1 k2 x7_5 ji34 (wrap64 ((x7_5.length : Int) + 1)) (wrap64 (x50_2 + 1)) a0_0 true) = some r := by first | (rw [hji34] at H; exact H) | (simp only [hji34] at H ⊢; exact H)
           (try rw [hji34] at A33); have hji34_ : (if t359 < x13_2 then t359 else x13_2) = ji34 := hji34; have H' := A_ H; clear H; have p356 : 0 ≤ ((ji23) : Int) := dq; have q356 : (ji23) < (x7_5.length : Int) := dq; obtain ⟨ad356, e356, hx356_0⟩ := Kd.at_int (Kd.R_reads' HO_7.out).2.2 (ji23) p356 q356
           cases e356
           replace p356 := eq_true p356; replace q356 := eq_true q356; go_wp2_with (first | (go_at_call 76; (with_reducible refine (Q23.calls (rd x7_5 (ji23)) 0 t359 _ A33.out).mono ?_); rintro e w35 ⟨rfl, hb⟩; replace HO_7 := A_ (Kd.R_below (rq HO_7) hb); replace BK345 := A_ (blk_below (bq BK345) hb); replace BK346 := A_ (blk_below (bq BK346) hb); replace HB := A_ (below_step (hq HB) hb); clear hb))
           repeat (go_quiet (first | (go_at_call 76; (with_reducible refine (Q23.calls (rd x7_5 (ji23)) 0 t359 _ A33.out).mono ?_); rintro e w35 ⟨rfl, hb⟩; replace HO_7 := A_ (Kd.R_below (rq HO_7) hb); replace BK345 := A_ (blk_below (bq BK345) hb); replace BK346 := A_ (blk_below (bq BK346) hb); replace HB := A_ (below_step (hq HB) hb); clear hb)); try go_wp2_with (first | (go_at_call 76; (with_reducible refine (Q23.calls (rd x7_5 (ji23)) 0 t359 _ A33.out).mono ?_); rintro e w35 ⟨rfl, hb⟩; replace HO_7 := A_ (Kd.R_below (rq HO_7) hb); replace BK345 := A_ (blk_below (bq BK345) hb); replace BK346 := A_ (blk_below (bq BK346) hb); replace HB := A_ (below_step (hq HB) hb); clear hb)))
           go_roundg k2
           case measure => have := HJ5.out; have := HK2.out; omega
           case rel => exact ⟨(ji34), (wrap64 (x50_2 + 1)), (by first | rfl | (simp; done) | (simp only [← hji34] <;> (first | rfl | simp)) | (simp [*]; done)), rf, H', ⟨by have := HJ5.out; have := HK2.out; omega⟩, ⟨rq HO_7⟩, ⟨bq BK345⟩, ⟨bq BK346⟩, ⟨hq HB⟩⟩
         ·
          rw [if_neg c25] at H; exact absurd H (by simp)
        ·
         rw [if_neg c24] at H; exact absurd H (by simp)
       ·
        rw [if_neg c22] at H; have c22b0 : decide (0 < x50_2) = false := decide_eq_false c22; clear c22; by_cases c36 : x50_2 < (x7_5.length : Int)
        ·
         rw [if_pos c36] at H; have c36b0 := decide_eq_true c36; clear c36; by_cases c37 : 0 ≤ x50_2
         ·
          rw [if_pos c37] at H; have c37b0 := decide_eq_true c37; clear c37; replace H := bm H; obtain ⟨t361, A38, H⟩ := H
          obtain ⟨ji39, hji39⟩ : ∃ j_ : Int, (mn x13_2 t361) = j_ := ⟨_, rfl⟩
          replace H : (Q4.l1 k2 x7_5 ji39 (wrap64 ((x7_5.length : Int) + 1)) (wrap64 (x50_2 + 1)) a0_0 true) = some r := by first | (rw [hji39] at H; exact H) | (simp only [hji39] at H ⊢; exact H)
          (try rw [hji39] at A38); have hji39_ : (if t361 < x13_2 then t361 else x13_2) = ji39 := hji39; have H' := A_ H; clear H; have hnb40 := NB345_346.out; have hnc40 := NB346_345.out; obtain ⟨hcz41_0, hcz41_1, hfz41_0, hfz41_1⟩ := zc4 BK345; have p360 : 0 ≤ (x50_2 : Int) := dq; have q360 : x50_2 < (x7_5.length : Int) := dq; obtain ⟨ad360, e360, hx360_0⟩ := Kd.at_int (Kd.R_reads' HO_7.out).2.2 x50_2 p360 q360
          cases e360
          replace p360 := eq_true p360; replace q360 := eq_true q360; go_wp2_with (first | (go_at_call 76; (with_reducible refine (Q23.calls 0 (wrap64 (a0_0 - (rd x7_5 x50_2))) t361 _ A38.out).mono ?_); rintro e w42 ⟨rfl, hb⟩; replace HO_7 := A_ (Kd.R_below (rq HO_7) hb); replace BK345 := A_ (blk_below (bq BK345) hb); replace BK346 := A_ (blk_below (bq BK346) hb); replace HB := A_ (below_step (hq HB) hb); clear hb))
          repeat (go_quiet (first | (go_at_call 76; (with_reducible refine (Q23.calls 0 (wrap64 (a0_0 - (rd x7_5 x50_2))) t361 _ A38.out).mono ?_); rintro e w42 ⟨rfl, hb⟩; replace HO_7 := A_ (Kd.R_below (rq HO_7) hb); replace BK345 := A_ (blk_below (bq BK345) hb); replace BK346 := A_ (blk_below (bq BK346) hb); replace HB := A_ (below_step (hq HB) hb); clear hb)); try go_wp2_with (first | (go_at_call 76; (with_reducible refine (Q23.calls 0 (wrap64 (a0_0 - (rd x7_5 x50_2))) t361 _ A38.out).mono ?_); rintro e w42 ⟨rfl, hb⟩; replace HO_7 := A_ (Kd.R_below (rq HO_7) hb); replace BK345 := A_ (blk_below (bq BK345) hb); replace BK346 := A_ (blk_below (bq BK346) hb); replace HB := A_ (below_step (hq HB) hb); clear hb)))
          go_roundg k2
          case measure => have := HJ5.out; have := HK2.out; omega
          case rel => exact ⟨(ji39), (wrap64 (x50_2 + 1)), (by first | rfl | (simp; done) | (simp only [← hji39] <;> (first | rfl | simp)) | (simp [*]; done)), rf, H', ⟨by have := HJ5.out; have := HK2.out; omega⟩, ⟨rq HO_7⟩, ⟨bq BK345⟩, ⟨bq BK346⟩, ⟨hq HB⟩⟩
         ·
          rw [if_neg c37] at H; exact absurd H (by simp)
        ·
         rw [if_neg c36] at H; have c36b0 := decide_eq_false c36; clear c36; replace H := bm H; obtain ⟨t362, A43, H⟩ := H
         obtain ⟨ji44, hji44⟩ : ∃ j_ : Int, (mn x13_2 t362) = j_ := ⟨_, rfl⟩
         replace H : (Q4.l1 k2 x7_5 ji44 (wrap64 ((x7_5.length : Int) + 1)) (wrap64 (x50_2 + 1)) a0_0 true) = some r := by first | (rw [hji44] at H; exact H) | (simp only [hji44] at H ⊢; exact H)
         (try rw [hji44] at A43); have hji44_ : (if t362 < x13_2 then t362 else x13_2) = ji44 := hji44; have H' := A_ H; clear H; go_wp2_with (first | (go_at_call 76; (with_reducible refine (Q23.calls 0 0 t362 _ A43.out).mono ?_); rintro e w45 ⟨rfl, hb⟩; replace HO_7 := A_ (Kd.R_below (rq HO_7) hb); replace BK345 := A_ (blk_below (bq BK345) hb); replace BK346 := A_ (blk_below (bq BK346) hb); replace HB := A_ (below_step (hq HB) hb); clear hb))
         repeat (go_quiet (first | (go_at_call 76; (with_reducible refine (Q23.calls 0 0 t362 _ A43.out).mono ?_); rintro e w45 ⟨rfl, hb⟩; replace HO_7 := A_ (Kd.R_below (rq HO_7) hb); replace BK345 := A_ (blk_below (bq BK345) hb); replace BK346 := A_ (blk_below (bq BK346) hb); replace HB := A_ (below_step (hq HB) hb); clear hb)); try go_wp2_with (first | (go_at_call 76; (with_reducible refine (Q23.calls 0 0 t362 _ A43.out).mono ?_); rintro e w45 ⟨rfl, hb⟩; replace HO_7 := A_ (Kd.R_below (rq HO_7) hb); replace BK345 := A_ (blk_below (bq BK345) hb); replace BK346 := A_ (blk_below (bq BK346) hb); replace HB := A_ (below_step (hq HB) hb); clear hb)))
         go_roundg k2
         case measure => have := HJ5.out; have := HK2.out; omega
         case rel => exact ⟨(ji44), (wrap64 (x50_2 + 1)), (by first | rfl | (simp; done) | (simp only [← hji44] <;> (first | rfl | simp)) | (simp [*]; done)), rf, H', ⟨by have := HJ5.out; have := HK2.out; omega⟩, ⟨rq HO_7⟩, ⟨bq BK345⟩, ⟨bq BK346⟩, ⟨hq HB⟩⟩
      ·
       rw [if_neg c21] at H; have c21b0 := decide_eq_false c21; clear c21; obtain rfl := Option.some.inj H; go_wp2
       repeat (go_quiet (fail); try go_wp2)
       go_ret
       exact ⟨rt, hq HB⟩
   ·
    replace c17 := Bool.eq_false_iff.mpr c17; subst c17
    rw [if_neg nf] at H; have H' := A_ H; clear H; have hnb46 := NB345_346.out; have hnc46 := NB346_345.out; obtain ⟨hcz47_0, hcz47_1, hfz47_0, hfz47_1⟩ := zc4 BK345; obtain ⟨Ao48, co48, eo48⟩ := Kd.R_slice HO_7.out; subst eo48; go_wp2
    repeat (go_quiet (fail); try go_wp2)
    go_loopg [9, 10, 31] kj5 (fun kq v9 v10 v31 w' => ∃ (x9_2 : Int) (x10_2 : Int) (x31_2 : Int), v9 = .int .i64 x9_2 ∧ v10 = .int .i64 x10_2 ∧ v31 = .int .i64 x31_2 ∧ Aside0 (Q4.l0 kq x9_2 x10_2 x7_5 (x7_5.length : Int) x31_2 = some r) ∧ Aside0 (kq ≤ kj5) ∧ Aside0 (Kd.R (Kd.int .i64) 3 w' w.heap.size (fun k_ => k_ ≠ gb346) (.slice Ao48 x7_5.length co48) x7_5) ∧ Aside0 (w'.heap[gb345]? = some (.cells #[.int .i64 a0_0, .bool false] 25 (0, 0))) ∧ Aside0 (w'.heap[gb346]? = some (.cells #[.int .i64 a1] 3 (0, 0))) ∧ Aside0 (Below w.heap.size w w'))
    case atStart => exact ⟨(0), (0), (0), rf, rf, rf, H', ⟨Nat.le_refl _⟩, ⟨rq HO_7⟩, ⟨bq BK345⟩, ⟨bq BK346⟩, ⟨hq HB⟩⟩
    case round =>
     clear H'; (try clear c14); (try clear c17); (try clear c21); (try clear c21b0); (try clear c22); (try clear c22b0); (try clear c24); (try clear c24b0); (try clear c25); (try clear c25b0); (try clear c26); (try clear c26b0); (try clear c27); (try clear c27b0); (try clear c36); (try clear c36b0); (try clear c37); (try clear c37b0); (try clear hcz13_0); (try clear hcz13_1); (try clear hcz19_0); (try clear hcz19_1); (try clear hcz31_0); (try clear hcz31_1); (try clear hcz41_0); (try clear hcz41_1); (try clear hcz47_0); (try clear hcz47_1); (try clear hfz13_0); (try clear hfz13_1); (try clear hfz19_0); (try clear hfz19_1); (try clear hfz31_0); (try clear hfz31_1); (try clear hfz41_0); (try clear hfz41_1); (try clear hfz47_0); (try clear hfz47_1); (try clear hx356_0); (try clear hx357_0); (try clear hx360_0); (try clear p356); (try clear p357); (try clear p360); (try clear q356); (try clear q357); (try clear q360); obtain ⟨x9_2, x10_2, x31_2, rfl, rfl, rfl, HA, HK2, HO_29, BK345, BK346, HB⟩ := hrel
     cases gk with
     | zero => exact absurd HA.out (by simp [Q4.l0])
     | succ k2 =>
      have H := HA.out; clear HA; simp only [Q4.l0] at H
      by_cases c49 : x31_2 < (x7_5.length : Int)
      ·
       rw [if_pos c49] at H; have c49b0 := decide_eq_true c49; clear c49; by_cases c50 : 0 ≤ x31_2
       ·
        rw [if_pos c50] at H; have c50b0 := decide_eq_true c50; clear c50; by_cases c51 : x31_2 < (x7_5.length : Int)
        ·
         rw [if_pos c51] at H; have c51b0 := decide_eq_true c51; clear c51
         obtain ⟨ji52, hji52⟩ : ∃ j_ : Int, (mx x9_2 (rd x7_5 x31_2)) = j_ := ⟨_, rfl⟩
         replace H : (Q4.l0 k2 ji52 (mx x10_2 (wrap64 (-(rd x7_5 x31_2)))) x7_5 (x7_5.length : Int) (wrap64 (x31_2 + 1))) = some r := by first | (rw [hji52] at H; exact H) | (simp only [hji52] at H ⊢; exact H)
         have hji52_ : (if x9_2 < (rd x7_5 x31_2) then (rd x7_5 x31_2) else x9_2) = ji52 := hji52
         obtain ⟨ji53, hji53⟩ : ∃ j_ : Int, (mx x10_2 (wrap64 (-(rd x7_5 x31_2)))) = j_ := ⟨_, rfl⟩
         replace H : (Q4.l0 k2 ji52 ji53 x7_5 (x7_5.length : Int) (wrap64 (x31_2 + 1))) = some r := by first | (rw [hji53] at H; exact H) | (simp only [hji53] at H ⊢; exact H)
         have hji53_ : (if x10_2 < (wrap64 (-(rd x7_5 x31_2))) then (wrap64 (-(rd x7_5 x31_2))) else x10_2) = ji53 := hji53; have H' := A_ H; clear H; have p354 : 0 ≤ (x31_2 : Int) := dq; have q354 : x31_2 < (x7_5.length : Int) := dq; obtain ⟨ad354, e354, hx354_0⟩ := Kd.at_int (Kd.R_reads' HO_29.out).2.2 x31_2 p354 q354
         cases e354
         replace p354 := eq_true p354; replace q354 := eq_true q354; go_wp2
         repeat (go_quiet (fail); try go_wp2)
         go_roundg k2
         case measure => have := HJ5.out; have := HK2.out; omega
         case rel => exact ⟨(ji52), (ji53), (wrap64 (x31_2 + 1)), (by first | rfl | (simp; done) | (simp only [← hji52] <;> (first | rfl | simp)) | (simp [*]; done)), (by first | rfl | (simp; done) | (simp only [← hji53] <;> (first | rfl | simp)) | (simp [*]; done)), rf, H', ⟨by have := HJ5.out; have := HK2.out; omega⟩, ⟨rq HO_29⟩, ⟨bq BK345⟩, ⟨bq BK346⟩, ⟨hq HB⟩⟩
        ·
         rw [if_neg c51] at H; exact absurd H (by simp)
       ·
        rw [if_neg c50] at H; exact absurd H (by simp)
      ·
       rw [if_neg c49] at H; have c49b0 := decide_eq_false c49; clear c49; replace H := bm H; obtain ⟨t355, A54, H⟩ := H; obtain rfl := Option.some.inj H; go_wp2_with (first | (go_at_call 76; (with_reducible refine (Q23.calls x9_2 x10_2 t355 _ A54.out).mono ?_); rintro e w55 ⟨rfl, hb⟩; replace HO_29 := A_ (Kd.R_below (rq HO_29) hb); replace BK345 := A_ (blk_below (bq BK345) hb); replace BK346 := A_ (blk_below (bq BK346) hb); replace HB := A_ (below_step (hq HB) hb); clear hb))
       repeat (go_quiet (first | (go_at_call 76; (with_reducible refine (Q23.calls x9_2 x10_2 t355 _ A54.out).mono ?_); rintro e w55 ⟨rfl, hb⟩; replace HO_29 := A_ (Kd.R_below (rq HO_29) hb); replace BK345 := A_ (blk_below (bq BK345) hb); replace BK346 := A_ (blk_below (bq BK346) hb); replace HB := A_ (below_step (hq HB) hb); clear hb)); try go_wp2_with (first | (go_at_call 76; (with_reducible refine (Q23.calls x9_2 x10_2 t355 _ A54.out).mono ?_); rintro e w55 ⟨rfl, hb⟩; replace HO_29 := A_ (Kd.R_below (rq HO_29) hb); replace BK345 := A_ (blk_below (bq BK345) hb); replace BK346 := A_ (blk_below (bq BK346) hb); replace HB := A_ (below_step (hq HB) hb); clear hb)))
       go_ret
       exact ⟨rt, hq HB⟩

/-! ### impl_Road_roundTrip_1: function 83 -/
def Q80.f (a0 : Int) (a1_0 : Int) (a1_1 : Bool) (a2_0 : Int) : Option (Int) := if a1_1 = true then (if a1_0 = 0 then (none) else (some (Int.tmod (wrap64 ((wrap64 (a0 - a2_0)) + a1_0)) a1_0))) else (some (wrap64 (a0 - a2_0)))
set_option maxHeartbeats 8000000 in
set_option maxRecDepth 100000 in
theorem Q80.calls (a0 : Int) (gc1 : Nat) (a1_0 : Int) (a1_1 : Bool) (gc2 : Nat) (a2_0 : Int) (r : Int) (w : World) (hb1 : w.heap[gc1]? = some (.cells #[.int .i64 a1_0, .bool a1_1] 25 (0, 0))) (hb2 : w.heap[gc2]? = some (.cells #[.int .i64 a2_0] 3 (0, 0))) (h : Q80.f a0 a1_0 a1_1 a2_0 = some r) :
    Calls Tryz.prog 83 #[.int .i64 a0, .pointer (some ⟨gc1, 0, none⟩), .pointer (some ⟨gc2, 0, none⟩)] w fun e w' => e = .returned (.int .i64 r) ∧ Drawn0 w w' := by
 have BK1 := A_ hb1; clear hb1; have BK2 := A_ hb2; clear hb2; have H : (if a1_1 = true then (if a1_0 = 0 then (none) else (some (Int.tmod (wrap64 ((wrap64 (a0 - a2_0)) + a1_0)) a1_0))) else (some (wrap64 (a0 - a2_0)))) = some r := h; clear h; by_cases c4 : a1_1 = true
 ·
  subst c4
  rw [if_pos rfl] at H; by_cases c5 : a1_0 = 0
  ·
   rw [if_pos c5] at H; exact absurd H (by simp)
  ·
   rw [if_neg c5] at H; have c5b0 : (a1_0 == 0) = false := beq_eq_false_iff_ne.mpr c5; have c5b1 : (a1_0 != 0) = true := bne_iff_ne.mpr c5; obtain rfl := Option.some.inj H; obtain ⟨hcz6_0, hcz6_1, hfz6_0, hfz6_1⟩ := zc4 BK1; have hcz7_0 : w.cell? ⟨gc2, 0, none⟩ = some (.int .i64 a2_0) := bc BK2 0; have hfz7_0 := blk_frozen BK2.out 0; go_enter Tryz.func83, Tryz.ntmps83
   go_wp2
   go_ret
   exact ⟨rf, by repeat (first | exact Drawn0.refl _ | apply Drawn0.step)⟩
 ·
  replace c4 := Bool.eq_false_iff.mpr c4; subst c4
  rw [if_neg nf] at H; obtain rfl := Option.some.inj H; obtain ⟨hcz8_0, hcz8_1, hfz8_0, hfz8_1⟩ := zc4 BK1; have hcz9_0 : w.cell? ⟨gc2, 0, none⟩ = some (.int .i64 a2_0) := bc BK2 0; have hfz9_0 := blk_frozen BK2.out 0; go_enter Tryz.func83, Tryz.ntmps83
  go_wp2
  go_ret
  exact ⟨rf, by repeat (first | exact Drawn0.refl _ | apply Drawn0.step)⟩

/-! ### impl_mapped__Road_roundTrip_1: function 72 -/
def Q39.l0 : Nat → List Int → List Int → Int → Int → Int → Bool → Int → Option (List Int)
  | 0, _, _, _, _, _, _, _ => none
  | k + 1, x5, x9, x10, x11, x2000, x2001, x3000 => if x11 < x10 then (if 0 ≤ x11 then (if x11 < (x9.length : Int) then ((Q80.f (rd x9 x11) x2000 x2001 x3000).bind fun t367 => (if x5.length < 17592186044416 then (Q39.l0 k (x5 ++ [t367]) x9 x10 (wrap64 (x11 + 1)) x2000 x2001 x3000) else (none))) else (none)) else (none)) else (some x5)
def Q39.f (k : Nat) (l0 : List Int) (a1_0 : Int) (a1_1 : Bool) (a2_0 : Int) : Option (List Int) := Q39.l0 k (([] : List Int)) l0 (l0.length : Int) 0 a1_0 a1_1 a2_0
set_option maxHeartbeats 8000000 in
set_option maxRecDepth 100000 in
theorem Q39.calls (k : Nat) (A0 : Option Addr) (c0 : Nat) (l0 : List Int) (gc1 : Nat) (a1_0 : Int) (a1_1 : Bool) (gc2 : Nat) (a2_0 : Int) (r : List Int) (w : World) (hb1 : w.heap[gc1]? = some (.cells #[.int .i64 a1_0, .bool a1_1] 25 (0, 0))) (hb2 : w.heap[gc2]? = some (.cells #[.int .i64 a2_0] 3 (0, 0))) (hr0 : Kd.C (Kd.int .i64) w A0 l0.length l0) (hc0 : l0.length ≤ c0) (h : Q39.f k l0 a1_0 a1_1 a2_0 = some r) :
    Calls Tryz.prog 72 #[.slice A0 l0.length c0, .func (.func 83) #[] #[.pointer (some ⟨gc1, 0, none⟩), .pointer (some ⟨gc2, 0, none⟩)]] w fun e w' => ∃ v0_ : Value, e = .returned (v0_) ∧ Kd.R (Kd.int .i64) 3 w' w.heap.size (fun _ => True) v0_ r ∧ Below w.heap.size w w' := by
 have HR0 := A_ hr0; have HC0 := A_ hc0; clear hr0 hc0; have BK1 := A_ hb1; clear hb1; have BK2 := A_ hb2; clear hb2; have HB := A_ (Below.refl w.heap.size w); have H : (Q39.l0 k (([] : List Int)) l0 (l0.length : Int) 0 a1_0 a1_1 a2_0) = some r := h; clear h
 obtain ⟨y363, hy363⟩ : ∃ y_ : List Int, y_ = (([] : List Int)) := ⟨_, rfl⟩
 replace H : (Q39.l0 k y363 l0 (l0.length : Int) 0 a1_0 a1_1 a2_0) = some r := by first | (rw [hy363]; with_reducible exact H) | (have H2_ := (Option.bind_some _ _).symm.trans H; rw [hy363]; with_reducible exact H2_) | (have H2_ := (Option.bind_some _ _).symm.trans H; with_reducible exact H2_) | with_reducible exact H | (rw [hy363]; exact H) | exact H
 have Ny363 := A_ hy363; clear hy363; have H' := A_ H; clear H; go_enter Tryz.func72, Tryz.ntmps72
 go_wp2_with (first | ((with_reducible refine gate_dst (N := 8) rfl ?_); refine Kd.R_lit (Kd.int .i64) _ 3 ?hg (N := 8) ?hd (xs := ([] : List Int)) (inner := []) (ok := fun _ => True) (okp := fun _ => True) ?hr ?hp (fun _ hk => hk) trivial (Below.refl _ _) (Nat.le_refl _) (by simp) ?_; (case hd => rfl); (case hg => rfl); (case hr => first | (go_simp; done) | (go_simp; rfl)); (case hp => exact (Reps.none _ _)); intro v364 w4 ho5 hb hg_ hnew_; clear hg_ hnew_; (first | rw [← Ny363.out] at ho5 | (simp only [Int.reduceToNat] at ho5; rw [← Ny363.out] at ho5)); have HO365 := A_ (Kd.R_lower (Kd.R_newB ho5 (g := gc2) (o := .cells #[.int .i64 a2_0] 3 (0, 0)) (bq BK2)) (below_size (hq HB))); replace BK1 := A_ (blk_below (bq BK1) hb); replace BK2 := A_ (blk_below (bq BK2) hb); replace HB := A_ (below_step (hq HB) hb); clear hb ho5))
 go_loopg [5, 11] k (fun kq v5 v11 w' => ∃ (x5_1 : List Int) (x11_1 : Int), v11 = .int .i64 x11_1 ∧ Aside0 (Q39.l0 kq x5_1 l0 (l0.length : Int) x11_1 a1_0 a1_1 a2_0 = some r) ∧ Aside0 (kq ≤ k) ∧ Aside0 (Kd.R (Kd.int .i64) 3 w' w.heap.size (fun k_ => k_ ≠ gc2) v5 x5_1) ∧ Aside0 (w'.heap[gc1]? = some (.cells #[.int .i64 a1_0, .bool a1_1] 25 (0, 0))) ∧ Aside0 (w'.heap[gc2]? = some (.cells #[.int .i64 a2_0] 3 (0, 0))) ∧ Aside0 (Below w.heap.size w w'))
 case atStart => exact ⟨(y363), (0), rf, H', ⟨Nat.le_refl _⟩, ⟨by (with_reducible repeat (first | apply Kd.R_alloc | apply Kd.R_drewN | apply Kd.R_drew)); exact Kd.R_mono HO365.out (fun _ hk => hk.2)⟩, ⟨bq BK1⟩, ⟨bq BK2⟩, ⟨hq HB⟩⟩
 case round =>
  clear H'; obtain ⟨x5_1, x11_1, rfl, HA, HK1, HO_5, BK1, BK2, HB⟩ := hrel
  cases gk with
  | zero => exact absurd HA.out (by simp [Q39.l0])
  | succ k1 =>
   have H := HA.out; clear HA; simp only [Q39.l0] at H
   by_cases c6 : x11_1 < (l0.length : Int)
   ·
    rw [if_pos c6] at H; have c6b0 := decide_eq_true c6; clear c6; by_cases c7 : 0 ≤ x11_1
    ·
     rw [if_pos c7] at H; have c7b0 := decide_eq_true c7; clear c7; by_cases c8 : x11_1 < (l0.length : Int)
     ·
      rw [if_pos c8] at H; have c8b0 := decide_eq_true c8; clear c8; replace H := bm H; obtain ⟨t367, A9, H⟩ := H; by_cases c10 : x5_1.length < 17592186044416
      ·
       rw [if_pos c10] at H; have LMc10 := A_ c10; clear c10
       obtain ⟨y368, hy368⟩ : ∃ y_ : List Int, y_ = (x5_1 ++ [t367]) := ⟨_, rfl⟩
       replace H : (Q39.l0 k1 y368 l0 (l0.length : Int) (wrap64 (x11_1 + 1)) a1_0 a1_1 a2_0) = some r := by first | (rw [hy368]; with_reducible exact H) | (have H2_ := (Option.bind_some _ _).symm.trans H; rw [hy368]; with_reducible exact H2_) | (have H2_ := (Option.bind_some _ _).symm.trans H; with_reducible exact H2_) | with_reducible exact H | (rw [hy368]; exact H) | exact H
       have Ny368 := A_ hy368; clear hy368; have H' := A_ H; clear H; have p366 : 0 ≤ (x11_1 : Int) := dq; have q366 : x11_1 < (l0.length : Int) := dq; obtain ⟨ad366, e366, hx366_0⟩ := Kd.at_int HR0.out x11_1 p366 q366
       cases e366
       replace hx366_0 := (HB.out.cell (World.block_lt_of_cell? w _ hx366_0)).trans hx366_0; replace p366 := eq_true p366; replace q366 := eq_true q366; go_wp2_with (first | (go_at_call 83; (with_reducible refine (Q80.calls (rd l0 x11_1) gc1 a1_0 a1_1 gc2 a2_0 t367 _ ?side1 ?side2 A9.out).mono ?_); (case side1 => (with_reducible repeat (first | refine blk_drewN ?_ _ | refine blk_drew ?_ | refine blk_alloc ?_ _)); exact BK1.out); (case side2 => (with_reducible repeat (first | refine blk_drewN ?_ _ | refine blk_drew ?_ | refine blk_alloc ?_ _)); exact BK2.out); rintro e w' ⟨rfl, ⟨nd, rfl⟩⟩) | ((with_reducible refine gate_builtin (b := .append) (xs := #[.tmp 15, .tmp 19]) rfl ?_); at_builtin; refine Kd.R_append (Kd.int .i64) (w0 := w) w.heap.size rfl (.tmp 15) (.tmp 19) 26 3 (.int .i64 0) 8 rfl Tryz.underlying26 info3 rfl (by decide) (by omega) u5 x5_1 t367 [.int .i64 t367] (fun k_ => k_ ≠ gc2) (fun _ => False) rfl rfl ?aP (fun _ hk => hk.elim) ?aF ?aO ?aB ?aS ?aL ?_; (case aP => exact rfl); (case aB => exact (hq HB)); (case aF => exact (fun k_ hk => Kd.freshB (g := gc2) (o := .cells #[.int .i64 a2_0] 3 (0, 0)) (bq BK2) k_ hk)); (case aO => exact (rq HO_5)); (case aS => exact (below_size (hq HB))); (case aL => have := LMc10.out; omega); intro v369 w11 ho hb hg hat; rw [← Ny368.out] at ho; have n0_ := A_ (blk_grown (g := gc1) (o := .cells #[.int .i64 a1_0, .bool a1_1] 25 (0, 0)) (bq BK1) hg (Kd.R_ne HO_5.out BK1.out (by decide))); have n1_ := A_ (blk_grown (g := gc2) (o := .cells #[.int .i64 a2_0] 3 (0, 0)) (bq BK2) hg (Kd.R_away HO_5.out (fun _ hk => hk))); have n2_ := A_ (hb); have n3_ := A_ (ho); clear BK1; clear BK2; clear HB; clear HO_5; have BK1 := n0_; have BK2 := n1_; have HB := n2_; have HO370 := n3_; clear n0_ n1_ n2_ n3_; clear ho hb hg hat))
       go_roundg k1
       case measure => have := HK1.out; omega
       case rel => exact ⟨(y368), (wrap64 (x11_1 + 1)), rf, H', ⟨by have := HK1.out; omega⟩, ⟨rq HO370⟩, ⟨bq BK1⟩, ⟨bq BK2⟩, ⟨hq HB⟩⟩
      ·
       rw [if_neg c10] at H; exact absurd H (by simp)
     ·
      rw [if_neg c8] at H; exact absurd H (by simp)
    ·
     rw [if_neg c7] at H; exact absurd H (by simp)
   ·
    rw [if_neg c6] at H; have c6b0 := decide_eq_false c6; clear c6; obtain rfl := Option.some.inj H; go_wp2
    go_ret
    exact ⟨_, rt, by (with_reducible repeat (first | apply Kd.R_alloc | apply Kd.R_drewN | apply Kd.R_drew)); exact Kd.R_mono HO_5.out (fun _ hk => trivial), hq HB⟩

end Go.Proofs.YtjhppcpjobofbabGreat.PFnRuns
