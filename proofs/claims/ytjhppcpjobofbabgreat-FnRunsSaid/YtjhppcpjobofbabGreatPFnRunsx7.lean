-- Told shorter still by shrink2.py.
-- Printed, and told shorter by this session's program shrink.py.
-- Printed by this session's program myprint.py.
import Derived.Test.YtjhppcpjobofbabGreatPFnRunsx0
import Derived.Test.YtjhppcpjobofbabGreatPFnRunsx5
import Derived.Test.YtjhppcpjobofbabGreatPFnRunsx6
namespace Go.Proofs.YtjhppcpjobofbabGreat.PFnRuns
open Go.RowKit Go.Proofs.YtjhppcpjobofbabGreat.Own Go.Proofs.YtjhppcpjobofbabGreatW.PrintWords Go.Proofs.YtjhppcpjobofbabGreatW.PrintLast Go.Proofs.YtjhppcpjobofbabGreatW.PrintMore
attribute [local go_sem] max2_int min2_int max_two min_two max_three min_three max_four min_four   -- for this text's walks alone
set_option linter.unusedVariables false
set_option linter.unusedSimpArgs false

/-! ### impl_Road_roundTrip_2: function 84 -/
def Q65.f (a0 : Int) : Option (Bool) := some (a0 == 0)
set_option maxHeartbeats 8000000 in
set_option maxRecDepth 100000 in
theorem Q65.calls (a0 : Int) (r : Bool) (w : World) (h : Q65.f a0 = some r) :
    Calls Tryz.prog 84 #[.int .i64 a0] w fun e w' => e = .returned (.bool r) ∧ Drawn0 w w' := by
 have H : (some (a0 == 0)) = some r := h; clear h; obtain rfl := Option.some.inj H; go_enter Tryz.func84, Tryz.ntmps84
 go_wp2
 go_ret
 exact ⟨rf, by repeat (first | exact Drawn0.refl _ | apply Drawn0.step)⟩

/-! ### slices_IndexFunc_int_int___Road_roundTrip_2: function 87 -/
def Q51.l0 : Nat → List Int → Int → Int → Option (Int)
  | 0, _, _, _ => none
  | k + 1, x0, x7, x8 => if x8 < x7 then (if 0 ≤ x8 then (if x8 < (x0.length : Int) then ((Q65.f (rd x0 x8)).bind fun t372 => (if t372 = true then (some x8) else (Q51.l0 k x0 x7 (wrap64 (x8 + 1))))) else (none)) else (none)) else (some (-1))
def Q51.f (k : Nat) (l0 : List Int) : Option (Int) := Q51.l0 k l0 (l0.length : Int) 0
set_option maxHeartbeats 8000000 in
set_option maxRecDepth 100000 in
theorem Q51.calls (k : Nat) (A0 : Option Addr) (c0 : Nat) (l0 : List Int) (r : Int) (w : World) (hr0 : Kd.C (Kd.int .i64) w A0 l0.length l0) (hc0 : l0.length ≤ c0) (h : Q51.f k l0 = some r) :
    Calls Tryz.prog 87 #[.slice A0 l0.length c0, .func (.func 84) #[] #[]] w fun e w' => e = .returned (.int .i64 r) ∧ Below w.heap.size w w' := by
 have HR0 := A_ hr0; have HC0 := A_ hc0; clear hr0 hc0; have HB := A_ (Below.refl w.heap.size w); have H : (Q51.l0 k l0 (l0.length : Int) 0) = some r := h; clear h; have H' := A_ H; clear H; go_enter Tryz.func87, Tryz.ntmps87
 go_wp2
 go_loopg [8] k (fun kq v8 w' => ∃ (x8_1 : Int), v8 = .int .i64 x8_1 ∧ Aside0 (Q51.l0 kq l0 (l0.length : Int) x8_1 = some r) ∧ Aside0 (kq ≤ k) ∧ Aside0 (Below w.heap.size w w'))
 case atStart => exact ⟨(0), rf, H', ⟨Nat.le_refl _⟩, ⟨hq HB⟩⟩
 case round =>
  clear H'; obtain ⟨x8_1, rfl, HA, HK1, HB⟩ := hrel
  cases gk with
  | zero => exact absurd HA.out (by simp [Q51.l0])
  | succ k1 =>
   have H := HA.out; clear HA; simp only [Q51.l0] at H
   by_cases c2 : x8_1 < (l0.length : Int)
   ·
    rw [if_pos c2] at H; have c2b0 := decide_eq_true c2; clear c2; by_cases c3 : 0 ≤ x8_1
    ·
     rw [if_pos c3] at H; have c3b0 := decide_eq_true c3; clear c3; by_cases c4 : x8_1 < (l0.length : Int)
     ·
      rw [if_pos c4] at H; have c4b0 := decide_eq_true c4; clear c4; replace H := bm H; obtain ⟨t372, A5, H⟩ := H; by_cases c6 : t372 = true
      ·
       subst c6
       rw [if_pos rfl] at H; obtain rfl := Option.some.inj H; have p371 : 0 ≤ (x8_1 : Int) := dq; have q371 : x8_1 < (l0.length : Int) := dq; obtain ⟨ad371, e371, hx371_0⟩ := Kd.at_int HR0.out x8_1 p371 q371
       cases e371
       replace hx371_0 := (HB.out.cell (World.block_lt_of_cell? w _ hx371_0)).trans hx371_0; replace p371 := eq_true p371; replace q371 := eq_true q371; go_wp2_with (first | (go_at_call 84; (with_reducible refine (Q65.calls (rd l0 x8_1) true _ A5.out).mono ?_); rintro e w' ⟨rfl, ⟨nd, rfl⟩⟩))
       go_ret
       exact ⟨rt, hq HB⟩
      ·
       replace c6 := Bool.eq_false_iff.mpr c6; subst c6
       rw [if_neg nf] at H; have H' := A_ H; clear H; have p371 : 0 ≤ (x8_1 : Int) := dq; have q371 : x8_1 < (l0.length : Int) := dq; obtain ⟨ad371, e371, hx371_0⟩ := Kd.at_int HR0.out x8_1 p371 q371
       cases e371
       replace hx371_0 := (HB.out.cell (World.block_lt_of_cell? w _ hx371_0)).trans hx371_0; replace p371 := eq_true p371; replace q371 := eq_true q371; go_wp2_with (first | (go_at_call 84; (with_reducible refine (Q65.calls (rd l0 x8_1) false _ A5.out).mono ?_); rintro e w' ⟨rfl, ⟨nd, rfl⟩⟩))
       go_roundg k1
       case measure => have := HK1.out; omega
       case rel => exact ⟨(wrap64 (x8_1 + 1)), rf, H', ⟨by have := HK1.out; omega⟩, ⟨hq HB⟩⟩
     ·
      rw [if_neg c4] at H; exact absurd H (by simp)
    ·
     rw [if_neg c3] at H; exact absurd H (by simp)
   ·
    rw [if_neg c2] at H; have c2b0 := decide_eq_false c2; clear c2; obtain rfl := Option.some.inj H; go_wp2
    go_ret
    exact ⟨rt, hq HB⟩

/-! ### slices.DeleteFunc at ints, all that are 0 taken out, by the contract that is laid from the shelf -/
def Q59.f (k : Nat) (l0 : List Int) : Option (List Int) := some (l0.filter fun x => !(x == 0))
theorem idx_roundTrip_none : Q51.f 1 [] = some (-1) := rfl
set_option maxHeartbeats 8000000 in
set_option maxRecDepth 100000 in
theorem del_roundTrip_none (c : Nat) (w : World) : Calls Tryz.prog 74 #[.slice none 0 c, .func (.func 84) #[] #[]] w fun e w' => e = .returned (.slice none 0 c) ∧ Below w.heap.size w w' := by
  have HB := A_ (Below.refl w.heap.size w)
  go_enter Tryz.func74, Tryz.ntmps74
  go_wp2_with (go_at_call 87; (refine (Q51.calls 1 none c [] (-1) _ ?side1 ?side2 idx_roundTrip_none).mono ?_); (case side1 => exact Kd.C_nil _ _); (case side2 => exact Nat.zero_le _); rintro e w10 ⟨rfl, hb⟩; have HB2 := A_ (below_step HB.out hb); clear hb)
  go_ret
  exact ⟨rfl, HB2.out⟩
theorem pred_roundTrip (W : World) (x : Int) : FnGives Tryz.prog 84 #[] #[.int .i64 x] (.bool (x == 0)) W := by
  show Calls Tryz.prog 84 #[.int .i64 x] W _
  refine (Q65.calls x (x == 0) W rfl).mono ?_
  rintro e w' ⟨he, hd⟩
  exact ⟨he, hd.out⟩
theorem Q59.calls (k : Nat) (P0_ : Nat → Prop) (u9000_ : Value) (l0 : List Int) (r : List Int) (w0 w : World) (hB : Below w0.heap.size w0 w) (ho0 : Kd.R (Kd.int .i64) 3 w w0.heap.size P0_ u9000_ l0) (h : Q59.f k l0 = some r) :
    Calls Tryz.prog 74 #[u9000_, .func (.func 84) #[] #[]] w fun e w' => ∃ v0_ : Value, e = .returned (v0_) ∧ Kd.R (Kd.int .i64) 3 w' w0.heap.size (fun k_ => (P0_ k_ ∨ w.heap.size ≤ k_)) v0_ r ∧ Below w0.heap.size w0 w' ∧ Kept w w' (fun k_ => P0_ k_) := by
 obtain rfl := Option.some.inj h; have hsz : w0.heap.size ≤ w.heap.size := hB.size; have ho := Kd.own_of_R ho0
 rcases ho.2 with ⟨hv, hz⟩ | ⟨g, cap, cur, rfl, hg, hh, hn, hm, hc, ht⟩
 ·
  have hl : l0 = [] := List.eq_nil_of_length_eq_zero hz; subst hl; subst hv; refine (del_roundTrip_none 0 w).mono ?_; rintro e w' ⟨rfl, hb⟩; exact ⟨_, rfl, Kd.R_nil _ _ _ _ _, hB.trans (hb.mono hB.size), ⟨hb.size, fun i hi _ => hb.block i hi⟩⟩
 ·
  have hlt : g < w.heap.size := (Array.getElem?_eq_some_iff.1 hh).1; have hlen : (l0.filter fun x => !(x == 0)).length ≤ l0.length := List.length_filter_le _ _; have eg : ∀ args w, (callFunc 84 args).run Tryz.prog w = .ok (.enter 84 args) w := enters_of Tryz.func84 (by kernel_rfl) rfl; have hcon := Go.Proofs.YtjhppcpjobofbabGreat.Shelf.slices_DeleteFunc (Value.int .i64) (fun _ => rfl) (fun x : Int => x == 0) 84 #[] eg 0 Tryz.zeroValue3 g 0 cap l0.toArray w (fun W x _ => pred_roundTrip W x) (fun n os dk x _ => pred_roundTrip _ x) (holds_of_blockI hh (by simpa [encs] using ht)) (by unfold maxLen at hm; simp; omega) (by simpa using hn); rw [List.size_toArray] at hcon; refine hcon.mono ?_; rintro e w' ⟨he, q, rfl⟩
  have hts : ((l0.filter fun x => !(x == 0)) ++ List.replicate (l0.length - (l0.filter fun x => !(x == 0)).length) 0).length = l0.length := by
   rw [List.length_append, List.length_replicate]; omega
  have hgr := grownBy_sortedI (w := w) (g := g) (n := q) (os := #[]) ((l0.filter fun x => !(x == 0)) ++ List.replicate (l0.length - (l0.filter fun x => !(x == 0)).length) 0).toArray; have hown := ownsRow_sortedI (n := q) (os := #[]) (ts := (l0.filter fun x => !(x == 0)) ++ List.replicate (l0.length - (l0.filter fun x => !(x == 0)).length) 0) hts hg hh hn hm hc; rw [Go.Sort.grow_empty] at hgr hown; refine ⟨_, he, Kd.R_of_own ?_ (fun k_ hk => .inl (ho0.1 k_ hk)), hB.grown hgr hsz (fun k_ e_ => by injection e_ with e_; omega), Kept.of_grown hgr (Kept.refl _ _) (fun k_ e_ => .inl (ho0.1 k_ (by injection e_ with e_; subst e_; rfl)))⟩
  rcases hown.2 with ⟨hv, _⟩ | ⟨g', cap', cur', hv, hg', hh', hn', hm', hc', ht'⟩
  ·
   exact absurd hv (by simp)
  ·
   injection hv with h1 h2 h3; injection h1 with h1; injection h1 with h1; subst h1; subst h3; refine ⟨by simp [encs], .inr ⟨g, cap, cur', rfl, hg', by first | exact hh' | simpa using hh', Nat.le_trans hlen hn', hm', hc', ?_⟩⟩; rw [Nat.mul_one] at ht'; have h5 := congrArg (List.take (l0.filter fun x => !(x == 0)).length) ht'; rw [List.take_take, Nat.min_eq_left hlen] at h5; simpa [encs] using h5

/-! ### impl_Road_roundTrip: function 69 -/
mutual
def Q8.j0 : Nat → List Int → Int → Bool → Option (Int)
  | 0, _, _, _ => none
  | k + 1, x7, x374000, x374001 => if x374001 = true then (Q8.l1 k x7 x374000 (wrap64 ((x7.length : Int) + 1)) 0 x374000 x374001) else (Q8.l0 k 0 0 x7 (x7.length : Int) 0)
def Q8.l1 : Nat → List Int → Int → Int → Int → Int → Bool → Option (Int)
  | 0, _, _, _, _, _, _ => none
  | k + 1, x7, x12, x50, x51, x374000, x374001 => if x51 < x50 then (if x51 > 0 then (if 0 ≤ (wrap64 (x51 - 1)) then (if (wrap64 (x51 - 1)) < (x7.length : Int) then (if x51 < (x7.length : Int) then (if 0 ≤ x51 then (Q8.l1 k x7 (mn x12 (wrap64 (2 * (wrap64 ((rd x7 (wrap64 (x51 - 1))) + (wrap64 (x374000 - (rd x7 x51)))))))) x50 (wrap64 (x51 + 1)) x374000 x374001) else (none)) else (Q8.l1 k x7 (mn x12 (wrap64 (2 * (wrap64 (rd x7 (wrap64 (x51 - 1))))))) x50 (wrap64 (x51 + 1)) x374000 x374001)) else (none)) else (none)) else (if x51 < (x7.length : Int) then (if 0 ≤ x51 then (Q8.l1 k x7 (mn x12 (wrap64 (2 * (wrap64 (wrap64 (x374000 - (rd x7 x51))))))) x50 (wrap64 (x51 + 1)) x374000 x374001) else (none)) else (Q8.l1 k x7 (mn x12 0) x50 (wrap64 (x51 + 1)) x374000 x374001))) else (some x12)
def Q8.l0 : Nat → Int → Int → List Int → Int → Int → Option (Int)
  | 0, _, _, _, _, _ => none
  | k + 1, x8, x9, x28, x29, x30 => if x30 < x29 then (if 0 ≤ x30 then (if x30 < (x28.length : Int) then (Q8.l0 k (mx x8 (rd x28 x30)) (mx x9 (wrap64 (-(rd x28 x30)))) x28 x29 (wrap64 (x30 + 1))) else (none)) else (none)) else (some (wrap64 (2 * (wrap64 (x8 + x9)))))
end
def Q8.f (k : Nat) (a0_0 : Int) (a0_1 : Bool) (a1 : Int) (l2 : List Int) : Option (Int) := (Q39.f k l2 a0_0 a0_1 a1).bind fun t375 => ((Q45.f k t375).bind fun t378 => (if a0_1 = true then ((Q59.f k t378).bind fun t379 => (Q8.j0 k t379 a0_0 a0_1)) else (Q8.j0 k t378 a0_0 a0_1)))
set_option maxHeartbeats 8000000 in
set_option maxRecDepth 100000 in
theorem Q8.calls (k : Nat) (a0_0 : Int) (a0_1 : Bool) (a1 : Int) (A2 : Option Addr) (c2 : Nat) (l2 : List Int) (r : Int) (w : World) (hr2 : Kd.C (Kd.int .i64) w A2 l2.length l2) (hc2 : l2.length ≤ c2) (h : Q8.f k a0_0 a0_1 a1 l2 = some r) :
    Calls Tryz.prog 69 #[.agg #[.int .i64 a0_0, .bool a0_1], .int .i64 a1, .slice A2 l2.length c2] w fun e w' => e = .returned (.int .i64 r) ∧ Below w.heap.size w w' := by
 have hu25 := Tryz.underlying25; have HR2 := A_ hr2; have HC2 := A_ hc2; clear hr2 hc2; have HB := A_ (Below.refl w.heap.size w); have H : ((Q39.f k l2 a0_0 a0_1 a1).bind fun t375 => ((Q45.f k t375).bind fun t378 => (if a0_1 = true then ((Q59.f k t378).bind fun t379 => (Q8.j0 k t379 a0_0 a0_1)) else (Q8.j0 k t378 a0_0 a0_1)))) = some r := h; clear h; replace H := bm H; obtain ⟨t375, A4, H⟩ := H; replace H := bm H; obtain ⟨t378, A5, H⟩ := H; have HC6 := A_ H; clear H; go_enter Tryz.func69, Tryz.ntmps69
 go_upto_if 22 with (first | ((with_reducible refine gate_dst (N := 3) rfl ?_); refine bx (N := 3) #[.int .i64 a0_0, .bool a0_1] 25 ?_; intro gb373 hg w7 hbox hb; have BK373 := A_ (hbox); have GW373 := A_ (bs hg (hq HB) : w.heap.size ≤ gb373); have GE373 := A_ (bs hg (hq HB) : w.heap.size ≤ gb373); replace HB := A_ (below_step (hq HB) hb); clear hb hbox hg) | ((with_reducible refine gate_dst (N := 4) rfl ?_); refine bx (N := 4) #[.int .i64 a1] 3 ?_; intro gb374 hg w8 hbox hb; have BK374 := A_ (hbox); have GW374 := A_ (bs hg (hq HB) : w.heap.size ≤ gb374); have GE374 := A_ (bs hg (hq HB) : w.heap.size ≤ gb374); replace HB := A_ (below_step (hq HB) hb); have NB373_374 := A_ ((by rw [hg]; exact Nat.ne_of_lt (blk_lt (bq BK373)) : gb373 ≠ gb374)); have NB374_373 := A_ ((by rw [hg]; exact Nat.ne_of_gt (blk_lt (bq BK373)) : gb374 ≠ gb373)); replace BK373 := A_ (blk_below (bq BK373) hb); clear hb hbox hg) | (go_at_call 72; (with_reducible refine (Q39.calls k _ _ l2 gb373 a0_0 a0_1 gb374 a1 t375 _ ?side1 ?side2 ?side3 ?side4 A4.out).mono ?_); (case side1 => (with_reducible repeat (first | refine blk_drewN ?_ _ | refine blk_drew ?_ | refine blk_alloc ?_ _)); exact BK373.out); (case side2 => (with_reducible repeat (first | refine blk_drewN ?_ _ | refine blk_drew ?_ | refine blk_alloc ?_ _)); exact BK374.out); (case side3 => exact cq (Kd.C_below HR2.out HB.out)); (case side4 => exact HC2.out); rintro e w9 ⟨v376, rfl, ho0, hb⟩; have HO377 := A_ (Kd.R_lower (Kd.R_newB ho0 (g := gb374) (o := .cells #[.int .i64 a1] 3 (0, 0)) (bq BK374)) (below_size (hq HB))); replace BK373 := A_ (blk_below (bq BK373) hb); replace BK374 := A_ (blk_below (bq BK374) hb); replace HB := A_ (below_step (hq HB) hb); clear hb ho0; obtain ⟨Ao10, co10, eo10⟩ := Kd.R_slice HO377.out; subst eo10) | (go_at_call 56; (with_reducible refine (Q45.calls k (fun k_ => some k_ = (.slice Ao10 t375.length co10 : Value).ownBlock) (.slice Ao10 t375.length co10) t375 t378 w _ ?side1 ?side2 A5.out).mono ?_); (case side1 => exact hq HB); (case side2 => exact Kd.R_tight rfl HO377.out); rintro e w11 ⟨rfl, hy0, hb, hkp⟩; replace BK373 := A_ (blk_kept (bq BK373) hkp (fun hs_ => (fun e_ => (Kd.R_ne HO377.out BK373.out (by decide)) e_) hs_)); replace BK374 := A_ (blk_kept (bq BK374) hkp (fun hs_ => (fun e_ => (Kd.R_away HO377.out (fun _ hk => hk.2)) e_) hs_)); replace HO377 := A_ (Kd.R_reok rfl hy0 (fun k_ e_ => HO377.out.1 k_ e_)); replace HB := A_ (hb); clear hb hkp hy0; have hnb12 := NB373_374.out; have hnc12 := NB374_373.out; obtain ⟨hcz13_0, hcz13_1, hfz13_0, hfz13_1⟩ := zc4 BK373))
 repeat (go_quiet (first | ((with_reducible refine gate_dst (N := 3) rfl ?_); refine bx (N := 3) #[.int .i64 a0_0, .bool a0_1] 25 ?_; intro gb373 hg w7 hbox hb; have BK373 := A_ (hbox); have GW373 := A_ (bs hg (hq HB) : w.heap.size ≤ gb373); have GE373 := A_ (bs hg (hq HB) : w.heap.size ≤ gb373); replace HB := A_ (below_step (hq HB) hb); clear hb hbox hg) | ((with_reducible refine gate_dst (N := 4) rfl ?_); refine bx (N := 4) #[.int .i64 a1] 3 ?_; intro gb374 hg w8 hbox hb; have BK374 := A_ (hbox); have GW374 := A_ (bs hg (hq HB) : w.heap.size ≤ gb374); have GE374 := A_ (bs hg (hq HB) : w.heap.size ≤ gb374); replace HB := A_ (below_step (hq HB) hb); have NB373_374 := A_ ((by rw [hg]; exact Nat.ne_of_lt (blk_lt (bq BK373)) : gb373 ≠ gb374)); have NB374_373 := A_ ((by rw [hg]; exact Nat.ne_of_gt (blk_lt (bq BK373)) : gb374 ≠ gb373)); replace BK373 := A_ (blk_below (bq BK373) hb); clear hb hbox hg) | (go_at_call 72; (with_reducible refine (Q39.calls k _ _ l2 gb373 a0_0 a0_1 gb374 a1 t375 _ ?side1 ?side2 ?side3 ?side4 A4.out).mono ?_); (case side1 => (with_reducible repeat (first | refine blk_drewN ?_ _ | refine blk_drew ?_ | refine blk_alloc ?_ _)); exact BK373.out); (case side2 => (with_reducible repeat (first | refine blk_drewN ?_ _ | refine blk_drew ?_ | refine blk_alloc ?_ _)); exact BK374.out); (case side3 => exact cq (Kd.C_below HR2.out HB.out)); (case side4 => exact HC2.out); rintro e w9 ⟨v376, rfl, ho0, hb⟩; have HO377 := A_ (Kd.R_lower (Kd.R_newB ho0 (g := gb374) (o := .cells #[.int .i64 a1] 3 (0, 0)) (bq BK374)) (below_size (hq HB))); replace BK373 := A_ (blk_below (bq BK373) hb); replace BK374 := A_ (blk_below (bq BK374) hb); replace HB := A_ (below_step (hq HB) hb); clear hb ho0; obtain ⟨Ao10, co10, eo10⟩ := Kd.R_slice HO377.out; subst eo10) | (go_at_call 56; (with_reducible refine (Q45.calls k (fun k_ => some k_ = (.slice Ao10 t375.length co10 : Value).ownBlock) (.slice Ao10 t375.length co10) t375 t378 w _ ?side1 ?side2 A5.out).mono ?_); (case side1 => exact hq HB); (case side2 => exact Kd.R_tight rfl HO377.out); rintro e w11 ⟨rfl, hy0, hb, hkp⟩; replace BK373 := A_ (blk_kept (bq BK373) hkp (fun hs_ => (fun e_ => (Kd.R_ne HO377.out BK373.out (by decide)) e_) hs_)); replace BK374 := A_ (blk_kept (bq BK374) hkp (fun hs_ => (fun e_ => (Kd.R_away HO377.out (fun _ hk => hk.2)) e_) hs_)); replace HO377 := A_ (Kd.R_reok rfl hy0 (fun k_ e_ => HO377.out.1 k_ e_)); replace HB := A_ (hb); clear hb hkp hy0; have hnb12 := NB373_374.out; have hnc12 := NB374_373.out; obtain ⟨hcz13_0, hcz13_1, hfz13_0, hfz13_1⟩ := zc4 BK373)); go_upto_if 22 with (first | ((with_reducible refine gate_dst (N := 3) rfl ?_); refine bx (N := 3) #[.int .i64 a0_0, .bool a0_1] 25 ?_; intro gb373 hg w7 hbox hb; have BK373 := A_ (hbox); have GW373 := A_ (bs hg (hq HB) : w.heap.size ≤ gb373); have GE373 := A_ (bs hg (hq HB) : w.heap.size ≤ gb373); replace HB := A_ (below_step (hq HB) hb); clear hb hbox hg) | ((with_reducible refine gate_dst (N := 4) rfl ?_); refine bx (N := 4) #[.int .i64 a1] 3 ?_; intro gb374 hg w8 hbox hb; have BK374 := A_ (hbox); have GW374 := A_ (bs hg (hq HB) : w.heap.size ≤ gb374); have GE374 := A_ (bs hg (hq HB) : w.heap.size ≤ gb374); replace HB := A_ (below_step (hq HB) hb); have NB373_374 := A_ ((by rw [hg]; exact Nat.ne_of_lt (blk_lt (bq BK373)) : gb373 ≠ gb374)); have NB374_373 := A_ ((by rw [hg]; exact Nat.ne_of_gt (blk_lt (bq BK373)) : gb374 ≠ gb373)); replace BK373 := A_ (blk_below (bq BK373) hb); clear hb hbox hg) | (go_at_call 72; (with_reducible refine (Q39.calls k _ _ l2 gb373 a0_0 a0_1 gb374 a1 t375 _ ?side1 ?side2 ?side3 ?side4 A4.out).mono ?_); (case side1 => (with_reducible repeat (first | refine blk_drewN ?_ _ | refine blk_drew ?_ | refine blk_alloc ?_ _)); exact BK373.out); (case side2 => (with_reducible repeat (first | refine blk_drewN ?_ _ | refine blk_drew ?_ | refine blk_alloc ?_ _)); exact BK374.out); (case side3 => exact cq (Kd.C_below HR2.out HB.out)); (case side4 => exact HC2.out); rintro e w9 ⟨v376, rfl, ho0, hb⟩; have HO377 := A_ (Kd.R_lower (Kd.R_newB ho0 (g := gb374) (o := .cells #[.int .i64 a1] 3 (0, 0)) (bq BK374)) (below_size (hq HB))); replace BK373 := A_ (blk_below (bq BK373) hb); replace BK374 := A_ (blk_below (bq BK374) hb); replace HB := A_ (below_step (hq HB) hb); clear hb ho0; obtain ⟨Ao10, co10, eo10⟩ := Kd.R_slice HO377.out; subst eo10) | (go_at_call 56; (with_reducible refine (Q45.calls k (fun k_ => some k_ = (.slice Ao10 t375.length co10 : Value).ownBlock) (.slice Ao10 t375.length co10) t375 t378 w _ ?side1 ?side2 A5.out).mono ?_); (case side1 => exact hq HB); (case side2 => exact Kd.R_tight rfl HO377.out); rintro e w11 ⟨rfl, hy0, hb, hkp⟩; replace BK373 := A_ (blk_kept (bq BK373) hkp (fun hs_ => (fun e_ => (Kd.R_ne HO377.out BK373.out (by decide)) e_) hs_)); replace BK374 := A_ (blk_kept (bq BK374) hkp (fun hs_ => (fun e_ => (Kd.R_away HO377.out (fun _ hk => hk.2)) e_) hs_)); replace HO377 := A_ (Kd.R_reok rfl hy0 (fun k_ e_ => HO377.out.1 k_ e_)); replace HB := A_ (hb); clear hb hkp hy0; have hnb12 := NB373_374.out; have hnc12 := NB374_373.out; obtain ⟨hcz13_0, hcz13_1, hfz13_0, hfz13_1⟩ := zc4 BK373)))
 (try simp only [Act.put, List.setIfInBounds_toArray, List.set_cons_zero, List.set_cons_succ]); go_cut [7] (fun v7 wc => ∃ (kq : Nat) (x7_5 : List Int), Aside0 (Q8.j0 kq x7_5 a0_0 a0_1 = some r) ∧ Aside0 (kq ≤ k) ∧ Aside0 (Kd.R (Kd.int .i64) 3 wc w.heap.size (fun k_ => k_ ≠ gb374) v7 x7_5) ∧ Aside0 (wc.heap[gb373]? = some (.cells #[.int .i64 a0_0, .bool a0_1] 25 (0, 0))) ∧ Aside0 (wc.heap[gb374]? = some (.cells #[.int .i64 a1] 3 (0, 0))) ∧ Aside0 (Below w.heap.size w wc))
 case first =>
  have H := HC6.out; clear HC6; by_cases c14 : a0_1 = true
  ·
   subst c14
   rw [if_pos rfl] at H; replace H := bm H; obtain ⟨t379, A15, H⟩ := H; have H' := A_ H; clear H; go_wp2_with (first | (go_at_call 74; (with_reducible refine (Q59.calls k (fun k_ => some k_ = (.slice Ao10 t375.length co10 : Value).ownBlock) (.slice Ao10 t375.length co10) t378 t379 w _ ?side1 ?side2 A15.out).mono ?_); (case side1 => exact hq HB); (case side2 => exact Kd.R_tight rfl HO377.out); rintro e w16 ⟨v380, rfl, ho0, hb, hkp⟩; have n0_ := A_ (blk_kept (bq BK373) hkp (fun hs_ => (fun e_ => (Kd.R_ne HO377.out BK373.out (by decide)) e_) hs_)); have n1_ := A_ (blk_kept (bq BK374) hkp (fun hs_ => (fun e_ => (Kd.R_away HO377.out (fun _ hk => hk.2)) e_) hs_)); have n2_ := A_ (Kd.R_mono (ok' := fun k_ => k_ ≠ gb374) ho0 (fun k_ hk_ => Or.elim hk_ (fun hs_ => fun e_ => (Kd.R_away HO377.out (fun _ hk => hk.2)) (by rw [← e_]; exact hs_)) (fun hn_ => (Kd.freshB (g := gb374) (o := .cells #[.int .i64 a1] 3 (0, 0)) (bq BK374) k_ hn_)))); have n3_ := A_ (hb); clear BK373; clear BK374; clear HB; clear HO377; have BK373 := n0_; have BK374 := n1_; have HO381 := n2_; have HB := n3_; clear n0_ n1_ n2_ n3_; clear hb hkp ho0))
   repeat (go_quiet (first | (go_at_call 74; (with_reducible refine (Q59.calls k (fun k_ => some k_ = (.slice Ao10 t375.length co10 : Value).ownBlock) (.slice Ao10 t375.length co10) t378 t379 w _ ?side1 ?side2 A15.out).mono ?_); (case side1 => exact hq HB); (case side2 => exact Kd.R_tight rfl HO377.out); rintro e w16 ⟨v380, rfl, ho0, hb, hkp⟩; have n0_ := A_ (blk_kept (bq BK373) hkp (fun hs_ => (fun e_ => (Kd.R_ne HO377.out BK373.out (by decide)) e_) hs_)); have n1_ := A_ (blk_kept (bq BK374) hkp (fun hs_ => (fun e_ => (Kd.R_away HO377.out (fun _ hk => hk.2)) e_) hs_)); have n2_ := A_ (Kd.R_mono (ok' := fun k_ => k_ ≠ gb374) ho0 (fun k_ hk_ => Or.elim hk_ (fun hs_ => fun e_ => (Kd.R_away HO377.out (fun _ hk => hk.2)) (by rw [← e_]; exact hs_)) (fun hn_ => (Kd.freshB (g := gb374) (o := .cells #[.int .i64 a1] 3 (0, 0)) (bq BK374) k_ hn_)))); have n3_ := A_ (hb); clear BK373; clear BK374; clear HB; clear HO377; have BK373 := n0_; have BK374 := n1_; have HO381 := n2_; have HB := n3_; clear n0_ n1_ n2_ n3_; clear hb hkp ho0)); try go_wp2_with (first | (go_at_call 74; (with_reducible refine (Q59.calls k (fun k_ => some k_ = (.slice Ao10 t375.length co10 : Value).ownBlock) (.slice Ao10 t375.length co10) t378 t379 w _ ?side1 ?side2 A15.out).mono ?_); (case side1 => exact hq HB); (case side2 => exact Kd.R_tight rfl HO377.out); rintro e w16 ⟨v380, rfl, ho0, hb, hkp⟩; have n0_ := A_ (blk_kept (bq BK373) hkp (fun hs_ => (fun e_ => (Kd.R_ne HO377.out BK373.out (by decide)) e_) hs_)); have n1_ := A_ (blk_kept (bq BK374) hkp (fun hs_ => (fun e_ => (Kd.R_away HO377.out (fun _ hk => hk.2)) e_) hs_)); have n2_ := A_ (Kd.R_mono (ok' := fun k_ => k_ ≠ gb374) ho0 (fun k_ hk_ => Or.elim hk_ (fun hs_ => fun e_ => (Kd.R_away HO377.out (fun _ hk => hk.2)) (by rw [← e_]; exact hs_)) (fun hn_ => (Kd.freshB (g := gb374) (o := .cells #[.int .i64 a1] 3 (0, 0)) (bq BK374) k_ hn_)))); have n3_ := A_ (hb); clear BK373; clear BK374; clear HB; clear HO377; have BK373 := n0_; have BK374 := n1_; have HO381 := n2_; have HB := n3_; clear n0_ n1_ n2_ n3_; clear hb hkp ho0)))
   go_meet
   case rel => exact ⟨_, (t379), H', ⟨by first | omega | exact Nat.le_refl _⟩, ⟨rq HO381⟩, ⟨bq BK373⟩, ⟨bq BK374⟩, ⟨hq HB⟩⟩
  ·
   replace c14 := Bool.eq_false_iff.mpr c14; subst c14
   rw [if_neg nf] at H; have H' := A_ H; clear H; go_wp2
   repeat (go_quiet (fail); try go_wp2)
   go_meet
   case rel => exact ⟨_, (t378), H', ⟨by first | omega | exact Nat.le_refl _⟩, ⟨by (with_reducible repeat (first | apply Kd.R_alloc | apply Kd.R_drewN | apply Kd.R_drew)); exact Kd.R_mono HO377.out (fun _ hk => hk.2)⟩, ⟨bq BK373⟩, ⟨bq BK374⟩, ⟨hq HB⟩⟩
 case rest =>
  clear HC6; (try clear c14); (try clear hcz13_0); (try clear hcz13_1); (try clear hfz13_0); (try clear hfz13_1); obtain ⟨kq, x7_5, HA, HJ5, HO_7, BK373, BK374, HB⟩ := hcut
  cases kq with
  | zero => exact absurd HA.out (by simp [Q8.j0])
  | succ kj5 =>
   have H := HA.out; clear HA; simp only [Q8.j0] at H
   by_cases c17 : a0_1 = true
   ·
    subst c17
    rw [if_pos rfl] at H; have H' := A_ H; clear H; have hnb18 := NB373_374.out; have hnc18 := NB374_373.out; obtain ⟨hcz19_0, hcz19_1, hfz19_0, hfz19_1⟩ := zc4 BK373; obtain ⟨Ao20, co20, eo20⟩ := Kd.R_slice HO_7.out; subst eo20; go_wp2
    repeat (go_quiet (fail); try go_wp2)
    go_loopg [12, 51] kj5 (fun kq v12 v51 w' => ∃ (x12_2 : Int) (x51_2 : Int), v12 = .int .i64 x12_2 ∧ v51 = .int .i64 x51_2 ∧ Aside0 (Q8.l1 kq x7_5 x12_2 (wrap64 ((x7_5.length : Int) + 1)) x51_2 a0_0 true = some r) ∧ Aside0 (kq ≤ kj5) ∧ Aside0 (Kd.R (Kd.int .i64) 3 w' w.heap.size (fun k_ => k_ ≠ gb374) (.slice Ao20 x7_5.length co20) x7_5) ∧ Aside0 (w'.heap[gb373]? = some (.cells #[.int .i64 a0_0, .bool true] 25 (0, 0))) ∧ Aside0 (w'.heap[gb374]? = some (.cells #[.int .i64 a1] 3 (0, 0))) ∧ Aside0 (Below w.heap.size w w'))
    case atStart => exact ⟨(a0_0), (0), rf, rf, H', ⟨Nat.le_refl _⟩, ⟨rq HO_7⟩, ⟨bq BK373⟩, ⟨bq BK374⟩, ⟨hq HB⟩⟩
    case round =>
     clear H'; (try clear c14); (try clear c17); (try clear hcz13_0); (try clear hcz13_1); (try clear hcz19_0); (try clear hcz19_1); (try clear hfz13_0); (try clear hfz13_1); (try clear hfz19_0); (try clear hfz19_1); obtain ⟨x12_2, x51_2, rfl, rfl, HA, HK2, HO_7, BK373, BK374, HB⟩ := hrel
     cases gk with
     | zero => exact absurd HA.out (by simp [Q8.l1])
     | succ k2 =>
      have H := HA.out; clear HA; simp only [Q8.l1] at H
      by_cases c21 : x51_2 < (wrap64 ((x7_5.length : Int) + 1))
      ·
       rw [if_pos c21] at H; have c21b0 := decide_eq_true c21; clear c21; by_cases c22 : x51_2 > 0
       ·
        rw [if_pos c22] at H; have c22b0 : decide (0 < x51_2) = true := decide_eq_true c22; clear c22
        obtain ⟨ji23, hji23⟩ : ∃ j_ : Int, (wrap64 (x51_2 - 1)) = j_ := ⟨_, rfl⟩
        replace H : (if 0 ≤ (ji23) then (if (ji23) < (x7_5.length : Int) then (if x51_2 < (x7_5.length : Int) then (if 0 ≤ x51_2 then (Q8.l1 k2 x7_5 (mn x12_2 (wrap64 (2 * (wrap64 ((rd x7_5 (ji23)) + (wrap64 (a0_0 - (rd x7_5 x51_2)))))))) (wrap64 ((x7_5.length : Int) + 1)) (wrap64 (x51_2 + 1)) a0_0 true) else (none)) else (Q8.l1 k2 x7_5 (mn x12_2 (wrap64 (2 * (wrap64 (rd x7_5 (ji23)))))) (wrap64 ((x7_5.length : Int) + 1)) (wrap64 (x51_2 + 1)) a0_0 true)) else (none)) else (none)) = some r := by first | (rw [hji23] at H; exact H) | (simp only [hji23] at H ⊢; exact H)
        have hji23w : (IntKind.i64.wrap (x51_2 - 1)) = ji23 := (i64_w _).trans hji23; by_cases c24 : 0 ≤ (ji23)
        ·
         rw [if_pos c24] at H; have c24b0 := decide_eq_true c24; clear c24; by_cases c25 : (ji23) < (x7_5.length : Int)
         ·
          rw [if_pos c25] at H; have c25b0 := decide_eq_true c25; clear c25; by_cases c26 : x51_2 < (x7_5.length : Int)
          ·
           rw [if_pos c26] at H; have c26b0 := decide_eq_true c26; clear c26; by_cases c27 : 0 ≤ x51_2
           ·
            rw [if_pos c27] at H; have c27b0 := decide_eq_true c27; clear c27
            obtain ⟨ji28, hji28⟩ : ∃ j_ : Int, (mn x12_2 (wrap64 (2 * (wrap64 ((rd x7_5 (ji23)) + (wrap64 (a0_0 - (rd x7_5 x51_2)))))))) = j_ := ⟨_, rfl⟩
            replace H : (Q8.l1 k2 x7_5 ji28 (wrap64 ((x7_5.length : Int) + 1)) (wrap64 (x51_2 + 1)) a0_0 true) = some r := by first | (rw [hji28] at H; exact H) | (simp only [hji28] at H ⊢; exact H)
            have hji28_ : (if (wrap64 (2 * (wrap64 ((rd x7_5 (ji23)) + (wrap64 (a0_0 - (rd x7_5 x51_2))))))) < x12_2 then (wrap64 (2 * (wrap64 ((rd x7_5 (ji23)) + (wrap64 (a0_0 - (rd x7_5 x51_2))))))) else x12_2) = ji28 := hji28; have H' := A_ H; clear H; have p383 : 0 ≤ ((ji23) : Int) := dq; have q383 : (ji23) < (x7_5.length : Int) := dq; obtain ⟨ad383, e383, hx383_0⟩ := Kd.at_int (Kd.R_reads' HO_7.out).2.2 (ji23) p383 q383
            cases e383
            replace p383 := eq_true p383; replace q383 := eq_true q383; have hnb29 := NB373_374.out; have hnc29 := NB374_373.out; obtain ⟨hcz30_0, hcz30_1, hfz30_0, hfz30_1⟩ := zc4 BK373; have p384 : 0 ≤ (x51_2 : Int) := dq; have q384 : x51_2 < (x7_5.length : Int) := dq; obtain ⟨ad384, e384, hx384_0⟩ := Kd.at_int (Kd.R_reads' HO_7.out).2.2 x51_2 p384 q384
            obtain rfl : ad383 = ad384 := (by injection e384)
            replace p384 := eq_true p384; replace q384 := eq_true q384; go_wp2
            repeat (go_quiet (fail); try go_wp2)
            go_roundg k2
            case measure => have := HJ5.out; have := HK2.out; omega
            case rel => exact ⟨(ji28), (wrap64 (x51_2 + 1)), (by first | rfl | (simp; done) | (simp only [← hji28] <;> (first | rfl | simp)) | (simp [*]; done)), rf, H', ⟨by have := HJ5.out; have := HK2.out; omega⟩, ⟨rq HO_7⟩, ⟨bq BK373⟩, ⟨bq BK374⟩, ⟨hq HB⟩⟩
           ·
            rw [if_neg c27] at H; exact absurd H (by simp)
          ·
           rw [if_neg c26] at H; have c26b0 := decide_eq_false c26; clear c26
           obtain ⟨ji31, hji31⟩ : ∃ j_ : Int, (mn x12_2 (wrap64 (2 * (wrap64 (rd x7_5 (ji23)))))) = j_ := ⟨_, rfl⟩
           replace H : (Q8.l1 k2 x7_5 ji31 (wrap64 ((x7_5.length : Int) + 1)) (wrap64 (x51_2 + 1)) a0_0 true) = some r := by first | (rw [hji31] at H; exact H) | (simp only [hji31] at H ⊢; exact H)
           have hji31_ : (if (wrap64 (2 * (wrap64 (rd x7_5 (ji23))))) < x12_2 then (wrap64 (2 * (wrap64 (rd x7_5 (ji23))))) else x12_2) = ji31 := hji31; have H' := A_ H; clear H; have p383 : 0 ≤ ((ji23) : Int) := dq; have q383 : (ji23) < (x7_5.length : Int) := dq; obtain ⟨ad383, e383, hx383_0⟩ := Kd.at_int (Kd.R_reads' HO_7.out).2.2 (ji23) p383 q383
           cases e383
           replace p383 := eq_true p383; replace q383 := eq_true q383; go_wp2
           repeat (go_quiet (fail); try go_wp2)
           go_roundg k2
           case measure => have := HJ5.out; have := HK2.out; omega
           case rel => exact ⟨(ji31), (wrap64 (x51_2 + 1)), (by first | rfl | (simp; done) | (simp only [← hji31] <;> (first | rfl | simp)) | (simp [*]; done)), rf, H', ⟨by have := HJ5.out; have := HK2.out; omega⟩, ⟨rq HO_7⟩, ⟨bq BK373⟩, ⟨bq BK374⟩, ⟨hq HB⟩⟩
         ·
          rw [if_neg c25] at H; exact absurd H (by simp)
        ·
         rw [if_neg c24] at H; exact absurd H (by simp)
       ·
        rw [if_neg c22] at H; have c22b0 : decide (0 < x51_2) = false := decide_eq_false c22; clear c22; by_cases c32 : x51_2 < (x7_5.length : Int)
        ·
         rw [if_pos c32] at H; have c32b0 := decide_eq_true c32; clear c32; by_cases c33 : 0 ≤ x51_2
         ·
          rw [if_pos c33] at H; have c33b0 := decide_eq_true c33; clear c33
          obtain ⟨ji34, hji34⟩ : ∃ j_ : Int, (mn x12_2 (wrap64 (2 * (wrap64 (wrap64 (a0_0 - (rd x7_5 x51_2))))))) = j_ := ⟨_, rfl⟩
          replace H : (Q8.l1 k2 x7_5 ji34 (wrap64 ((x7_5.length : Int) + 1)) (wrap64 (x51_2 + 1)) a0_0 true) = some r := by first | (rw [hji34] at H; exact H) | (simp only [hji34] at H ⊢; exact H)
          have hji34_ : (if (wrap64 (2 * (wrap64 (wrap64 (a0_0 - (rd x7_5 x51_2)))))) < x12_2 then (wrap64 (2 * (wrap64 (wrap64 (a0_0 - (rd x7_5 x51_2)))))) else x12_2) = ji34 := hji34; have H' := A_ H; clear H; have hnb35 := NB373_374.out; have hnc35 := NB374_373.out; obtain ⟨hcz36_0, hcz36_1, hfz36_0, hfz36_1⟩ := zc4 BK373; have p385 : 0 ≤ (x51_2 : Int) := dq; have q385 : x51_2 < (x7_5.length : Int) := dq; obtain ⟨ad385, e385, hx385_0⟩ := Kd.at_int (Kd.R_reads' HO_7.out).2.2 x51_2 p385 q385
          cases e385
          replace p385 := eq_true p385; replace q385 := eq_true q385; go_wp2
          repeat (go_quiet (fail); try go_wp2)
          go_roundg k2
          case measure => have := HJ5.out; have := HK2.out; omega
          case rel => exact ⟨(ji34), (wrap64 (x51_2 + 1)), (by first | rfl | (simp; done) | (simp only [← hji34] <;> (first | rfl | simp)) | (simp [*]; done)), rf, H', ⟨by have := HJ5.out; have := HK2.out; omega⟩, ⟨rq HO_7⟩, ⟨bq BK373⟩, ⟨bq BK374⟩, ⟨hq HB⟩⟩
         ·
          rw [if_neg c33] at H; exact absurd H (by simp)
        ·
         rw [if_neg c32] at H; have c32b0 := decide_eq_false c32; clear c32
         obtain ⟨ji37, hji37⟩ : ∃ j_ : Int, (mn x12_2 0) = j_ := ⟨_, rfl⟩
         replace H : (Q8.l1 k2 x7_5 ji37 (wrap64 ((x7_5.length : Int) + 1)) (wrap64 (x51_2 + 1)) a0_0 true) = some r := by first | (rw [hji37] at H; exact H) | (simp only [hji37] at H ⊢; exact H)
         have hji37_ : (if 0 < x12_2 then 0 else x12_2) = ji37 := hji37; have H' := A_ H; clear H; go_wp2
         repeat (go_quiet (fail); try go_wp2)
         go_roundg k2
         case measure => have := HJ5.out; have := HK2.out; omega
         case rel => exact ⟨(ji37), (wrap64 (x51_2 + 1)), (by first | rfl | (simp; done) | (simp only [← hji37] <;> (first | rfl | simp)) | (simp [*]; done)), rf, H', ⟨by have := HJ5.out; have := HK2.out; omega⟩, ⟨rq HO_7⟩, ⟨bq BK373⟩, ⟨bq BK374⟩, ⟨hq HB⟩⟩
      ·
       rw [if_neg c21] at H; have c21b0 := decide_eq_false c21; clear c21; obtain rfl := Option.some.inj H; go_wp2
       repeat (go_quiet (fail); try go_wp2)
       go_ret
       exact ⟨rt, hq HB⟩
   ·
    replace c17 := Bool.eq_false_iff.mpr c17; subst c17
    rw [if_neg nf] at H; have H' := A_ H; clear H; have hnb38 := NB373_374.out; have hnc38 := NB374_373.out; obtain ⟨hcz39_0, hcz39_1, hfz39_0, hfz39_1⟩ := zc4 BK373; obtain ⟨Ao40, co40, eo40⟩ := Kd.R_slice HO_7.out; subst eo40; go_wp2
    repeat (go_quiet (fail); try go_wp2)
    go_loopg [8, 9, 30] kj5 (fun kq v8 v9 v30 w' => ∃ (x8_2 : Int) (x9_2 : Int) (x30_2 : Int), v8 = .int .i64 x8_2 ∧ v9 = .int .i64 x9_2 ∧ v30 = .int .i64 x30_2 ∧ Aside0 (Q8.l0 kq x8_2 x9_2 x7_5 (x7_5.length : Int) x30_2 = some r) ∧ Aside0 (kq ≤ kj5) ∧ Aside0 (Kd.R (Kd.int .i64) 3 w' w.heap.size (fun k_ => k_ ≠ gb374) (.slice Ao40 x7_5.length co40) x7_5) ∧ Aside0 (w'.heap[gb373]? = some (.cells #[.int .i64 a0_0, .bool false] 25 (0, 0))) ∧ Aside0 (w'.heap[gb374]? = some (.cells #[.int .i64 a1] 3 (0, 0))) ∧ Aside0 (Below w.heap.size w w'))
    case atStart => exact ⟨(0), (0), (0), rf, rf, rf, H', ⟨Nat.le_refl _⟩, ⟨rq HO_7⟩, ⟨bq BK373⟩, ⟨bq BK374⟩, ⟨hq HB⟩⟩
    case round =>
     clear H'; (try clear c14); (try clear c17); (try clear c21); (try clear c21b0); (try clear c22); (try clear c22b0); (try clear c24); (try clear c24b0); (try clear c25); (try clear c25b0); (try clear c26); (try clear c26b0); (try clear c27); (try clear c27b0); (try clear c32); (try clear c32b0); (try clear c33); (try clear c33b0); (try clear hcz13_0); (try clear hcz13_1); (try clear hcz19_0); (try clear hcz19_1); (try clear hcz30_0); (try clear hcz30_1); (try clear hcz36_0); (try clear hcz36_1); (try clear hcz39_0); (try clear hcz39_1); (try clear hfz13_0); (try clear hfz13_1); (try clear hfz19_0); (try clear hfz19_1); (try clear hfz30_0); (try clear hfz30_1); (try clear hfz36_0); (try clear hfz36_1); (try clear hfz39_0); (try clear hfz39_1); (try clear hx383_0); (try clear hx384_0); (try clear hx385_0); (try clear p383); (try clear p384); (try clear p385); (try clear q383); (try clear q384); (try clear q385); obtain ⟨x8_2, x9_2, x30_2, rfl, rfl, rfl, HA, HK2, HO_28, BK373, BK374, HB⟩ := hrel
     cases gk with
     | zero => exact absurd HA.out (by simp [Q8.l0])
     | succ k2 =>
      have H := HA.out; clear HA; simp only [Q8.l0] at H
      by_cases c41 : x30_2 < (x7_5.length : Int)
      ·
       rw [if_pos c41] at H; have c41b0 := decide_eq_true c41; clear c41; by_cases c42 : 0 ≤ x30_2
       ·
        rw [if_pos c42] at H; have c42b0 := decide_eq_true c42; clear c42; by_cases c43 : x30_2 < (x7_5.length : Int)
        ·
         rw [if_pos c43] at H; have c43b0 := decide_eq_true c43; clear c43
         obtain ⟨ji44, hji44⟩ : ∃ j_ : Int, (mx x8_2 (rd x7_5 x30_2)) = j_ := ⟨_, rfl⟩
         replace H : (Q8.l0 k2 ji44 (mx x9_2 (wrap64 (-(rd x7_5 x30_2)))) x7_5 (x7_5.length : Int) (wrap64 (x30_2 + 1))) = some r := by first | (rw [hji44] at H; exact H) | (simp only [hji44] at H ⊢; exact H)
         have hji44_ : (if x8_2 < (rd x7_5 x30_2) then (rd x7_5 x30_2) else x8_2) = ji44 := hji44
         obtain ⟨ji45, hji45⟩ : ∃ j_ : Int, (mx x9_2 (wrap64 (-(rd x7_5 x30_2)))) = j_ := ⟨_, rfl⟩
         replace H : (Q8.l0 k2 ji44 ji45 x7_5 (x7_5.length : Int) (wrap64 (x30_2 + 1))) = some r := by first | (rw [hji45] at H; exact H) | (simp only [hji45] at H ⊢; exact H)
         have hji45_ : (if x9_2 < (wrap64 (-(rd x7_5 x30_2))) then (wrap64 (-(rd x7_5 x30_2))) else x9_2) = ji45 := hji45; have H' := A_ H; clear H; have p382 : 0 ≤ (x30_2 : Int) := dq; have q382 : x30_2 < (x7_5.length : Int) := dq; obtain ⟨ad382, e382, hx382_0⟩ := Kd.at_int (Kd.R_reads' HO_28.out).2.2 x30_2 p382 q382
         cases e382
         replace p382 := eq_true p382; replace q382 := eq_true q382; go_wp2
         repeat (go_quiet (fail); try go_wp2)
         go_roundg k2
         case measure => have := HJ5.out; have := HK2.out; omega
         case rel => exact ⟨(ji44), (ji45), (wrap64 (x30_2 + 1)), (by first | rfl | (simp; done) | (simp only [← hji44] <;> (first | rfl | simp)) | (simp [*]; done)), (by first | rfl | (simp; done) | (simp only [← hji45] <;> (first | rfl | simp)) | (simp [*]; done)), rf, H', ⟨by have := HJ5.out; have := HK2.out; omega⟩, ⟨rq HO_28⟩, ⟨bq BK373⟩, ⟨bq BK374⟩, ⟨hq HB⟩⟩
        ·
         rw [if_neg c43] at H; exact absurd H (by simp)
       ·
        rw [if_neg c42] at H; exact absurd H (by simp)
      ·
       rw [if_neg c41] at H; have c41b0 := decide_eq_false c41; clear c41; obtain rfl := Option.some.inj H; go_wp2
       repeat (go_quiet (fail); try go_wp2)
       go_ret
       exact ⟨rt, hq HB⟩

end Go.Proofs.YtjhppcpjobofbabGreat.PFnRuns
