-- Printed, and told shorter by this session's program shrink.py.
-- Printed by this session's program myprint.py.
import Derived.Test.YtmamhnbhahafgaaPFnLabelsx0
import Derived.Test.YtmamhnbhahafgaaPFnLabelsx1
import Derived.Test.YtmamhnbhahafgaaPFnLabelsx2
import Derived.Test.YtmamhnbhahafgaaPFnLabelsx6
import Derived.Test.YtmamhnbhahafgaaPFnLabelsx10
import Derived.Test.YtmamhnbhahafgaaPFnLabelsx11
namespace Go.Proofs.Ytmamhnbhahafgaa.PFnLabels
open Go.RowKit Go.Proofs.Ytmamhnbhahafgaa.Own Go.Proofs.YtmamhnbhahafgaaW.PrintWords Go.Proofs.YtmamhnbhahafgaaW.PrintLast Go.Proofs.YtmamhnbhahafgaaW.PrintMore
attribute [local go_sem] max2_int min2_int max_two min_two max_three min_three max_four min_four   -- for this text's walks alone
set_option linter.unusedVariables false
set_option linter.unusedSimpArgs false

/-! ### laws_FnLabels: function 5 -/
mutual
def laws_FnLabels.j0 : Nat → List Int → List Int → List Int → Int → Bool → Bool → Int → Bool → Option (Bool)
  | 0, _, _, _, _, _, _, _, _ => none
  | k + 1, x0, x4, x5, x6, x7, x57, x532000, x532001 => if x57 = true then (some false) else ((spec_DrawLabelMoves.f k x0).bind fun bt536 => ((impl_LabelMoves.f k bt536.1 bt536.2).bind fun bt540 => ((spec_LabelMoves.f k bt536.1 bt536.2).bind fun bt544 => (if (bt540.2 != bt544.2) = true then (laws_FnLabels.j1 k x0 x4 x5 x6 x7 bt536.1 bt536.2 bt540.1 bt540.2 true x532000 x532001) else ((laws_rInts.f k bt540.1 bt544.1).bind fun t548 => (laws_FnLabels.j1 k x0 x4 x5 x6 x7 bt536.1 bt536.2 bt540.1 bt540.2 (!t548) x532000 x532001))))))
def laws_FnLabels.j1 : Nat → List Int → List Int → List Int → Int → Bool → List Int → Int → List Int → Bool → Bool → Int → Bool → Option (Bool)
  | 0, _, _, _, _, _, _, _, _, _, _, _, _ => none
  | k + 1, x0, x4, x5, x6, x7, x10, x11, x12, x13, x83, x532000, x532001 => if x83 = true then (some false) else ((spec_DrawDoubleLabel.f k x0).bind fun t549 => ((impl_DoubleLabel.f k t549).bind fun bt552 => ((spec_DoubleLabel.f k t549).bind fun bt556 => (if (bt552.2 != bt556.2) = true then (laws_FnLabels.j2 k x4 x5 x6 x7 x10 x11 x12 x13 t549 bt552.1 bt552.2 true x532000 x532001) else ((laws_rInts.f k bt552.1 bt556.1).bind fun t560 => (laws_FnLabels.j2 k x4 x5 x6 x7 x10 x11 x12 x13 t549 bt552.1 bt552.2 (!t560) x532000 x532001))))))
def laws_FnLabels.j2 : Nat → List Int → List Int → Int → Bool → List Int → Int → List Int → Bool → List Int → List Int → Bool → Bool → Int → Bool → Option (Bool)
  | 0, _, _, _, _, _, _, _, _, _, _, _, _, _, _ => none
  | k + 1, x4, x5, x6, x7, x10, x11, x12, x13, x16, x17, x18, x104, x532000, x532001 => if x104 = true then (some false) else (if x13 = true then (if (x12.length : Int) = (wrap64 (x11 * (x10.length : Int))) then ((laws_rSum.f k x12).bind fun t561 => ((laws_rSum.f k x10).bind fun t562 => (laws_FnLabels.j3 k x4 x5 x6 x7 x16 x17 x18 (t561 != (wrap64 (x11 * t562))) x532000 x532001))) else (laws_FnLabels.j3 k x4 x5 x6 x7 x16 x17 x18 true x532000 x532001)) else (laws_FnLabels.j3 k x4 x5 x6 x7 x16 x17 x18 false x532000 x532001))
def laws_FnLabels.j3 : Nat → List Int → List Int → Int → Bool → List Int → List Int → Bool → Bool → Int → Bool → Option (Bool)
  | 0, _, _, _, _, _, _, _, _, _, _ => none
  | k + 1, x4, x5, x6, x7, x16, x17, x18, x123, x532000, x532001 => if x123 = true then (some false) else (if x18 = true then (laws_FnLabels.l0 k x4 x5 x6 x7 x16 x17 (([(([0] : List Int)), (([1] : List Int)), (([0, 0] : List Int)), (([0, 1] : List Int)), (([1, 0] : List Int)), (([1, 1] : List Int))] : List (List Int))) 0 x532000 x532001) else (laws_FnLabels.j6 k x4 x5 x6 x7 x532000 x532001))
def laws_FnLabels.j6 : Nat → List Int → List Int → Int → Bool → Int → Bool → Option (Bool)
  | 0, _, _, _, _, _, _ => none
  | k + 1, x4, x5, x6, x7, x532000, x532001 => if x7 = true then (laws_FnLabels.l2 k x4 x5 x6 0 x532000 x532001) else (some true)
def laws_FnLabels.l2 : Nat → List Int → List Int → Int → Int → Int → Bool → Option (Bool)
  | 0, _, _, _, _, _, _ => none
  | k + 1, x4, x5, x6, x27, x532000, x532001 => if x27 < (x4.length : Int) then (if 0 ≤ x27 then (if x27 < (x5.length : Int) then (if (rd x4 x27) = (rd x5 x27) then (laws_FnLabels.l2 k x4 x5 x6 (wrap64 (x27 + 1)) x532000 x532001) else (if x6 ≥ (wrap64 (x27 * x532000)) then (some (decide (x6 < (wrap64 ((wrap64 (x27 + 1)) * x532000))))) else (some false))) else (none)) else (none)) else (some false)
def laws_FnLabels.l0 : Nat → List Int → List Int → Int → Bool → List Int → List Int → List (List Int) → Int → Int → Bool → Option (Bool)
  | 0, _, _, _, _, _, _, _, _, _, _ => none
  | k + 1, x4, x5, x6, x7, x16, x17, x21, x22, x532000, x532001 => if x22 < (x21.length : Int) then (if 0 ≤ x22 then ((impl_DoubleLabel.f k (rd_L2 x21 x22)).bind fun bt585 => (if bt585.2 = true then (laws_FnLabels.l1 k x4 x5 x6 x7 x16 x17 x21 x22 bt585.1 (decide ((bt585.1.length : Int) ≤ (x17.length : Int))) 0 x532000 x532001) else (some false))) else (none)) else (laws_FnLabels.j6 k x4 x5 x6 x7 x532000 x532001)
def laws_FnLabels.l1 : Nat → List Int → List Int → Int → Bool → List Int → List Int → List (List Int) → Int → List Int → Bool → Int → Int → Bool → Option (Bool)
  | 0, _, _, _, _, _, _, _, _, _, _, _, _, _ => none
  | k + 1, x4, x5, x6, x7, x16, x17, x21, x22, x23, x25, x26, x532000, x532001 => if x26 < (x23.length : Int) then (if x25 = true then (if 0 ≤ x26 then (if x26 < (x17.length : Int) then (laws_FnLabels.l1 k x4 x5 x6 x7 x16 x17 x21 x22 x23 ((rd x23 x26) == (rd x17 x26)) (wrap64 (x26 + 1)) x532000 x532001) else (none)) else (none)) else (laws_FnLabels.l0 k x4 x5 x6 x7 x16 x17 x21 (wrap64 (x22 + 1)) x532000 x532001)) else (if x25 = true then (if 0 ≤ x22 then (if x22 < (x21.length : Int) then ((laws_rInts.f k (rd_L2 x21 x22) x16).bind fun t592 => (if t592 = true then (laws_FnLabels.l0 k x4 x5 x6 x7 x16 x17 x21 (wrap64 (x22 + 1)) x532000 x532001) else (some false))) else (none)) else (none)) else (laws_FnLabels.l0 k x4 x5 x6 x7 x16 x17 x21 (wrap64 (x22 + 1)) x532000 x532001))
end
def laws_FnLabels.f (k : Nat) (l0 : List Int) : Option (Bool) := (laws_rBig.f l0).bind fun t522 => (if t522 = true then (some true) else ((spec_DrawLabelTime.f k l0).bind fun bt523 => ((impl_LabelTime.f k bt523.1 bt523.2.1 bt523.2.2.1 bt523.2.2.2).bind fun bt532 => ((spec_LabelTime.f k bt523.1 bt523.2.1 bt523.2.2.1 bt523.2.2.2).bind fun bt534 => (if bt532.1 = bt534.1 then (laws_FnLabels.j0 k l0 bt523.2.2.1 bt523.2.2.2 bt532.1 bt532.2 (bt532.2 != bt534.2) bt523.1 bt523.2.1) else (laws_FnLabels.j0 k l0 bt523.2.2.1 bt523.2.2.2 bt532.1 bt532.2 true bt523.1 bt523.2.1))))))
theorem cells1 {v : Value} (h : v.oneCell' = true) : v.cells = #[v] := by cases v <;> simp_all [Value.cells, Value.oneCell']
theorem fill_lit (z : Value) (tot : Nat) : ∀ (vs pre : List Value), (∀ v ∈ vs, v.oneCell' = true) → pre.length + vs.length = tot →
    Instr.fill (fun i => some (i * 1, 1)) (pre ++ List.replicate vs.length z).toArray ((vs.zipIdx pre.length).map fun p => (p.2, p.1)) = some (pre ++ vs).toArray
  | [], pre, hv, ht => by simp [Instr.fill]
  | v :: vs, pre, hv, ht => by
    have hc := cells1 (hv v List.mem_cons_self)
    simp only [List.zipIdx_cons, List.map_cons, Instr.fill, hc]
    rw [if_neg (by simp)]
    have ih := fill_lit z tot vs (pre ++ [v]) (fun u hu => hv u (List.mem_cons_of_mem _ hu)) (by simp at ht ⊢; omega)
    rw [List.length_append] at ih
    simp at ih ⊢
    rw [← ih]
    congr 1
theorem run_lit {P : Program} (t e : TypeId) (z : Value) (bytes : Nat) (ht : P.underlying t = some (.slice e)) (hinfo : (P.info? e).map (fun i => (i.zero, i.size, i.bytes)) = some (some z, 1, bytes)) (hz : z.cells = #[z])
    (vs : List Value) (hv : ∀ v ∈ vs, v.oneCell' = true) (h0 : 0 < vs.length) (hn : vs.length ≤ 1000) (W : World) :
    (Instr.buildSlice t vs.length (vs.zipIdx.map fun p => (p.2, p.1)).toArray).run P W = .ok (.slice (some ⟨W.heap.size, 0, none⟩) vs.length vs.length) (W.alloc (.cells vs.toArray e)) := by
  obtain ⟨i, hi, hz0, hz1, hz2⟩ := info_parts hinfo
  have hf := fill_lit z vs.length vs [] hv (by simp)
  unfold Instr.buildSlice
  simp [run_underlying ht, sizeOf, typeInfo, hi, hz1, zeroValue, hz0, Result.andThen, hz]
  rw [if_neg (by omega), if_neg (by intro h; rw [h] at h0; simp at h0)]
  have hr' : Array.map (fun x => [z][x % 1]?.getD default) (Array.range vs.length) = (List.replicate vs.length z).toArray := by
    apply Array.ext'
    apply List.ext_getElem
    · simp
    · intro j h1 h2
      simp [Nat.mod_one]
  simp only [Nat.mul_one, List.nil_append, List.length_nil] at hf
  rw [hr', hf]
  simp [newRow, newObj]
  rfl
theorem lit_run {P : Program} {o : Oper} {a : Act} {W : World} (t e : TypeId) (z : Value) (bytes : Nat) (parts : Array (Nat × Operand)) (vs : List Value) (n : Nat) (ho : o.op = .buildSlice t n parts) (hn : n = vs.length) (hp : (parts.map fun p => (p.1, a.eval p.2)) = (vs.zipIdx.map fun p => (p.2, p.1)).toArray)
    (ht : P.underlying t = some (.slice e)) (hinfo : (P.info? e).map (fun i => (i.zero, i.size, i.bytes)) = some (some z, 1, bytes)) (hz : z.cells = #[z]) (hv : vs.all Value.oneCell' = true) (h0 : 0 < vs.length) (hm : vs.length ≤ 1000) :
    (execOp a.eval o).run P W = .ok (.value (.slice (some ⟨W.heap.size, 0, none⟩) vs.length vs.length)) (W.alloc (.cells vs.toArray e)) := by
  have h := run_lit t e z bytes ht hinfo hz vs (List.all_eq_true.1 hv) h0 hm W
  subst hn
  unfold execOp
  simp only [ho]
  rw [show (parts.map fun (x : Nat × Operand) => match x with | (i, x) => (i, a.eval x)) = parts.map fun p => (p.1, a.eval p.2) from rfl, hp]
  simp [h, Result.andThen]
set_option maxHeartbeats 100000000 in
set_option maxRecDepth 100000 in
theorem laws_FnLabels.calls (k : Nat) (A0 : Option Addr) (c0 : Nat) (l0 : List Int) (r : Bool) (hr_ : r = true) (w : World) (hr0 : Kd.C (Kd.int .u8) w A0 l0.length l0) (hc0 : l0.length ≤ c0) (h : laws_FnLabels.f k l0 = some r) :
    Calls Try.prog 5 #[.slice A0 l0.length c0] w fun e w' => e = .returned (.bool r) ∧ Below w.heap.size w w' := by
 have hu25 := Try.underlying25
 have HR0 := A_ hr0
 have HC0 := A_ hc0
 clear hr0 hc0
 have HB := A_ (Below.refl w.heap.size w)
 have H : ((laws_rBig.f l0).bind fun t522 => (if t522 = true then (some true) else ((spec_DrawLabelTime.f k l0).bind fun bt523 => ((impl_LabelTime.f k bt523.1 bt523.2.1 bt523.2.2.1 bt523.2.2.2).bind fun bt532 => ((spec_LabelTime.f k bt523.1 bt523.2.1 bt523.2.2.1 bt523.2.2.2).bind fun bt534 => (if bt532.1 = bt534.1 then (laws_FnLabels.j0 k l0 bt523.2.2.1 bt523.2.2.2 bt532.1 bt532.2 (bt532.2 != bt534.2) bt523.1 bt523.2.1) else (laws_FnLabels.j0 k l0 bt523.2.2.1 bt523.2.2.2 bt532.1 bt532.2 true bt523.1 bt523.2.1))))))) = some r := h
 clear h
 replace H := Option.bind_eq_some_iff.mp H
 obtain ⟨t522, A20, H⟩ := H
 replace H : (if t522 = true then (some true) else ((spec_DrawLabelTime.f k l0).bind fun bt523 => ((impl_LabelTime.f k bt523.1 bt523.2.1 bt523.2.2.1 bt523.2.2.2).bind fun bt532 => ((spec_LabelTime.f k bt523.1 bt523.2.1 bt523.2.2.1 bt523.2.2.2).bind fun bt534 => (if bt532.1 = bt534.1 then (laws_FnLabels.j0 k l0 bt523.2.2.1 bt523.2.2.2 bt532.1 bt532.2 (bt532.2 != bt534.2) bt523.1 bt523.2.1) else (laws_FnLabels.j0 k l0 bt523.2.2.1 bt523.2.2.2 bt532.1 bt532.2 true bt523.1 bt523.2.1)))))) = some r := H
 have A2 := A_ A20
 clear A20
 by_cases c3 : t522 = true
 ·
  subst c3
  have H1 : (some true) = some r := by rw [if_pos rfl] at H; exact H
  clear H
  have H := H1
  clear H1
  obtain rfl := Option.some.inj H
  go_enter Try.func5, Try.ntmps5
  go_wp2_with (first | (go_at_call 6; (with_reducible refine (laws_rBig.calls _ _ l0 true _ ?side1 ?side2 A2.out).mono ?_); (case side1 => exact cq HR0.out); (case side2 => exact HC0.out); rintro e w' ⟨rfl, ⟨nd, rfl⟩⟩; (try first | exact ⟨rfl, _, World.drewN_drewN _ _ _⟩ | exact ⟨rfl, _, Eq.trans (World.drewN_drewN _ _ _) (congrArg (World.drewN _) (Nat.add_assoc _ _ _))⟩)))
  repeat (go_quiet (first | (go_at_call 6; (with_reducible refine (laws_rBig.calls _ _ l0 true _ ?side1 ?side2 A2.out).mono ?_); (case side1 => exact cq HR0.out); (case side2 => exact HC0.out); rintro e w' ⟨rfl, ⟨nd, rfl⟩⟩; (try first | exact ⟨rfl, _, World.drewN_drewN _ _ _⟩ | exact ⟨rfl, _, Eq.trans (World.drewN_drewN _ _ _) (congrArg (World.drewN _) (Nat.add_assoc _ _ _))⟩))); try go_wp2_with (first | (go_at_call 6; (with_reducible refine (laws_rBig.calls _ _ l0 true _ ?side1 ?side2 A2.out).mono ?_); (case side1 => exact cq HR0.out); (case side2 => exact HC0.out); rintro e w' ⟨rfl, ⟨nd, rfl⟩⟩; (try first | exact ⟨rfl, _, World.drewN_drewN _ _ _⟩ | exact ⟨rfl, _, Eq.trans (World.drewN_drewN _ _ _) (congrArg (World.drewN _) (Nat.add_assoc _ _ _))⟩))))
  go_ret
  exact ⟨rt, hq HB⟩
 ·
  replace c3 := Bool.eq_false_iff.mpr c3
  subst c3
  have H1 : ((spec_DrawLabelTime.f k l0).bind fun bt523 => ((impl_LabelTime.f k bt523.1 bt523.2.1 bt523.2.2.1 bt523.2.2.2).bind fun bt532 => ((spec_LabelTime.f k bt523.1 bt523.2.1 bt523.2.2.1 bt523.2.2.2).bind fun bt534 => (if bt532.1 = bt534.1 then (laws_FnLabels.j0 k l0 bt523.2.2.1 bt523.2.2.2 bt532.1 bt532.2 (bt532.2 != bt534.2) bt523.1 bt523.2.1) else (laws_FnLabels.j0 k l0 bt523.2.2.1 bt523.2.2.2 bt532.1 bt532.2 true bt523.1 bt523.2.1))))) = some r := by rw [if_neg (show ¬ (false = true) by decide)] at H; exact H
  clear H
  have H := H1
  clear H1
  replace H := Option.bind_eq_some_iff.mp H
  obtain ⟨⟨t523, t524, t525, t528⟩, A40, H⟩ := H
  replace H : ((impl_LabelTime.f k t523 t524 t525 t528).bind fun bt532 => ((spec_LabelTime.f k t523 t524 t525 t528).bind fun bt534 => (if bt532.1 = bt534.1 then (laws_FnLabels.j0 k l0 t525 t528 bt532.1 bt532.2 (bt532.2 != bt534.2) t523 t524) else (laws_FnLabels.j0 k l0 t525 t528 bt532.1 bt532.2 true t523 t524)))) = some r := H
  have A4 := A_ A40
  clear A40
  replace H := Option.bind_eq_some_iff.mp H
  obtain ⟨⟨t532, t533⟩, A50, H⟩ := H
  replace H : ((spec_LabelTime.f k t523 t524 t525 t528).bind fun bt534 => (if t532 = bt534.1 then (laws_FnLabels.j0 k l0 t525 t528 t532 t533 (t533 != bt534.2) t523 t524) else (laws_FnLabels.j0 k l0 t525 t528 t532 t533 true t523 t524))) = some r := H
  have A5 := A_ A50
  clear A50
  replace H := Option.bind_eq_some_iff.mp H
  obtain ⟨⟨t534, t535⟩, A60, H⟩ := H
  replace H : (if t532 = t534 then (laws_FnLabels.j0 k l0 t525 t528 t532 t533 (t533 != t535) t523 t524) else (laws_FnLabels.j0 k l0 t525 t528 t532 t533 true t523 t524)) = some r := H
  have A6 := A_ A60
  clear A60
  have HC7 := A_ H
  clear H
  go_enter Try.func5, Try.ntmps5
  go_upto_region 6 with (first | (go_at_call 6; (with_reducible refine (laws_rBig.calls _ _ l0 false _ ?side1 ?side2 A2.out).mono ?_); (case side1 => exact cq HR0.out); (case side2 => exact HC0.out); rintro e w' ⟨rfl, ⟨nd, rfl⟩⟩; (try first | exact ⟨rfl, _, World.drewN_drewN _ _ _⟩ | exact ⟨rfl, _, Eq.trans (World.drewN_drewN _ _ _) (congrArg (World.drewN _) (Nat.add_assoc _ _ _))⟩)) | (go_at_call 39; (with_reducible refine (spec_DrawLabelTime.calls k _ _ l0 t523 t524 t525 t528 _ ?side1 ?side2 A4.out).mono ?_); (case side1 => exact cq HR0.out); (case side2 => exact HC0.out); rintro e w8 ⟨v526, v529, rfl, ho0, ho1, hb⟩; have n0_ := A_ (Kd.R_lower ho0 (below_size (hq HB))); have n1_ := A_ (Kd.R_lower ho1 (below_size (hq HB))); have n2_ := A_ (below_step (hq HB) hb); clear HB; have HO527 := n0_; have HO530 := n1_; have HB := n2_; clear n0_ n1_ n2_; (try clear hb); (try clear hb2); (try clear hk); (try clear hi); (try clear ho0); (try clear ho1)) | ((with_reducible refine gate_dst (N := 3) rfl ?_); (try (refine gate_guard (by rfl) ?_; dsimp only)); refine box_event ?hg (N := 3) ?hd (cs := #[.int .i64 0, .bool false]) (t := 25) ?hr ?_; (case hd => rfl); (case hg => rfl); (case hr => first | (go_simp; done) | (go_simp; rfl)); intro gb531 hg w9 hbox hb; have n0_ := A_ (Kd.R_below (rq HO527) hb); have n1_ := A_ (Kd.R_below (rq HO530) hb); have n2_ := A_ (below_step (hq HB) hb); have n3_ := A_ (hbox); have n4_ := A_ ((by rw [hg]; exact (below_size (hq HB)) : w.heap.size ≤ gb531)); have n5_ := A_ ((by rw [hg]; exact (below_size (hq HB)) : w.heap.size ≤ gb531)); clear HO527; clear HO530; clear HB; have HO527 := n0_; have HO530 := n1_; have HB := n2_; have BK531 := n3_; have GW531 := n4_; have GE531 := n5_; clear n0_ n1_ n2_ n3_ n4_ n5_; clear hb hbox hg; have hcz10_0 : w9.cell? ⟨gb531, 0, none⟩ = some (.int .i64 0) := bc BK531 0; have hcz10_1 : w9.cell? ⟨gb531, 1, none⟩ = some (.bool false) := bc BK531 1; have hfz10_0 := blk_frozen BK531.out 0; have hfz10_1 := blk_frozen BK531.out 1; obtain ⟨Ao11, co11, eo11⟩ := Kd.R_slice HO527.out; subst eo11; obtain ⟨Ao12, co12, eo12⟩ := Kd.R_slice HO530.out; subst eo12) | (go_at_call 40; (with_reducible refine (impl_LabelTime.calls k t523 t524 _ _ t525 _ _ t528 t532 t533 _ ?side1 ?side2 ?side3 ?side4 A5.out).mono ?_); (case side1 => refine (Kd.R_reads' (e := 3) (base := w.heap.size) (ok := fun k_ => some k_ ≠ (.slice Ao12 t528.length co12 : Value).ownBlock) (n := t525.length) (c := co11) ?_).2.2; exact (by (with_reducible repeat (first | apply Kd.R_alloc | apply Kd.R_drewN | apply Kd.R_drew)); exact (Kd.R_mono (Kd.R_far (p := ⟨gb531, 1, none⟩) (Kd.R_far (p := ⟨gb531, 0, none⟩) (Kd.R_types HO527.out BK531.out (by decide)) (fun _ => cj) (.int .i64 t523)) (fun _ => cj) (.bool t524)) (fun _ h_ => h_.1)))); (case side2 => exact (Kd.R_reads' HO527.out).2.1); (case side3 => refine (Kd.R_reads' (e := 3) (base := w.heap.size) (ok := fun k_ => some k_ ≠ (.slice Ao11 t525.length co11 : Value).ownBlock) (n := t528.length) (c := co12) ?_).2.2; exact (by (with_reducible repeat (first | apply Kd.R_alloc | apply Kd.R_drewN | apply Kd.R_drew)); exact (Kd.R_mono (Kd.R_far (p := ⟨gb531, 1, none⟩) (Kd.R_far (p := ⟨gb531, 0, none⟩) (Kd.R_types HO530.out BK531.out (by decide)) (fun _ => cj) (.int .i64 t523)) (fun _ => cj) (.bool t524)) (fun _ h_ => h_.1)))); (case side4 => exact (Kd.R_reads' HO530.out).2.1); rintro e w13 ⟨rfl, hb⟩; have n0_ := A_ (Kd.R_below (by (with_reducible repeat (first | apply Kd.R_alloc | apply Kd.R_drewN | apply Kd.R_drew)); exact (Kd.R_mono (Kd.R_far (p := ⟨gb531, 1, none⟩) (Kd.R_far (p := ⟨gb531, 0, none⟩) (Kd.R_types HO527.out BK531.out (by decide)) (fun _ => cj) (.int .i64 t523)) (fun _ => cj) (.bool t524)) (fun _ h_ => h_.1))) hb); have n1_ := A_ (Kd.R_below (by (with_reducible repeat (first | apply Kd.R_alloc | apply Kd.R_drewN | apply Kd.R_drew)); exact (Kd.R_mono (Kd.R_far (p := ⟨gb531, 1, none⟩) (Kd.R_far (p := ⟨gb531, 0, none⟩) (Kd.R_types HO530.out BK531.out (by decide)) (fun _ => cj) (.int .i64 t523)) (fun _ => cj) (.bool t524)) (fun _ h_ => h_.1))) hb); have n2_ := A_ (blk_below (g := gb531) (o := .cells #[.int .i64 t523, .bool t524] 25 (0, 0)) (by (with_reducible repeat (first | refine blk_drewN ?_ _ | refine blk_drew ?_ | refine blk_alloc ?_ _)); refine blk_put (cs := #[.int .i64 t523, .bool false]) ?_ 1 _ rfl; (with_reducible repeat (first | refine blk_drewN ?_ _ | refine blk_drew ?_ | refine blk_alloc ?_ _)); refine blk_put (cs := #[.int .i64 0, .bool false]) ?_ 0 _ rfl; (with_reducible repeat (first | refine blk_drewN ?_ _ | refine blk_drew ?_ | refine blk_alloc ?_ _)); exact BK531.out) hb); have n3_ := A_ (below_step (hq HB) hb); clear HO527; clear HO530; clear BK531; clear HB; have HO527 := n0_; have HO530 := n1_; have BK531 := n2_; have HB := n3_; clear n0_ n1_ n2_ n3_; (try clear hb); (try clear hb2); (try clear hk); (try clear hi); have hcz14_0 : w13.cell? ⟨gb531, 0, none⟩ = some (.int .i64 t523) := bc BK531 0; have hcz14_1 : w13.cell? ⟨gb531, 1, none⟩ = some (.bool t524) := bc BK531 1; have hfz14_0 := blk_frozen BK531.out 0; have hfz14_1 := blk_frozen BK531.out 1) | (go_at_call 41; (with_reducible refine (spec_LabelTime.calls k t523 t524 _ _ t525 _ _ t528 t534 t535 _ ?side1 ?side2 ?side3 ?side4 A6.out).mono ?_); (case side1 => exact cq (Kd.R_reads' HO527.out).2.2); (case side2 => exact (Kd.R_reads' HO527.out).2.1); (case side3 => exact cq (Kd.R_reads' HO530.out).2.2); (case side4 => exact (Kd.R_reads' HO530.out).2.1); rintro e w15 ⟨rfl, hb⟩; have n0_ := A_ (Kd.R_below (rq HO527) hb); have n1_ := A_ (Kd.R_below (rq HO530) hb); have n2_ := A_ (blk_below (bq BK531) hb); have n3_ := A_ (below_step (hq HB) hb); clear HO527; clear HO530; clear BK531; clear HB; have HO527 := n0_; have HO530 := n1_; have BK531 := n2_; have HB := n3_; clear n0_ n1_ n2_ n3_; (try clear hb); (try clear hb2); (try clear hk); (try clear hi)))
  repeat (go_quiet (first | (go_at_call 6; (with_reducible refine (laws_rBig.calls _ _ l0 false _ ?side1 ?side2 A2.out).mono ?_); (case side1 => exact cq HR0.out); (case side2 => exact HC0.out); rintro e w' ⟨rfl, ⟨nd, rfl⟩⟩; (try first | exact ⟨rfl, _, World.drewN_drewN _ _ _⟩ | exact ⟨rfl, _, Eq.trans (World.drewN_drewN _ _ _) (congrArg (World.drewN _) (Nat.add_assoc _ _ _))⟩)) | (go_at_call 39; (with_reducible refine (spec_DrawLabelTime.calls k _ _ l0 t523 t524 t525 t528 _ ?side1 ?side2 A4.out).mono ?_); (case side1 => exact cq HR0.out); (case side2 => exact HC0.out); rintro e w8 ⟨v526, v529, rfl, ho0, ho1, hb⟩; have n0_ := A_ (Kd.R_lower ho0 (below_size (hq HB))); have n1_ := A_ (Kd.R_lower ho1 (below_size (hq HB))); have n2_ := A_ (below_step (hq HB) hb); clear HB; have HO527 := n0_; have HO530 := n1_; have HB := n2_; clear n0_ n1_ n2_; (try clear hb); (try clear hb2); (try clear hk); (try clear hi); (try clear ho0); (try clear ho1)) | ((with_reducible refine gate_dst (N := 3) rfl ?_); (try (refine gate_guard (by rfl) ?_; dsimp only)); refine box_event ?hg (N := 3) ?hd (cs := #[.int .i64 0, .bool false]) (t := 25) ?hr ?_; (case hd => rfl); (case hg => rfl); (case hr => first | (go_simp; done) | (go_simp; rfl)); intro gb531 hg w9 hbox hb; have n0_ := A_ (Kd.R_below (rq HO527) hb); have n1_ := A_ (Kd.R_below (rq HO530) hb); have n2_ := A_ (below_step (hq HB) hb); have n3_ := A_ (hbox); have n4_ := A_ ((by rw [hg]; exact (below_size (hq HB)) : w.heap.size ≤ gb531)); have n5_ := A_ ((by rw [hg]; exact (below_size (hq HB)) : w.heap.size ≤ gb531)); clear HO527; clear HO530; clear HB; have HO527 := n0_; have HO530 := n1_; have HB := n2_; have BK531 := n3_; have GW531 := n4_; have GE531 := n5_; clear n0_ n1_ n2_ n3_ n4_ n5_; clear hb hbox hg; have hcz10_0 : w9.cell? ⟨gb531, 0, none⟩ = some (.int .i64 0) := bc BK531 0; have hcz10_1 : w9.cell? ⟨gb531, 1, none⟩ = some (.bool false) := bc BK531 1; have hfz10_0 := blk_frozen BK531.out 0; have hfz10_1 := blk_frozen BK531.out 1; obtain ⟨Ao11, co11, eo11⟩ := Kd.R_slice HO527.out; subst eo11; obtain ⟨Ao12, co12, eo12⟩ := Kd.R_slice HO530.out; subst eo12) | (go_at_call 40; (with_reducible refine (impl_LabelTime.calls k t523 t524 _ _ t525 _ _ t528 t532 t533 _ ?side1 ?side2 ?side3 ?side4 A5.out).mono ?_); (case side1 => refine (Kd.R_reads' (e := 3) (base := w.heap.size) (ok := fun k_ => some k_ ≠ (.slice Ao12 t528.length co12 : Value).ownBlock) (n := t525.length) (c := co11) ?_).2.2; exact (by (with_reducible repeat (first | apply Kd.R_alloc | apply Kd.R_drewN | apply Kd.R_drew)); exact (Kd.R_mono (Kd.R_far (p := ⟨gb531, 1, none⟩) (Kd.R_far (p := ⟨gb531, 0, none⟩) (Kd.R_types HO527.out BK531.out (by decide)) (fun _ => cj) (.int .i64 t523)) (fun _ => cj) (.bool t524)) (fun _ h_ => h_.1)))); (case side2 => exact (Kd.R_reads' HO527.out).2.1); (case side3 => refine (Kd.R_reads' (e := 3) (base := w.heap.size) (ok := fun k_ => some k_ ≠ (.slice Ao11 t525.length co11 : Value).ownBlock) (n := t528.length) (c := co12) ?_).2.2; exact (by (with_reducible repeat (first | apply Kd.R_alloc | apply Kd.R_drewN | apply Kd.R_drew)); exact (Kd.R_mono (Kd.R_far (p := ⟨gb531, 1, none⟩) (Kd.R_far (p := ⟨gb531, 0, none⟩) (Kd.R_types HO530.out BK531.out (by decide)) (fun _ => cj) (.int .i64 t523)) (fun _ => cj) (.bool t524)) (fun _ h_ => h_.1)))); (case side4 => exact (Kd.R_reads' HO530.out).2.1); rintro e w13 ⟨rfl, hb⟩; have n0_ := A_ (Kd.R_below (by (with_reducible repeat (first | apply Kd.R_alloc | apply Kd.R_drewN | apply Kd.R_drew)); exact (Kd.R_mono (Kd.R_far (p := ⟨gb531, 1, none⟩) (Kd.R_far (p := ⟨gb531, 0, none⟩) (Kd.R_types HO527.out BK531.out (by decide)) (fun _ => cj) (.int .i64 t523)) (fun _ => cj) (.bool t524)) (fun _ h_ => h_.1))) hb); have n1_ := A_ (Kd.R_below (by (with_reducible repeat (first | apply Kd.R_alloc | apply Kd.R_drewN | apply Kd.R_drew)); exact (Kd.R_mono (Kd.R_far (p := ⟨gb531, 1, none⟩) (Kd.R_far (p := ⟨gb531, 0, none⟩) (Kd.R_types HO530.out BK531.out (by decide)) (fun _ => cj) (.int .i64 t523)) (fun _ => cj) (.bool t524)) (fun _ h_ => h_.1))) hb); have n2_ := A_ (blk_below (g := gb531) (o := .cells #[.int .i64 t523, .bool t524] 25 (0, 0)) (by (with_reducible repeat (first | refine blk_drewN ?_ _ | refine blk_drew ?_ | refine blk_alloc ?_ _)); refine blk_put (cs := #[.int .i64 t523, .bool false]) ?_ 1 _ rfl; (with_reducible repeat (first | refine blk_drewN ?_ _ | refine blk_drew ?_ | refine blk_alloc ?_ _)); refine blk_put (cs := #[.int .i64 0, .bool false]) ?_ 0 _ rfl; (with_reducible repeat (first | refine blk_drewN ?_ _ | refine blk_drew ?_ | refine blk_alloc ?_ _)); exact BK531.out) hb); have n3_ := A_ (below_step (hq HB) hb); clear HO527; clear HO530; clear BK531; clear HB; have HO527 := n0_; have HO530 := n1_; have BK531 := n2_; have HB := n3_; clear n0_ n1_ n2_ n3_; (try clear hb); (try clear hb2); (try clear hk); (try clear hi); have hcz14_0 : w13.cell? ⟨gb531, 0, none⟩ = some (.int .i64 t523) := bc BK531 0; have hcz14_1 : w13.cell? ⟨gb531, 1, none⟩ = some (.bool t524) := bc BK531 1; have hfz14_0 := blk_frozen BK531.out 0; have hfz14_1 := blk_frozen BK531.out 1) | (go_at_call 41; (with_reducible refine (spec_LabelTime.calls k t523 t524 _ _ t525 _ _ t528 t534 t535 _ ?side1 ?side2 ?side3 ?side4 A6.out).mono ?_); (case side1 => exact cq (Kd.R_reads' HO527.out).2.2); (case side2 => exact (Kd.R_reads' HO527.out).2.1); (case side3 => exact cq (Kd.R_reads' HO530.out).2.2); (case side4 => exact (Kd.R_reads' HO530.out).2.1); rintro e w15 ⟨rfl, hb⟩; have n0_ := A_ (Kd.R_below (rq HO527) hb); have n1_ := A_ (Kd.R_below (rq HO530) hb); have n2_ := A_ (blk_below (bq BK531) hb); have n3_ := A_ (below_step (hq HB) hb); clear HO527; clear HO530; clear BK531; clear HB; have HO527 := n0_; have HO530 := n1_; have BK531 := n2_; have HB := n3_; clear n0_ n1_ n2_ n3_; (try clear hb); (try clear hb2); (try clear hk); (try clear hi))); go_upto_region 6 with (first | (go_at_call 6; (with_reducible refine (laws_rBig.calls _ _ l0 false _ ?side1 ?side2 A2.out).mono ?_); (case side1 => exact cq HR0.out); (case side2 => exact HC0.out); rintro e w' ⟨rfl, ⟨nd, rfl⟩⟩; (try first | exact ⟨rfl, _, World.drewN_drewN _ _ _⟩ | exact ⟨rfl, _, Eq.trans (World.drewN_drewN _ _ _) (congrArg (World.drewN _) (Nat.add_assoc _ _ _))⟩)) | (go_at_call 39; (with_reducible refine (spec_DrawLabelTime.calls k _ _ l0 t523 t524 t525 t528 _ ?side1 ?side2 A4.out).mono ?_); (case side1 => exact cq HR0.out); (case side2 => exact HC0.out); rintro e w8 ⟨v526, v529, rfl, ho0, ho1, hb⟩; have n0_ := A_ (Kd.R_lower ho0 (below_size (hq HB))); have n1_ := A_ (Kd.R_lower ho1 (below_size (hq HB))); have n2_ := A_ (below_step (hq HB) hb); clear HB; have HO527 := n0_; have HO530 := n1_; have HB := n2_; clear n0_ n1_ n2_; (try clear hb); (try clear hb2); (try clear hk); (try clear hi); (try clear ho0); (try clear ho1)) | ((with_reducible refine gate_dst (N := 3) rfl ?_); (try (refine gate_guard (by rfl) ?_; dsimp only)); refine box_event ?hg (N := 3) ?hd (cs := #[.int .i64 0, .bool false]) (t := 25) ?hr ?_; (case hd => rfl); (case hg => rfl); (case hr => first | (go_simp; done) | (go_simp; rfl)); intro gb531 hg w9 hbox hb; have n0_ := A_ (Kd.R_below (rq HO527) hb); have n1_ := A_ (Kd.R_below (rq HO530) hb); have n2_ := A_ (below_step (hq HB) hb); have n3_ := A_ (hbox); have n4_ := A_ ((by rw [hg]; exact (below_size (hq HB)) : w.heap.size ≤ gb531)); have n5_ := A_ ((by rw [hg]; exact (below_size (hq HB)) : w.heap.size ≤ gb531)); clear HO527; clear HO530; clear HB; have HO527 := n0_; have HO530 := n1_; have HB := n2_; have BK531 := n3_; have GW531 := n4_; have GE531 := n5_; clear n0_ n1_ n2_ n3_ n4_ n5_; clear hb hbox hg; have hcz10_0 : w9.cell? ⟨gb531, 0, none⟩ = some (.int .i64 0) := bc BK531 0; have hcz10_1 : w9.cell? ⟨gb531, 1, none⟩ = some (.bool false) := bc BK531 1; have hfz10_0 := blk_frozen BK531.out 0; have hfz10_1 := blk_frozen BK531.out 1; obtain ⟨Ao11, co11, eo11⟩ := Kd.R_slice HO527.out; subst eo11; obtain ⟨Ao12, co12, eo12⟩ := Kd.R_slice HO530.out; subst eo12) | (go_at_call 40; (with_reducible refine (impl_LabelTime.calls k t523 t524 _ _ t525 _ _ t528 t532 t533 _ ?side1 ?side2 ?side3 ?side4 A5.out).mono ?_); (case side1 => refine (Kd.R_reads' (e := 3) (base := w.heap.size) (ok := fun k_ => some k_ ≠ (.slice Ao12 t528.length co12 : Value).ownBlock) (n := t525.length) (c := co11) ?_).2.2; exact (by (with_reducible repeat (first | apply Kd.R_alloc | apply Kd.R_drewN | apply Kd.R_drew)); exact (Kd.R_mono (Kd.R_far (p := ⟨gb531, 1, none⟩) (Kd.R_far (p := ⟨gb531, 0, none⟩) (Kd.R_types HO527.out BK531.out (by decide)) (fun _ => cj) (.int .i64 t523)) (fun _ => cj) (.bool t524)) (fun _ h_ => h_.1)))); (case side2 => exact (Kd.R_reads' HO527.out).2.1); (case side3 => refine (Kd.R_reads' (e := 3) (base := w.heap.size) (ok := fun k_ => some k_ ≠ (.slice Ao11 t525.length co11 : Value).ownBlock) (n := t528.length) (c := co12) ?_).2.2; exact (by (with_reducible repeat (first | apply Kd.R_alloc | apply Kd.R_drewN | apply Kd.R_drew)); exact (Kd.R_mono (Kd.R_far (p := ⟨gb531, 1, none⟩) (Kd.R_far (p := ⟨gb531, 0, none⟩) (Kd.R_types HO530.out BK531.out (by decide)) (fun _ => cj) (.int .i64 t523)) (fun _ => cj) (.bool t524)) (fun _ h_ => h_.1)))); (case side4 => exact (Kd.R_reads' HO530.out).2.1); rintro e w13 ⟨rfl, hb⟩; have n0_ := A_ (Kd.R_below (by (with_reducible repeat (first | apply Kd.R_alloc | apply Kd.R_drewN | apply Kd.R_drew)); exact (Kd.R_mono (Kd.R_far (p := ⟨gb531, 1, none⟩) (Kd.R_far (p := ⟨gb531, 0, none⟩) (Kd.R_types HO527.out BK531.out (by decide)) (fun _ => cj) (.int .i64 t523)) (fun _ => cj) (.bool t524)) (fun _ h_ => h_.1))) hb); have n1_ := A_ (Kd.R_below (by (with_reducible repeat (first | apply Kd.R_alloc | apply Kd.R_drewN | apply Kd.R_drew)); exact (Kd.R_mono (Kd.R_far (p := ⟨gb531, 1, none⟩) (Kd.R_far (p := ⟨gb531, 0, none⟩) (Kd.R_types HO530.out BK531.out (by decide)) (fun _ => cj) (.int .i64 t523)) (fun _ => cj) (.bool t524)) (fun _ h_ => h_.1))) hb); have n2_ := A_ (blk_below (g := gb531) (o := .cells #[.int .i64 t523, .bool t524] 25 (0, 0)) (by (with_reducible repeat (first | refine blk_drewN ?_ _ | refine blk_drew ?_ | refine blk_alloc ?_ _)); refine blk_put (cs := #[.int .i64 t523, .bool false]) ?_ 1 _ rfl; (with_reducible repeat (first | refine blk_drewN ?_ _ | refine blk_drew ?_ | refine blk_alloc ?_ _)); refine blk_put (cs := #[.int .i64 0, .bool false]) ?_ 0 _ rfl; (with_reducible repeat (first | refine blk_drewN ?_ _ | refine blk_drew ?_ | refine blk_alloc ?_ _)); exact BK531.out) hb); have n3_ := A_ (below_step (hq HB) hb); clear HO527; clear HO530; clear BK531; clear HB; have HO527 := n0_; have HO530 := n1_; have BK531 := n2_; have HB := n3_; clear n0_ n1_ n2_ n3_; (try clear hb); (try clear hb2); (try clear hk); (try clear hi); have hcz14_0 : w13.cell? ⟨gb531, 0, none⟩ = some (.int .i64 t523) := bc BK531 0; have hcz14_1 : w13.cell? ⟨gb531, 1, none⟩ = some (.bool t524) := bc BK531 1; have hfz14_0 := blk_frozen BK531.out 0; have hfz14_1 := blk_frozen BK531.out 1) | (go_at_call 41; (with_reducible refine (spec_LabelTime.calls k t523 t524 _ _ t525 _ _ t528 t534 t535 _ ?side1 ?side2 ?side3 ?side4 A6.out).mono ?_); (case side1 => exact cq (Kd.R_reads' HO527.out).2.2); (case side2 => exact (Kd.R_reads' HO527.out).2.1); (case side3 => exact cq (Kd.R_reads' HO530.out).2.2); (case side4 => exact (Kd.R_reads' HO530.out).2.1); rintro e w15 ⟨rfl, hb⟩; have n0_ := A_ (Kd.R_below (rq HO527) hb); have n1_ := A_ (Kd.R_below (rq HO530) hb); have n2_ := A_ (blk_below (bq BK531) hb); have n3_ := A_ (below_step (hq HB) hb); clear HO527; clear HO530; clear BK531; clear HB; have HO527 := n0_; have HO530 := n1_; have BK531 := n2_; have HB := n3_; clear n0_ n1_ n2_ n3_; (try clear hb); (try clear hb2); (try clear hk); (try clear hi))))
  (try simp only [Act.put, List.setIfInBounds_toArray, List.set_cons_zero, List.set_cons_succ])
  go_cut [57] (fun v57 wc => ∃ (kq : Nat) (x57_6 : Bool), v57 = .bool x57_6 ∧ Aside0 (laws_FnLabels.j0 kq l0 t525 t528 t532 t533 x57_6 t523 t524 = some r) ∧ Aside0 (kq ≤ k) ∧ Aside0 (Kd.R (Kd.int .i64) 3 wc w.heap.size (fun k_ => some k_ ≠ ((.slice Ao12 t528.length co12) : Value).ownBlock) (.slice Ao11 t525.length co11) t525) ∧ Aside0 (Kd.R (Kd.int .i64) 3 wc w.heap.size (fun k_ => some k_ ≠ ((.slice Ao11 t525.length co11) : Value).ownBlock) (.slice Ao12 t528.length co12) t528) ∧ Aside0 (wc.heap[gb531]? = some (.cells #[.int .i64 t523, .bool t524] 25 (0, 0))) ∧ Aside0 (Below w.heap.size w wc))
  case first =>
   have H := HC7.out
   clear HC7
   by_cases c16 : t532 = t534
   ·
    rw [if_pos c16] at H
    have c16b0 : (t532 == t534) = true := beq_iff_eq.mpr c16
    have c16b1 : (t532 != t534) = false := bne_eq_false_iff_eq.mpr c16
    clear c16
    (first | rw [c16b0] | (simp only [i64_w, i32_w]; rw [c16b0]) | skip)
    have H' := A_ H
    clear H
    go_wp2
    repeat (go_quiet (fail); try go_wp2)
    go_meet
    case rel => exact ⟨_, ((t533 != t535)), (by first | rfl | (simp; done) | (simp [*]; done)), H', ⟨by first | omega | exact Nat.le_refl _⟩, ⟨rq HO527⟩, ⟨rq HO530⟩, ⟨bq BK531⟩, ⟨hq HB⟩⟩
   ·
    rw [if_neg c16] at H
    have c16b0 : (t532 == t534) = false := beq_eq_false_iff_ne.mpr c16
    have c16b1 : (t532 != t534) = true := bne_iff_ne.mpr c16
    (first | rw [c16b0] | (simp only [i64_w, i32_w]; rw [c16b0]) | skip)
    have H' := A_ H
    clear H
    go_wp2
    repeat (go_quiet (fail); try go_wp2)
    go_meet
    case rel => exact ⟨_, (true), (by first | rfl | (simp; done) | (simp [*]; done)), H', ⟨by first | omega | exact Nat.le_refl _⟩, ⟨rq HO527⟩, ⟨rq HO530⟩, ⟨bq BK531⟩, ⟨hq HB⟩⟩
  case rest =>
   as_aux_lemma =>
    clear HC7
    try clear c1
    try clear p2
    try clear c3
    try clear c5
    try clear c16
    try clear c16b0
    try clear c16b1
    try clear hcz10_0
    try clear hcz10_1
    try clear hcz14_0
    try clear hcz14_1
    try clear hfz10_0
    try clear hfz10_1
    try clear hfz14_0
    try clear hfz14_1
    obtain ⟨kq, x57_6, rfl, HA, HJ6, HO_4, HO_5, BK531, HB⟩ := hcut
    cases kq with
    | zero => exact absurd HA.out (by simp [laws_FnLabels.j0])
    | succ kj6 =>
     have H := HA.out
     clear HA
     simp only [laws_FnLabels.j0] at H
     by_cases c17 : x57_6 = true
     ·
      subst c17
      have H1 : (some false) = some r := by rw [if_pos rfl] at H; exact H
      clear H
      have H := H1
      clear H1
      obtain rfl := Option.some.inj H
      exact absurd hr_ (by decide)
     ·
      replace c17 := Bool.eq_false_iff.mpr c17
      subst c17
      have H1 : ((spec_DrawLabelMoves.f kj6 l0).bind fun bt536 => ((impl_LabelMoves.f kj6 bt536.1 bt536.2).bind fun bt540 => ((spec_LabelMoves.f kj6 bt536.1 bt536.2).bind fun bt544 => (if (bt540.2 != bt544.2) = true then (laws_FnLabels.j1 kj6 l0 t525 t528 t532 t533 bt536.1 bt536.2 bt540.1 bt540.2 true t523 t524) else ((laws_rInts.f kj6 bt540.1 bt544.1).bind fun t548 => (laws_FnLabels.j1 kj6 l0 t525 t528 t532 t533 bt536.1 bt536.2 bt540.1 bt540.2 (!t548) t523 t524)))))) = some r := by rw [if_neg (show ¬ (false = true) by decide)] at H; exact H
      clear H
      have H := H1
      clear H1
      replace H := Option.bind_eq_some_iff.mp H
      obtain ⟨⟨t536, t537⟩, A180, H⟩ := H
      replace H : ((impl_LabelMoves.f kj6 t536 t537).bind fun bt540 => ((spec_LabelMoves.f kj6 t536 t537).bind fun bt544 => (if (bt540.2 != bt544.2) = true then (laws_FnLabels.j1 kj6 l0 t525 t528 t532 t533 t536 t537 bt540.1 bt540.2 true t523 t524) else ((laws_rInts.f kj6 bt540.1 bt544.1).bind fun t548 => (laws_FnLabels.j1 kj6 l0 t525 t528 t532 t533 t536 t537 bt540.1 bt540.2 (!t548) t523 t524))))) = some r := H
      have A18 := A_ A180
      clear A180
      replace H := Option.bind_eq_some_iff.mp H
      obtain ⟨⟨t540, t541⟩, A190, H⟩ := H
      replace H : ((spec_LabelMoves.f kj6 t536 t537).bind fun bt544 => (if (t541 != bt544.2) = true then (laws_FnLabels.j1 kj6 l0 t525 t528 t532 t533 t536 t537 t540 t541 true t523 t524) else ((laws_rInts.f kj6 t540 bt544.1).bind fun t548 => (laws_FnLabels.j1 kj6 l0 t525 t528 t532 t533 t536 t537 t540 t541 (!t548) t523 t524)))) = some r := H
      have A19 := A_ A190
      clear A190
      replace H := Option.bind_eq_some_iff.mp H
      obtain ⟨⟨t544, t545⟩, A200, H⟩ := H
      replace H : (if (t541 != t545) = true then (laws_FnLabels.j1 kj6 l0 t525 t528 t532 t533 t536 t537 t540 t541 true t523 t524) else ((laws_rInts.f kj6 t540 t544).bind fun t548 => (laws_FnLabels.j1 kj6 l0 t525 t528 t532 t533 t536 t537 t540 t541 (!t548) t523 t524))) = some r := H
      have A20 := A_ A200
      clear A200
      have HC21 := A_ H
      clear H
      go_upto_region 11 with (first | (go_at_call 42; (with_reducible refine (spec_DrawLabelMoves.calls kj6 _ _ l0 t536 t537 _ ?side1 ?side2 A18.out).mono ?_); (case side1 => exact cq (Kd.C_below HR0.out HB.out)); (case side2 => exact HC0.out); rintro e w22 ⟨v538, rfl, ho0, hb⟩; have n0_ := A_ (Kd.R_elder' (rq HO_4) (Kd.R_base ho0) hb); have n1_ := A_ (Kd.R_elder' (rq HO_5) (Kd.R_base ho0) hb); have n2_ := A_ (Kd.R_lower (Kd.R_new' (Kd.R_new' ho0 (Kd.R_lt (rq HO_4))) (Kd.R_lt (rq HO_5))) (below_size (hq HB))); have n3_ := A_ (blk_below (bq BK531) hb); have n4_ := A_ (below_step (hq HB) hb); clear HO_4; clear HO_5; clear BK531; clear HB; have HO_4 := n0_; have HO_5 := n1_; have HO539 := n2_; have BK531 := n3_; have HB := n4_; clear n0_ n1_ n2_ n3_ n4_; (try clear hb); (try clear hb2); (try clear hk); (try clear hi); (try clear ho0); obtain ⟨Ao23, co23, eo23⟩ := Kd.R_slice HO539.out; subst eo23) | (go_at_call 43; (with_reducible refine (impl_LabelMoves.calls kj6 _ _ t536 t537 t540 t541 _ ?side1 ?side2 A19.out).mono ?_); (case side1 => exact cq (Kd.R_reads' HO539.out).2.2); (case side2 => exact (Kd.R_reads' HO539.out).2.1); rintro e w24 ⟨v542, rfl, ho0, hb⟩; have n0_ := A_ (Kd.R_elder' (rq HO_4) (Kd.R_base ho0) hb); have n1_ := A_ (Kd.R_elder' (rq HO_5) (Kd.R_base ho0) hb); have n2_ := A_ (Kd.R_elder' (rq HO539) (Kd.R_base ho0) hb); have n3_ := A_ (Kd.R_lower (Kd.R_new' (Kd.R_new' (Kd.R_new' ho0 (Kd.R_lt (rq HO_4))) (Kd.R_lt (rq HO_5))) (Kd.R_lt (rq HO539))) (below_size (hq HB))); have n4_ := A_ (blk_below (bq BK531) hb); have n5_ := A_ (below_step (hq HB) hb); clear HO_4; clear HO_5; clear HO539; clear BK531; clear HB; have HO_4 := n0_; have HO_5 := n1_; have HO539 := n2_; have HO543 := n3_; have BK531 := n4_; have HB := n5_; clear n0_ n1_ n2_ n3_ n4_ n5_; (try clear hb); (try clear hb2); (try clear hk); (try clear hi); (try clear ho0)) | (go_at_call 44; (with_reducible refine (spec_LabelMoves.calls kj6 _ _ t536 t537 t544 t545 _ ?side1 ?side2 A20.out).mono ?_); (case side1 => exact cq (Kd.R_reads' HO539.out).2.2); (case side2 => exact (Kd.R_reads' HO539.out).2.1); rintro e w25 ⟨v546, rfl, ho0, hb⟩; have n0_ := A_ (Kd.R_elder' (rq HO_4) (Kd.R_base ho0) hb); have n1_ := A_ (Kd.R_elder' (rq HO_5) (Kd.R_base ho0) hb); have n2_ := A_ (Kd.R_elder' (rq HO539) (Kd.R_base ho0) hb); have n3_ := A_ (Kd.R_elder' (rq HO543) (Kd.R_base ho0) hb); have n4_ := A_ (Kd.R_lower (Kd.R_new' (Kd.R_new' (Kd.R_new' (Kd.R_new' ho0 (Kd.R_lt (rq HO_4))) (Kd.R_lt (rq HO_5))) (Kd.R_lt (rq HO539))) (Kd.R_lt (rq HO543))) (below_size (hq HB))); have n5_ := A_ (blk_below (bq BK531) hb); have n6_ := A_ (below_step (hq HB) hb); clear HO_4; clear HO_5; clear HO539; clear HO543; clear BK531; clear HB; have HO_4 := n0_; have HO_5 := n1_; have HO539 := n2_; have HO543 := n3_; have HO547 := n4_; have BK531 := n5_; have HB := n6_; clear n0_ n1_ n2_ n3_ n4_ n5_ n6_; (try clear hb); (try clear hb2); (try clear hk); (try clear hi); (try clear ho0)))
      repeat (go_quiet (first | (go_at_call 42; (with_reducible refine (spec_DrawLabelMoves.calls kj6 _ _ l0 t536 t537 _ ?side1 ?side2 A18.out).mono ?_); (case side1 => exact cq (Kd.C_below HR0.out HB.out)); (case side2 => exact HC0.out); rintro e w22 ⟨v538, rfl, ho0, hb⟩; have n0_ := A_ (Kd.R_elder' (rq HO_4) (Kd.R_base ho0) hb); have n1_ := A_ (Kd.R_elder' (rq HO_5) (Kd.R_base ho0) hb); have n2_ := A_ (Kd.R_lower (Kd.R_new' (Kd.R_new' ho0 (Kd.R_lt (rq HO_4))) (Kd.R_lt (rq HO_5))) (below_size (hq HB))); have n3_ := A_ (blk_below (bq BK531) hb); have n4_ := A_ (below_step (hq HB) hb); clear HO_4; clear HO_5; clear BK531; clear HB; have HO_4 := n0_; have HO_5 := n1_; have HO539 := n2_; have BK531 := n3_; have HB := n4_; clear n0_ n1_ n2_ n3_ n4_; (try clear hb); (try clear hb2); (try clear hk); (try clear hi); (try clear ho0); obtain ⟨Ao23, co23, eo23⟩ := Kd.R_slice HO539.out; subst eo23) | (go_at_call 43; (with_reducible refine (impl_LabelMoves.calls kj6 _ _ t536 t537 t540 t541 _ ?side1 ?side2 A19.out).mono ?_); (case side1 => exact cq (Kd.R_reads' HO539.out).2.2); (case side2 => exact (Kd.R_reads' HO539.out).2.1); rintro e w24 ⟨v542, rfl, ho0, hb⟩; have n0_ := A_ (Kd.R_elder' (rq HO_4) (Kd.R_base ho0) hb); have n1_ := A_ (Kd.R_elder' (rq HO_5) (Kd.R_base ho0) hb); have n2_ := A_ (Kd.R_elder' (rq HO539) (Kd.R_base ho0) hb); have n3_ := A_ (Kd.R_lower (Kd.R_new' (Kd.R_new' (Kd.R_new' ho0 (Kd.R_lt (rq HO_4))) (Kd.R_lt (rq HO_5))) (Kd.R_lt (rq HO539))) (below_size (hq HB))); have n4_ := A_ (blk_below (bq BK531) hb); have n5_ := A_ (below_step (hq HB) hb); clear HO_4; clear HO_5; clear HO539; clear BK531; clear HB; have HO_4 := n0_; have HO_5 := n1_; have HO539 := n2_; have HO543 := n3_; have BK531 := n4_; have HB := n5_; clear n0_ n1_ n2_ n3_ n4_ n5_; (try clear hb); (try clear hb2); (try clear hk); (try clear hi); (try clear ho0)) | (go_at_call 44; (with_reducible refine (spec_LabelMoves.calls kj6 _ _ t536 t537 t544 t545 _ ?side1 ?side2 A20.out).mono ?_); (case side1 => exact cq (Kd.R_reads' HO539.out).2.2); (case side2 => exact (Kd.R_reads' HO539.out).2.1); rintro e w25 ⟨v546, rfl, ho0, hb⟩; have n0_ := A_ (Kd.R_elder' (rq HO_4) (Kd.R_base ho0) hb); have n1_ := A_ (Kd.R_elder' (rq HO_5) (Kd.R_base ho0) hb); have n2_ := A_ (Kd.R_elder' (rq HO539) (Kd.R_base ho0) hb); have n3_ := A_ (Kd.R_elder' (rq HO543) (Kd.R_base ho0) hb); have n4_ := A_ (Kd.R_lower (Kd.R_new' (Kd.R_new' (Kd.R_new' (Kd.R_new' ho0 (Kd.R_lt (rq HO_4))) (Kd.R_lt (rq HO_5))) (Kd.R_lt (rq HO539))) (Kd.R_lt (rq HO543))) (below_size (hq HB))); have n5_ := A_ (blk_below (bq BK531) hb); have n6_ := A_ (below_step (hq HB) hb); clear HO_4; clear HO_5; clear HO539; clear HO543; clear BK531; clear HB; have HO_4 := n0_; have HO_5 := n1_; have HO539 := n2_; have HO543 := n3_; have HO547 := n4_; have BK531 := n5_; have HB := n6_; clear n0_ n1_ n2_ n3_ n4_ n5_ n6_; (try clear hb); (try clear hb2); (try clear hk); (try clear hi); (try clear ho0))); go_upto_region 11 with (first | (go_at_call 42; (with_reducible refine (spec_DrawLabelMoves.calls kj6 _ _ l0 t536 t537 _ ?side1 ?side2 A18.out).mono ?_); (case side1 => exact cq (Kd.C_below HR0.out HB.out)); (case side2 => exact HC0.out); rintro e w22 ⟨v538, rfl, ho0, hb⟩; have n0_ := A_ (Kd.R_elder' (rq HO_4) (Kd.R_base ho0) hb); have n1_ := A_ (Kd.R_elder' (rq HO_5) (Kd.R_base ho0) hb); have n2_ := A_ (Kd.R_lower (Kd.R_new' (Kd.R_new' ho0 (Kd.R_lt (rq HO_4))) (Kd.R_lt (rq HO_5))) (below_size (hq HB))); have n3_ := A_ (blk_below (bq BK531) hb); have n4_ := A_ (below_step (hq HB) hb); clear HO_4; clear HO_5; clear BK531; clear HB; have HO_4 := n0_; have HO_5 := n1_; have HO539 := n2_; have BK531 := n3_; have HB := n4_; clear n0_ n1_ n2_ n3_ n4_; (try clear hb); (try clear hb2); (try clear hk); (try clear hi); (try clear ho0); obtain ⟨Ao23, co23, eo23⟩ := Kd.R_slice HO539.out; subst eo23) | (go_at_call 43; (with_reducible refine (impl_LabelMoves.calls kj6 _ _ t536 t537 t540 t541 _ ?side1 ?side2 A19.out).mono ?_); (case side1 => exact cq (Kd.R_reads' HO539.out).2.2); (case side2 => exact (Kd.R_reads' HO539.out).2.1); rintro e w24 ⟨v542, rfl, ho0, hb⟩; have n0_ := A_ (Kd.R_elder' (rq HO_4) (Kd.R_base ho0) hb); have n1_ := A_ (Kd.R_elder' (rq HO_5) (Kd.R_base ho0) hb); have n2_ := A_ (Kd.R_elder' (rq HO539) (Kd.R_base ho0) hb); have n3_ := A_ (Kd.R_lower (Kd.R_new' (Kd.R_new' (Kd.R_new' ho0 (Kd.R_lt (rq HO_4))) (Kd.R_lt (rq HO_5))) (Kd.R_lt (rq HO539))) (below_size (hq HB))); have n4_ := A_ (blk_below (bq BK531) hb); have n5_ := A_ (below_step (hq HB) hb); clear HO_4; clear HO_5; clear HO539; clear BK531; clear HB; have HO_4 := n0_; have HO_5 := n1_; have HO539 := n2_; have HO543 := n3_; have BK531 := n4_; have HB := n5_; clear n0_ n1_ n2_ n3_ n4_ n5_; (try clear hb); (try clear hb2); (try clear hk); (try clear hi); (try clear ho0)) | (go_at_call 44; (with_reducible refine (spec_LabelMoves.calls kj6 _ _ t536 t537 t544 t545 _ ?side1 ?side2 A20.out).mono ?_); (case side1 => exact cq (Kd.R_reads' HO539.out).2.2); (case side2 => exact (Kd.R_reads' HO539.out).2.1); rintro e w25 ⟨v546, rfl, ho0, hb⟩; have n0_ := A_ (Kd.R_elder' (rq HO_4) (Kd.R_base ho0) hb); have n1_ := A_ (Kd.R_elder' (rq HO_5) (Kd.R_base ho0) hb); have n2_ := A_ (Kd.R_elder' (rq HO539) (Kd.R_base ho0) hb); have n3_ := A_ (Kd.R_elder' (rq HO543) (Kd.R_base ho0) hb); have n4_ := A_ (Kd.R_lower (Kd.R_new' (Kd.R_new' (Kd.R_new' (Kd.R_new' ho0 (Kd.R_lt (rq HO_4))) (Kd.R_lt (rq HO_5))) (Kd.R_lt (rq HO539))) (Kd.R_lt (rq HO543))) (below_size (hq HB))); have n5_ := A_ (blk_below (bq BK531) hb); have n6_ := A_ (below_step (hq HB) hb); clear HO_4; clear HO_5; clear HO539; clear HO543; clear BK531; clear HB; have HO_4 := n0_; have HO_5 := n1_; have HO539 := n2_; have HO543 := n3_; have HO547 := n4_; have BK531 := n5_; have HB := n6_; clear n0_ n1_ n2_ n3_ n4_ n5_ n6_; (try clear hb); (try clear hb2); (try clear hk); (try clear hi); (try clear ho0))))
      (try simp only [Act.put, List.setIfInBounds_toArray, List.set_cons_zero, List.set_cons_succ])
      go_cut [83] (fun v83 wc => ∃ (kq : Nat) (x83_20 : Bool), v83 = .bool x83_20 ∧ Aside0 (laws_FnLabels.j1 kq l0 t525 t528 t532 t533 t536 t537 t540 t541 x83_20 t523 t524 = some r) ∧ Aside0 (kq ≤ kj6) ∧ Aside0 (Kd.R (Kd.int .i64) 3 wc w.heap.size (fun k_ => some k_ ≠ ((.slice Ao12 t528.length co12) : Value).ownBlock ∧ some k_ ≠ ((.slice Ao23 t536.length co23) : Value).ownBlock ∧ some k_ ≠ (v542 : Value).ownBlock) (.slice Ao11 t525.length co11) t525) ∧ Aside0 (Kd.R (Kd.int .i64) 3 wc w.heap.size (fun k_ => some k_ ≠ ((.slice Ao11 t525.length co11) : Value).ownBlock ∧ some k_ ≠ ((.slice Ao23 t536.length co23) : Value).ownBlock ∧ some k_ ≠ (v542 : Value).ownBlock) (.slice Ao12 t528.length co12) t528) ∧ Aside0 (Kd.R (Kd.int .i64) 3 wc w.heap.size (fun k_ => some k_ ≠ ((.slice Ao11 t525.length co11) : Value).ownBlock ∧ some k_ ≠ ((.slice Ao12 t528.length co12) : Value).ownBlock ∧ some k_ ≠ (v542 : Value).ownBlock) (.slice Ao23 t536.length co23) t536) ∧ Aside0 (Kd.R (Kd.int .i64) 3 wc w.heap.size (fun k_ => some k_ ≠ ((.slice Ao11 t525.length co11) : Value).ownBlock ∧ some k_ ≠ ((.slice Ao12 t528.length co12) : Value).ownBlock ∧ some k_ ≠ ((.slice Ao23 t536.length co23) : Value).ownBlock) v542 t540) ∧ Aside0 (wc.heap[gb531]? = some (.cells #[.int .i64 t523, .bool t524] 25 (0, 0))) ∧ Aside0 (Below w.heap.size w wc))
      case first =>
       as_aux_lemma =>
        have H := HC21.out
        clear HC21
        by_cases c26 : (t541 != t545) = true
        ·
         rw [if_pos c26] at H
         have c26b0 : (t541 != t545) = true := c26
         (try (have c26b1 : decide (t541 = t545) = false := by simpa using c26))
         (try (have c26b2 : (t541 == t545) = false := by simpa using c26))
         (try (have c26b3 : ¬ (t541 = t545) := by simpa using c26))
         clear c26
         (first | rw [c26b0] | (simp only [i64_w, i32_w]; rw [c26b0]) | skip)
         have H' := A_ H
         clear H
         go_wp2
         repeat (go_quiet (fail); try go_wp2)
         go_meet
         case rel => exact ⟨_, (true), (by first | rfl | (simp; done) | (simp [*]; done)), H', ⟨by have := HJ6.out; first | omega | exact Nat.le_refl _⟩, ⟨by (with_reducible repeat (first | apply Kd.R_alloc | apply Kd.R_drewN | apply Kd.R_drew)); exact Kd.R_mono HO_4.out (fun _ hk => ⟨hk.1.1.1, ⟨hk.1.1.2, hk.1.2⟩⟩)⟩, ⟨by (with_reducible repeat (first | apply Kd.R_alloc | apply Kd.R_drewN | apply Kd.R_drew)); exact Kd.R_mono HO_5.out (fun _ hk => ⟨hk.1.1.1, ⟨hk.1.1.2, hk.1.2⟩⟩)⟩, ⟨by (with_reducible repeat (first | apply Kd.R_alloc | apply Kd.R_drewN | apply Kd.R_drew)); exact Kd.R_mono HO539.out (fun _ hk => ⟨hk.1.1.1.2, ⟨hk.1.1.2, hk.1.2⟩⟩)⟩, ⟨by (with_reducible repeat (first | apply Kd.R_alloc | apply Kd.R_drewN | apply Kd.R_drew)); exact Kd.R_mono HO543.out (fun _ hk => ⟨hk.1.1.1.2, ⟨hk.1.1.2, hk.1.2⟩⟩)⟩, ⟨bq BK531⟩, ⟨hq HB⟩⟩
        ·
         as_aux_lemma =>
          rw [if_neg c26] at H
          have c26b0 : (t541 != t545) = false := by simpa using c26
          (try (have c26b1 : decide (t541 = t545) = true := by simpa using c26))
          (try (have c26b2 : (t541 == t545) = true := by simpa using c26))
          clear c26
          (first | rw [c26b0] | (simp only [i64_w, i32_w]; rw [c26b0]) | skip)
          replace H := Option.bind_eq_some_iff.mp H
          obtain ⟨t548, A270, H⟩ := H
          replace H : (laws_FnLabels.j1 kj6 l0 t525 t528 t532 t533 t536 t537 t540 t541 (!t548) t523 t524) = some r := H
          have A27 := A_ A270
          clear A270
          have H' := A_ H
          clear H
          obtain ⟨Ao28, co28, eo28⟩ := Kd.R_slice HO543.out
          subst eo28
          obtain ⟨Ao29, co29, eo29⟩ := Kd.R_slice HO547.out
          subst eo29
          go_wp2_with (first | (go_at_call 10; (with_reducible refine (laws_rInts.calls kj6 _ _ t540 _ _ t544 t548 _ ?side1 ?side2 ?side3 ?side4 A27.out).mono ?_); (case side1 => exact cq (Kd.R_reads' HO543.out).2.2); (case side2 => exact (Kd.R_reads' HO543.out).2.1); (case side3 => exact cq (Kd.R_reads' HO547.out).2.2); (case side4 => exact (Kd.R_reads' HO547.out).2.1); rintro e w' ⟨rfl, ⟨nd, rfl⟩⟩; (try first | exact ⟨rfl, _, World.drewN_drewN _ _ _⟩ | exact ⟨rfl, _, Eq.trans (World.drewN_drewN _ _ _) (congrArg (World.drewN _) (Nat.add_assoc _ _ _))⟩)))
          repeat (go_quiet (first | (go_at_call 10; (with_reducible refine (laws_rInts.calls kj6 _ _ t540 _ _ t544 t548 _ ?side1 ?side2 ?side3 ?side4 A27.out).mono ?_); (case side1 => exact cq (Kd.R_reads' HO543.out).2.2); (case side2 => exact (Kd.R_reads' HO543.out).2.1); (case side3 => exact cq (Kd.R_reads' HO547.out).2.2); (case side4 => exact (Kd.R_reads' HO547.out).2.1); rintro e w' ⟨rfl, ⟨nd, rfl⟩⟩; (try first | exact ⟨rfl, _, World.drewN_drewN _ _ _⟩ | exact ⟨rfl, _, Eq.trans (World.drewN_drewN _ _ _) (congrArg (World.drewN _) (Nat.add_assoc _ _ _))⟩))); try go_wp2_with (first | (go_at_call 10; (with_reducible refine (laws_rInts.calls kj6 _ _ t540 _ _ t544 t548 _ ?side1 ?side2 ?side3 ?side4 A27.out).mono ?_); (case side1 => exact cq (Kd.R_reads' HO543.out).2.2); (case side2 => exact (Kd.R_reads' HO543.out).2.1); (case side3 => exact cq (Kd.R_reads' HO547.out).2.2); (case side4 => exact (Kd.R_reads' HO547.out).2.1); rintro e w' ⟨rfl, ⟨nd, rfl⟩⟩; (try first | exact ⟨rfl, _, World.drewN_drewN _ _ _⟩ | exact ⟨rfl, _, Eq.trans (World.drewN_drewN _ _ _) (congrArg (World.drewN _) (Nat.add_assoc _ _ _))⟩))))
          go_meet
          case rel => exact ⟨_, (!t548), (by first | rfl | (simp; done) | (simp [*]; done)), H', ⟨by have := HJ6.out; first | omega | exact Nat.le_refl _⟩, ⟨by (with_reducible repeat (first | apply Kd.R_alloc | apply Kd.R_drewN | apply Kd.R_drew)); exact Kd.R_mono HO_4.out (fun _ hk => ⟨hk.1.1.1, ⟨hk.1.1.2, hk.1.2⟩⟩)⟩, ⟨by (with_reducible repeat (first | apply Kd.R_alloc | apply Kd.R_drewN | apply Kd.R_drew)); exact Kd.R_mono HO_5.out (fun _ hk => ⟨hk.1.1.1, ⟨hk.1.1.2, hk.1.2⟩⟩)⟩, ⟨by (with_reducible repeat (first | apply Kd.R_alloc | apply Kd.R_drewN | apply Kd.R_drew)); exact Kd.R_mono HO539.out (fun _ hk => ⟨hk.1.1.1.2, ⟨hk.1.1.2, hk.1.2⟩⟩)⟩, ⟨by (with_reducible repeat (first | apply Kd.R_alloc | apply Kd.R_drewN | apply Kd.R_drew)); exact Kd.R_mono HO543.out (fun _ hk => ⟨hk.1.1.1.2, ⟨hk.1.1.2, hk.1.2⟩⟩)⟩, ⟨bq BK531⟩, ⟨hq HB⟩⟩
      case rest =>
       as_aux_lemma =>
        clear HC21
        try clear c1
        try clear c2
        try clear p2
        try clear c3
        try clear c5
        try clear c16
        try clear c16b0
        try clear c16b1
        try clear c17
        try clear c26
        try clear c26b0
        try clear c26b1
        try clear c26b2
        try clear hcz10_0
        try clear hcz10_1
        try clear hcz14_0
        try clear hcz14_1
        try clear hfz10_0
        try clear hfz10_1
        try clear hfz14_0
        try clear hfz14_1
        try clear p2
        obtain ⟨kq, x83_20, rfl, HA, HJ20, HO_4, HO_5, HO_10, HO_12, BK531, HB⟩ := hcut
        cases kq with
        | zero => exact absurd HA.out (by simp [laws_FnLabels.j1])
        | succ kj20 =>
         have H := HA.out
         clear HA
         simp only [laws_FnLabels.j1] at H
         by_cases c30 : x83_20 = true
         ·
          subst c30
          have H1 : (some false) = some r := by rw [if_pos rfl] at H; exact H
          clear H
          have H := H1
          clear H1
          obtain rfl := Option.some.inj H
          exact absurd hr_ (by decide)
         ·
          replace c30 := Bool.eq_false_iff.mpr c30
          subst c30
          have H1 : ((spec_DrawDoubleLabel.f kj20 l0).bind fun t549 => ((impl_DoubleLabel.f kj20 t549).bind fun bt552 => ((spec_DoubleLabel.f kj20 t549).bind fun bt556 => (if (bt552.2 != bt556.2) = true then (laws_FnLabels.j2 kj20 t525 t528 t532 t533 t536 t537 t540 t541 t549 bt552.1 bt552.2 true t523 t524) else ((laws_rInts.f kj20 bt552.1 bt556.1).bind fun t560 => (laws_FnLabels.j2 kj20 t525 t528 t532 t533 t536 t537 t540 t541 t549 bt552.1 bt552.2 (!t560) t523 t524)))))) = some r := by rw [if_neg (show ¬ (false = true) by decide)] at H; exact H
          clear H
          have H := H1
          clear H1
          replace H := Option.bind_eq_some_iff.mp H
          obtain ⟨t549, A310, H⟩ := H
          replace H : ((impl_DoubleLabel.f kj20 t549).bind fun bt552 => ((spec_DoubleLabel.f kj20 t549).bind fun bt556 => (if (bt552.2 != bt556.2) = true then (laws_FnLabels.j2 kj20 t525 t528 t532 t533 t536 t537 t540 t541 t549 bt552.1 bt552.2 true t523 t524) else ((laws_rInts.f kj20 bt552.1 bt556.1).bind fun t560 => (laws_FnLabels.j2 kj20 t525 t528 t532 t533 t536 t537 t540 t541 t549 bt552.1 bt552.2 (!t560) t523 t524))))) = some r := H
          have A31 := A_ A310
          clear A310
          replace H := Option.bind_eq_some_iff.mp H
          obtain ⟨⟨t552, t553⟩, A320, H⟩ := H
          replace H : ((spec_DoubleLabel.f kj20 t549).bind fun bt556 => (if (t553 != bt556.2) = true then (laws_FnLabels.j2 kj20 t525 t528 t532 t533 t536 t537 t540 t541 t549 t552 t553 true t523 t524) else ((laws_rInts.f kj20 t552 bt556.1).bind fun t560 => (laws_FnLabels.j2 kj20 t525 t528 t532 t533 t536 t537 t540 t541 t549 t552 t553 (!t560) t523 t524)))) = some r := H
          have A32 := A_ A320
          clear A320
          replace H := Option.bind_eq_some_iff.mp H
          obtain ⟨⟨t556, t557⟩, A330, H⟩ := H
          replace H : (if (t553 != t557) = true then (laws_FnLabels.j2 kj20 t525 t528 t532 t533 t536 t537 t540 t541 t549 t552 t553 true t523 t524) else ((laws_rInts.f kj20 t552 t556).bind fun t560 => (laws_FnLabels.j2 kj20 t525 t528 t532 t533 t536 t537 t540 t541 t549 t552 t553 (!t560) t523 t524))) = some r := H
          have A33 := A_ A330
          clear A330
          have HC34 := A_ H
          clear H
          go_upto_region 16 with (first | (go_at_call 45; (with_reducible refine (spec_DrawDoubleLabel.calls kj20 _ _ l0 t549 _ ?side1 ?side2 A31.out).mono ?_); (case side1 => exact cq (Kd.C_below HR0.out HB.out)); (case side2 => exact HC0.out); rintro e w35 ⟨v550, rfl, ho0, hb⟩; have n0_ := A_ (Kd.R_elder' (rq HO_4) (Kd.R_base ho0) hb); have n1_ := A_ (Kd.R_elder' (rq HO_5) (Kd.R_base ho0) hb); have n2_ := A_ (Kd.R_elder' (rq HO_10) (Kd.R_base ho0) hb); have n3_ := A_ (Kd.R_elder' (rq HO_12) (Kd.R_base ho0) hb); have n4_ := A_ (Kd.R_lower (Kd.R_new' (Kd.R_new' (Kd.R_new' (Kd.R_new' ho0 (Kd.R_lt (rq HO_4))) (Kd.R_lt (rq HO_5))) (Kd.R_lt (rq HO_10))) (Kd.R_lt (rq HO_12))) (below_size (hq HB))); have n5_ := A_ (blk_below (bq BK531) hb); have n6_ := A_ (below_step (hq HB) hb); clear HO_4; clear HO_5; clear HO_10; clear HO_12; clear BK531; clear HB; have HO_4 := n0_; have HO_5 := n1_; have HO_10 := n2_; have HO_12 := n3_; have HO551 := n4_; have BK531 := n5_; have HB := n6_; clear n0_ n1_ n2_ n3_ n4_ n5_ n6_; (try clear hb); (try clear hb2); (try clear hk); (try clear hi); (try clear ho0); obtain ⟨Ao36, co36, eo36⟩ := Kd.R_slice HO551.out; subst eo36) | (go_at_call 46; (with_reducible refine (impl_DoubleLabel.calls kj20 _ _ t549 t552 t553 _ ?side1 ?side2 A32.out).mono ?_); (case side1 => exact cq (Kd.R_reads' HO551.out).2.2); (case side2 => exact (Kd.R_reads' HO551.out).2.1); rintro e w37 ⟨v554, rfl, ho0, hb⟩; have n0_ := A_ (Kd.R_elder' (rq HO_4) (Kd.R_base ho0) hb); have n1_ := A_ (Kd.R_elder' (rq HO_5) (Kd.R_base ho0) hb); have n2_ := A_ (Kd.R_elder' (rq HO_10) (Kd.R_base ho0) hb); have n3_ := A_ (Kd.R_elder' (rq HO_12) (Kd.R_base ho0) hb); have n4_ := A_ (Kd.R_elder' (rq HO551) (Kd.R_base ho0) hb); have n5_ := A_ (Kd.R_lower (Kd.R_new' (Kd.R_new' (Kd.R_new' (Kd.R_new' (Kd.R_new' ho0 (Kd.R_lt (rq HO_4))) (Kd.R_lt (rq HO_5))) (Kd.R_lt (rq HO_10))) (Kd.R_lt (rq HO_12))) (Kd.R_lt (rq HO551))) (below_size (hq HB))); have n6_ := A_ (blk_below (bq BK531) hb); have n7_ := A_ (below_step (hq HB) hb); clear HO_4; clear HO_5; clear HO_10; clear HO_12; clear HO551; clear BK531; clear HB; have HO_4 := n0_; have HO_5 := n1_; have HO_10 := n2_; have HO_12 := n3_; have HO551 := n4_; have HO555 := n5_; have BK531 := n6_; have HB := n7_; clear n0_ n1_ n2_ n3_ n4_ n5_ n6_ n7_; (try clear hb); (try clear hb2); (try clear hk); (try clear hi); (try clear ho0)) | (go_at_call 47; (with_reducible refine (spec_DoubleLabel.calls kj20 _ _ t549 t556 t557 _ ?side1 ?side2 A33.out).mono ?_); (case side1 => exact cq (Kd.R_reads' HO551.out).2.2); (case side2 => exact (Kd.R_reads' HO551.out).2.1); rintro e w38 ⟨v558, rfl, ho0, hb⟩; have n0_ := A_ (Kd.R_elder' (rq HO_4) (Kd.R_base ho0) hb); have n1_ := A_ (Kd.R_elder' (rq HO_5) (Kd.R_base ho0) hb); have n2_ := A_ (Kd.R_elder' (rq HO_10) (Kd.R_base ho0) hb); have n3_ := A_ (Kd.R_elder' (rq HO_12) (Kd.R_base ho0) hb); have n4_ := A_ (Kd.R_elder' (rq HO551) (Kd.R_base ho0) hb); have n5_ := A_ (Kd.R_elder' (rq HO555) (Kd.R_base ho0) hb); have n6_ := A_ (Kd.R_lower (Kd.R_new' (Kd.R_new' (Kd.R_new' (Kd.R_new' (Kd.R_new' (Kd.R_new' ho0 (Kd.R_lt (rq HO_4))) (Kd.R_lt (rq HO_5))) (Kd.R_lt (rq HO_10))) (Kd.R_lt (rq HO_12))) (Kd.R_lt (rq HO551))) (Kd.R_lt (rq HO555))) (below_size (hq HB))); have n7_ := A_ (blk_below (bq BK531) hb); have n8_ := A_ (below_step (hq HB) hb); clear HO_4; clear HO_5; clear HO_10; clear HO_12; clear HO551; clear HO555; clear BK531; clear HB; have HO_4 := n0_; have HO_5 := n1_; have HO_10 := n2_; have HO_12 := n3_; have HO551 := n4_; have HO555 := n5_; have HO559 := n6_; have BK531 := n7_; have HB := n8_; clear n0_ n1_ n2_ n3_ n4_ n5_ n6_ n7_ n8_; (try clear hb); (try clear hb2); (try clear hk); (try clear hi); (try clear ho0)))
          repeat (go_quiet (first | (go_at_call 45; (with_reducible refine (spec_DrawDoubleLabel.calls kj20 _ _ l0 t549 _ ?side1 ?side2 A31.out).mono ?_); (case side1 => exact cq (Kd.C_below HR0.out HB.out)); (case side2 => exact HC0.out); rintro e w35 ⟨v550, rfl, ho0, hb⟩; have n0_ := A_ (Kd.R_elder' (rq HO_4) (Kd.R_base ho0) hb); have n1_ := A_ (Kd.R_elder' (rq HO_5) (Kd.R_base ho0) hb); have n2_ := A_ (Kd.R_elder' (rq HO_10) (Kd.R_base ho0) hb); have n3_ := A_ (Kd.R_elder' (rq HO_12) (Kd.R_base ho0) hb); have n4_ := A_ (Kd.R_lower (Kd.R_new' (Kd.R_new' (Kd.R_new' (Kd.R_new' ho0 (Kd.R_lt (rq HO_4))) (Kd.R_lt (rq HO_5))) (Kd.R_lt (rq HO_10))) (Kd.R_lt (rq HO_12))) (below_size (hq HB))); have n5_ := A_ (blk_below (bq BK531) hb); have n6_ := A_ (below_step (hq HB) hb); clear HO_4; clear HO_5; clear HO_10; clear HO_12; clear BK531; clear HB; have HO_4 := n0_; have HO_5 := n1_; have HO_10 := n2_; have HO_12 := n3_; have HO551 := n4_; have BK531 := n5_; have HB := n6_; clear n0_ n1_ n2_ n3_ n4_ n5_ n6_; (try clear hb); (try clear hb2); (try clear hk); (try clear hi); (try clear ho0); obtain ⟨Ao36, co36, eo36⟩ := Kd.R_slice HO551.out; subst eo36) | (go_at_call 46; (with_reducible refine (impl_DoubleLabel.calls kj20 _ _ t549 t552 t553 _ ?side1 ?side2 A32.out).mono ?_); (case side1 => exact cq (Kd.R_reads' HO551.out).2.2); (case side2 => exact (Kd.R_reads' HO551.out).2.1); rintro e w37 ⟨v554, rfl, ho0, hb⟩; have n0_ := A_ (Kd.R_elder' (rq HO_4) (Kd.R_base ho0) hb); have n1_ := A_ (Kd.R_elder' (rq HO_5) (Kd.R_base ho0) hb); have n2_ := A_ (Kd.R_elder' (rq HO_10) (Kd.R_base ho0) hb); have n3_ := A_ (Kd.R_elder' (rq HO_12) (Kd.R_base ho0) hb); have n4_ := A_ (Kd.R_elder' (rq HO551) (Kd.R_base ho0) hb); have n5_ := A_ (Kd.R_lower (Kd.R_new' (Kd.R_new' (Kd.R_new' (Kd.R_new' (Kd.R_new' ho0 (Kd.R_lt (rq HO_4))) (Kd.R_lt (rq HO_5))) (Kd.R_lt (rq HO_10))) (Kd.R_lt (rq HO_12))) (Kd.R_lt (rq HO551))) (below_size (hq HB))); have n6_ := A_ (blk_below (bq BK531) hb); have n7_ := A_ (below_step (hq HB) hb); clear HO_4; clear HO_5; clear HO_10; clear HO_12; clear HO551; clear BK531; clear HB; have HO_4 := n0_; have HO_5 := n1_; have HO_10 := n2_; have HO_12 := n3_; have HO551 := n4_; have HO555 := n5_; have BK531 := n6_; have HB := n7_; clear n0_ n1_ n2_ n3_ n4_ n5_ n6_ n7_; (try clear hb); (try clear hb2); (try clear hk); (try clear hi); (try clear ho0)) | (go_at_call 47; (with_reducible refine (spec_DoubleLabel.calls kj20 _ _ t549 t556 t557 _ ?side1 ?side2 A33.out).mono ?_); (case side1 => exact cq (Kd.R_reads' HO551.out).2.2); (case side2 => exact (Kd.R_reads' HO551.out).2.1); rintro e w38 ⟨v558, rfl, ho0, hb⟩; have n0_ := A_ (Kd.R_elder' (rq HO_4) (Kd.R_base ho0) hb); have n1_ := A_ (Kd.R_elder' (rq HO_5) (Kd.R_base ho0) hb); have n2_ := A_ (Kd.R_elder' (rq HO_10) (Kd.R_base ho0) hb); have n3_ := A_ (Kd.R_elder' (rq HO_12) (Kd.R_base ho0) hb); have n4_ := A_ (Kd.R_elder' (rq HO551) (Kd.R_base ho0) hb); have n5_ := A_ (Kd.R_elder' (rq HO555) (Kd.R_base ho0) hb); have n6_ := A_ (Kd.R_lower (Kd.R_new' (Kd.R_new' (Kd.R_new' (Kd.R_new' (Kd.R_new' (Kd.R_new' ho0 (Kd.R_lt (rq HO_4))) (Kd.R_lt (rq HO_5))) (Kd.R_lt (rq HO_10))) (Kd.R_lt (rq HO_12))) (Kd.R_lt (rq HO551))) (Kd.R_lt (rq HO555))) (below_size (hq HB))); have n7_ := A_ (blk_below (bq BK531) hb); have n8_ := A_ (below_step (hq HB) hb); clear HO_4; clear HO_5; clear HO_10; clear HO_12; clear HO551; clear HO555; clear BK531; clear HB; have HO_4 := n0_; have HO_5 := n1_; have HO_10 := n2_; have HO_12 := n3_; have HO551 := n4_; have HO555 := n5_; have HO559 := n6_; have BK531 := n7_; have HB := n8_; clear n0_ n1_ n2_ n3_ n4_ n5_ n6_ n7_ n8_; (try clear hb); (try clear hb2); (try clear hk); (try clear hi); (try clear ho0))); go_upto_region 16 with (first | (go_at_call 45; (with_reducible refine (spec_DrawDoubleLabel.calls kj20 _ _ l0 t549 _ ?side1 ?side2 A31.out).mono ?_); (case side1 => exact cq (Kd.C_below HR0.out HB.out)); (case side2 => exact HC0.out); rintro e w35 ⟨v550, rfl, ho0, hb⟩; have n0_ := A_ (Kd.R_elder' (rq HO_4) (Kd.R_base ho0) hb); have n1_ := A_ (Kd.R_elder' (rq HO_5) (Kd.R_base ho0) hb); have n2_ := A_ (Kd.R_elder' (rq HO_10) (Kd.R_base ho0) hb); have n3_ := A_ (Kd.R_elder' (rq HO_12) (Kd.R_base ho0) hb); have n4_ := A_ (Kd.R_lower (Kd.R_new' (Kd.R_new' (Kd.R_new' (Kd.R_new' ho0 (Kd.R_lt (rq HO_4))) (Kd.R_lt (rq HO_5))) (Kd.R_lt (rq HO_10))) (Kd.R_lt (rq HO_12))) (below_size (hq HB))); have n5_ := A_ (blk_below (bq BK531) hb); have n6_ := A_ (below_step (hq HB) hb); clear HO_4; clear HO_5; clear HO_10; clear HO_12; clear BK531; clear HB; have HO_4 := n0_; have HO_5 := n1_; have HO_10 := n2_; have HO_12 := n3_; have HO551 := n4_; have BK531 := n5_; have HB := n6_; clear n0_ n1_ n2_ n3_ n4_ n5_ n6_; (try clear hb); (try clear hb2); (try clear hk); (try clear hi); (try clear ho0); obtain ⟨Ao36, co36, eo36⟩ := Kd.R_slice HO551.out; subst eo36) | (go_at_call 46; (with_reducible refine (impl_DoubleLabel.calls kj20 _ _ t549 t552 t553 _ ?side1 ?side2 A32.out).mono ?_); (case side1 => exact cq (Kd.R_reads' HO551.out).2.2); (case side2 => exact (Kd.R_reads' HO551.out).2.1); rintro e w37 ⟨v554, rfl, ho0, hb⟩; have n0_ := A_ (Kd.R_elder' (rq HO_4) (Kd.R_base ho0) hb); have n1_ := A_ (Kd.R_elder' (rq HO_5) (Kd.R_base ho0) hb); have n2_ := A_ (Kd.R_elder' (rq HO_10) (Kd.R_base ho0) hb); have n3_ := A_ (Kd.R_elder' (rq HO_12) (Kd.R_base ho0) hb); have n4_ := A_ (Kd.R_elder' (rq HO551) (Kd.R_base ho0) hb); have n5_ := A_ (Kd.R_lower (Kd.R_new' (Kd.R_new' (Kd.R_new' (Kd.R_new' (Kd.R_new' ho0 (Kd.R_lt (rq HO_4))) (Kd.R_lt (rq HO_5))) (Kd.R_lt (rq HO_10))) (Kd.R_lt (rq HO_12))) (Kd.R_lt (rq HO551))) (below_size (hq HB))); have n6_ := A_ (blk_below (bq BK531) hb); have n7_ := A_ (below_step (hq HB) hb); clear HO_4; clear HO_5; clear HO_10; clear HO_12; clear HO551; clear BK531; clear HB; have HO_4 := n0_; have HO_5 := n1_; have HO_10 := n2_; have HO_12 := n3_; have HO551 := n4_; have HO555 := n5_; have BK531 := n6_; have HB := n7_; clear n0_ n1_ n2_ n3_ n4_ n5_ n6_ n7_; (try clear hb); (try clear hb2); (try clear hk); (try clear hi); (try clear ho0)) | (go_at_call 47; (with_reducible refine (spec_DoubleLabel.calls kj20 _ _ t549 t556 t557 _ ?side1 ?side2 A33.out).mono ?_); (case side1 => exact cq (Kd.R_reads' HO551.out).2.2); (case side2 => exact (Kd.R_reads' HO551.out).2.1); rintro e w38 ⟨v558, rfl, ho0, hb⟩; have n0_ := A_ (Kd.R_elder' (rq HO_4) (Kd.R_base ho0) hb); have n1_ := A_ (Kd.R_elder' (rq HO_5) (Kd.R_base ho0) hb); have n2_ := A_ (Kd.R_elder' (rq HO_10) (Kd.R_base ho0) hb); have n3_ := A_ (Kd.R_elder' (rq HO_12) (Kd.R_base ho0) hb); have n4_ := A_ (Kd.R_elder' (rq HO551) (Kd.R_base ho0) hb); have n5_ := A_ (Kd.R_elder' (rq HO555) (Kd.R_base ho0) hb); have n6_ := A_ (Kd.R_lower (Kd.R_new' (Kd.R_new' (Kd.R_new' (Kd.R_new' (Kd.R_new' (Kd.R_new' ho0 (Kd.R_lt (rq HO_4))) (Kd.R_lt (rq HO_5))) (Kd.R_lt (rq HO_10))) (Kd.R_lt (rq HO_12))) (Kd.R_lt (rq HO551))) (Kd.R_lt (rq HO555))) (below_size (hq HB))); have n7_ := A_ (blk_below (bq BK531) hb); have n8_ := A_ (below_step (hq HB) hb); clear HO_4; clear HO_5; clear HO_10; clear HO_12; clear HO551; clear HO555; clear BK531; clear HB; have HO_4 := n0_; have HO_5 := n1_; have HO_10 := n2_; have HO_12 := n3_; have HO551 := n4_; have HO555 := n5_; have HO559 := n6_; have BK531 := n7_; have HB := n8_; clear n0_ n1_ n2_ n3_ n4_ n5_ n6_ n7_ n8_; (try clear hb); (try clear hb2); (try clear hk); (try clear hi); (try clear ho0))))
          (try simp only [Act.put, List.setIfInBounds_toArray, List.set_cons_zero, List.set_cons_succ])
          go_cut [104] (fun v104 wc => ∃ (kq : Nat) (x104_33 : Bool), v104 = .bool x104_33 ∧ Aside0 (laws_FnLabels.j2 kq t525 t528 t532 t533 t536 t537 t540 t541 t549 t552 t553 x104_33 t523 t524 = some r) ∧ Aside0 (kq ≤ kj20) ∧ Aside0 (Kd.R (Kd.int .i64) 3 wc w.heap.size (fun k_ => some k_ ≠ ((.slice Ao12 t528.length co12) : Value).ownBlock ∧ some k_ ≠ ((.slice Ao23 t536.length co23) : Value).ownBlock ∧ some k_ ≠ (v542 : Value).ownBlock ∧ some k_ ≠ ((.slice Ao36 t549.length co36) : Value).ownBlock ∧ some k_ ≠ (v554 : Value).ownBlock) (.slice Ao11 t525.length co11) t525) ∧ Aside0 (Kd.R (Kd.int .i64) 3 wc w.heap.size (fun k_ => some k_ ≠ ((.slice Ao11 t525.length co11) : Value).ownBlock ∧ some k_ ≠ ((.slice Ao23 t536.length co23) : Value).ownBlock ∧ some k_ ≠ (v542 : Value).ownBlock ∧ some k_ ≠ ((.slice Ao36 t549.length co36) : Value).ownBlock ∧ some k_ ≠ (v554 : Value).ownBlock) (.slice Ao12 t528.length co12) t528) ∧ Aside0 (Kd.R (Kd.int .i64) 3 wc w.heap.size (fun k_ => some k_ ≠ ((.slice Ao11 t525.length co11) : Value).ownBlock ∧ some k_ ≠ ((.slice Ao12 t528.length co12) : Value).ownBlock ∧ some k_ ≠ (v542 : Value).ownBlock ∧ some k_ ≠ ((.slice Ao36 t549.length co36) : Value).ownBlock ∧ some k_ ≠ (v554 : Value).ownBlock) (.slice Ao23 t536.length co23) t536) ∧ Aside0 (Kd.R (Kd.int .i64) 3 wc w.heap.size (fun k_ => some k_ ≠ ((.slice Ao11 t525.length co11) : Value).ownBlock ∧ some k_ ≠ ((.slice Ao12 t528.length co12) : Value).ownBlock ∧ some k_ ≠ ((.slice Ao23 t536.length co23) : Value).ownBlock ∧ some k_ ≠ ((.slice Ao36 t549.length co36) : Value).ownBlock ∧ some k_ ≠ (v554 : Value).ownBlock) v542 t540) ∧ Aside0 (Kd.R (Kd.int .i64) 3 wc w.heap.size (fun k_ => some k_ ≠ ((.slice Ao11 t525.length co11) : Value).ownBlock ∧ some k_ ≠ ((.slice Ao12 t528.length co12) : Value).ownBlock ∧ some k_ ≠ ((.slice Ao23 t536.length co23) : Value).ownBlock ∧ some k_ ≠ (v542 : Value).ownBlock ∧ some k_ ≠ (v554 : Value).ownBlock) (.slice Ao36 t549.length co36) t549) ∧ Aside0 (Kd.R (Kd.int .i64) 3 wc w.heap.size (fun k_ => some k_ ≠ ((.slice Ao11 t525.length co11) : Value).ownBlock ∧ some k_ ≠ ((.slice Ao12 t528.length co12) : Value).ownBlock ∧ some k_ ≠ ((.slice Ao23 t536.length co23) : Value).ownBlock ∧ some k_ ≠ (v542 : Value).ownBlock ∧ some k_ ≠ ((.slice Ao36 t549.length co36) : Value).ownBlock) v554 t552) ∧ Aside0 (wc.heap[gb531]? = some (.cells #[.int .i64 t523, .bool t524] 25 (0, 0))) ∧ Aside0 (Below w.heap.size w wc))
          case first =>
           as_aux_lemma =>
            have H := HC34.out
            clear HC34
            by_cases c39 : (t553 != t557) = true
            ·
             rw [if_pos c39] at H
             have c39b0 : (t553 != t557) = true := c39
             (try (have c39b1 : decide (t553 = t557) = false := by simpa using c39))
             (try (have c39b2 : (t553 == t557) = false := by simpa using c39))
             (try (have c39b3 : ¬ (t553 = t557) := by simpa using c39))
             clear c39
             (first | rw [c39b0] | (simp only [i64_w, i32_w]; rw [c39b0]) | skip)
             have H' := A_ H
             clear H
             go_wp2
             repeat (go_quiet (fail); try go_wp2)
             go_meet
             case rel => exact ⟨_, (true), (by first | rfl | (simp; done) | (simp [*]; done)), H', ⟨by have := HJ6.out; have := HJ20.out; first | omega | exact Nat.le_refl _⟩, ⟨by (with_reducible repeat (first | apply Kd.R_alloc | apply Kd.R_drewN | apply Kd.R_drew)); exact Kd.R_mono HO_4.out (fun _ hk => ⟨hk.1.1.1.1, ⟨hk.1.1.1.2.1, ⟨hk.1.1.1.2.2, ⟨hk.1.1.2, hk.1.2⟩⟩⟩⟩)⟩, ⟨by (with_reducible repeat (first | apply Kd.R_alloc | apply Kd.R_drewN | apply Kd.R_drew)); exact Kd.R_mono HO_5.out (fun _ hk => ⟨hk.1.1.1.1, ⟨hk.1.1.1.2.1, ⟨hk.1.1.1.2.2, ⟨hk.1.1.2, hk.1.2⟩⟩⟩⟩)⟩, ⟨by (with_reducible repeat (first | apply Kd.R_alloc | apply Kd.R_drewN | apply Kd.R_drew)); exact Kd.R_mono HO_10.out (fun _ hk => ⟨hk.1.1.1.1, ⟨hk.1.1.1.2.1, ⟨hk.1.1.1.2.2, ⟨hk.1.1.2, hk.1.2⟩⟩⟩⟩)⟩, ⟨by (with_reducible repeat (first | apply Kd.R_alloc | apply Kd.R_drewN | apply Kd.R_drew)); exact Kd.R_mono HO_12.out (fun _ hk => ⟨hk.1.1.1.1, ⟨hk.1.1.1.2.1, ⟨hk.1.1.1.2.2, ⟨hk.1.1.2, hk.1.2⟩⟩⟩⟩)⟩, ⟨by (with_reducible repeat (first | apply Kd.R_alloc | apply Kd.R_drewN | apply Kd.R_drew)); exact Kd.R_mono HO551.out (fun _ hk => ⟨hk.1.1.1.1.1.2, ⟨hk.1.1.1.1.2, ⟨hk.1.1.1.2, ⟨hk.1.1.2, hk.1.2⟩⟩⟩⟩)⟩, ⟨by (with_reducible repeat (first | apply Kd.R_alloc | apply Kd.R_drewN | apply Kd.R_drew)); exact Kd.R_mono HO555.out (fun _ hk => ⟨hk.1.1.1.1.1.2, ⟨hk.1.1.1.1.2, ⟨hk.1.1.1.2, ⟨hk.1.1.2, hk.1.2⟩⟩⟩⟩)⟩, ⟨bq BK531⟩, ⟨hq HB⟩⟩
            ·
             as_aux_lemma =>
              rw [if_neg c39] at H
              have c39b0 : (t553 != t557) = false := by simpa using c39
              (try (have c39b1 : decide (t553 = t557) = true := by simpa using c39))
              (try (have c39b2 : (t553 == t557) = true := by simpa using c39))
              clear c39
              (first | rw [c39b0] | (simp only [i64_w, i32_w]; rw [c39b0]) | skip)
              replace H := Option.bind_eq_some_iff.mp H
              obtain ⟨t560, A400, H⟩ := H
              replace H : (laws_FnLabels.j2 kj20 t525 t528 t532 t533 t536 t537 t540 t541 t549 t552 t553 (!t560) t523 t524) = some r := H
              have A40 := A_ A400
              clear A400
              have H' := A_ H
              clear H
              obtain ⟨Ao41, co41, eo41⟩ := Kd.R_slice HO555.out
              subst eo41
              obtain ⟨Ao42, co42, eo42⟩ := Kd.R_slice HO559.out
              subst eo42
              go_wp2_with (first | (go_at_call 10; (with_reducible refine (laws_rInts.calls kj20 _ _ t552 _ _ t556 t560 _ ?side1 ?side2 ?side3 ?side4 A40.out).mono ?_); (case side1 => exact cq (Kd.R_reads' HO555.out).2.2); (case side2 => exact (Kd.R_reads' HO555.out).2.1); (case side3 => exact cq (Kd.R_reads' HO559.out).2.2); (case side4 => exact (Kd.R_reads' HO559.out).2.1); rintro e w' ⟨rfl, ⟨nd, rfl⟩⟩; (try first | exact ⟨rfl, _, World.drewN_drewN _ _ _⟩ | exact ⟨rfl, _, Eq.trans (World.drewN_drewN _ _ _) (congrArg (World.drewN _) (Nat.add_assoc _ _ _))⟩)))
              repeat (go_quiet (first | (go_at_call 10; (with_reducible refine (laws_rInts.calls kj20 _ _ t552 _ _ t556 t560 _ ?side1 ?side2 ?side3 ?side4 A40.out).mono ?_); (case side1 => exact cq (Kd.R_reads' HO555.out).2.2); (case side2 => exact (Kd.R_reads' HO555.out).2.1); (case side3 => exact cq (Kd.R_reads' HO559.out).2.2); (case side4 => exact (Kd.R_reads' HO559.out).2.1); rintro e w' ⟨rfl, ⟨nd, rfl⟩⟩; (try first | exact ⟨rfl, _, World.drewN_drewN _ _ _⟩ | exact ⟨rfl, _, Eq.trans (World.drewN_drewN _ _ _) (congrArg (World.drewN _) (Nat.add_assoc _ _ _))⟩))); try go_wp2_with (first | (go_at_call 10; (with_reducible refine (laws_rInts.calls kj20 _ _ t552 _ _ t556 t560 _ ?side1 ?side2 ?side3 ?side4 A40.out).mono ?_); (case side1 => exact cq (Kd.R_reads' HO555.out).2.2); (case side2 => exact (Kd.R_reads' HO555.out).2.1); (case side3 => exact cq (Kd.R_reads' HO559.out).2.2); (case side4 => exact (Kd.R_reads' HO559.out).2.1); rintro e w' ⟨rfl, ⟨nd, rfl⟩⟩; (try first | exact ⟨rfl, _, World.drewN_drewN _ _ _⟩ | exact ⟨rfl, _, Eq.trans (World.drewN_drewN _ _ _) (congrArg (World.drewN _) (Nat.add_assoc _ _ _))⟩))))
              go_meet
              case rel => exact ⟨_, (!t560), (by first | rfl | (simp; done) | (simp [*]; done)), H', ⟨by have := HJ6.out; have := HJ20.out; first | omega | exact Nat.le_refl _⟩, ⟨by (with_reducible repeat (first | apply Kd.R_alloc | apply Kd.R_drewN | apply Kd.R_drew)); exact Kd.R_mono HO_4.out (fun _ hk => ⟨hk.1.1.1.1, ⟨hk.1.1.1.2.1, ⟨hk.1.1.1.2.2, ⟨hk.1.1.2, hk.1.2⟩⟩⟩⟩)⟩, ⟨by (with_reducible repeat (first | apply Kd.R_alloc | apply Kd.R_drewN | apply Kd.R_drew)); exact Kd.R_mono HO_5.out (fun _ hk => ⟨hk.1.1.1.1, ⟨hk.1.1.1.2.1, ⟨hk.1.1.1.2.2, ⟨hk.1.1.2, hk.1.2⟩⟩⟩⟩)⟩, ⟨by (with_reducible repeat (first | apply Kd.R_alloc | apply Kd.R_drewN | apply Kd.R_drew)); exact Kd.R_mono HO_10.out (fun _ hk => ⟨hk.1.1.1.1, ⟨hk.1.1.1.2.1, ⟨hk.1.1.1.2.2, ⟨hk.1.1.2, hk.1.2⟩⟩⟩⟩)⟩, ⟨by (with_reducible repeat (first | apply Kd.R_alloc | apply Kd.R_drewN | apply Kd.R_drew)); exact Kd.R_mono HO_12.out (fun _ hk => ⟨hk.1.1.1.1, ⟨hk.1.1.1.2.1, ⟨hk.1.1.1.2.2, ⟨hk.1.1.2, hk.1.2⟩⟩⟩⟩)⟩, ⟨by (with_reducible repeat (first | apply Kd.R_alloc | apply Kd.R_drewN | apply Kd.R_drew)); exact Kd.R_mono HO551.out (fun _ hk => ⟨hk.1.1.1.1.1.2, ⟨hk.1.1.1.1.2, ⟨hk.1.1.1.2, ⟨hk.1.1.2, hk.1.2⟩⟩⟩⟩)⟩, ⟨by (with_reducible repeat (first | apply Kd.R_alloc | apply Kd.R_drewN | apply Kd.R_drew)); exact Kd.R_mono HO555.out (fun _ hk => ⟨hk.1.1.1.1.1.2, ⟨hk.1.1.1.1.2, ⟨hk.1.1.1.2, ⟨hk.1.1.2, hk.1.2⟩⟩⟩⟩)⟩, ⟨bq BK531⟩, ⟨hq HB⟩⟩
          case rest =>
           as_aux_lemma =>
            clear HC34
            try clear c1
            try clear c2
            try clear p2
            try clear c3
            try clear c5
            try clear c16
            try clear c16b0
            try clear c16b1
            try clear c17
            try clear c26
            try clear c26b0
            try clear c26b1
            try clear c26b2
            try clear c30
            try clear c39
            try clear c39b0
            try clear c39b1
            try clear c39b2
            try clear hcz10_0
            try clear hcz10_1
            try clear hcz14_0
            try clear hcz14_1
            try clear hfz10_0
            try clear hfz10_1
            try clear hfz14_0
            try clear hfz14_1
            try clear p2
            obtain ⟨kq, x104_33, rfl, HA, HJ33, HO_4, HO_5, HO_10, HO_12, HO_16, HO_17, BK531, HB⟩ := hcut
            cases kq with
            | zero => exact absurd HA.out (by simp [laws_FnLabels.j2])
            | succ kj33 =>
             have H := HA.out
             clear HA
             simp only [laws_FnLabels.j2] at H
             by_cases c43 : x104_33 = true
             ·
              subst c43
              have H1 : (some false) = some r := by rw [if_pos rfl] at H; exact H
              clear H
              have H := H1
              clear H1
              obtain rfl := Option.some.inj H
              exact absurd hr_ (by decide)
             ·
              replace c43 := Bool.eq_false_iff.mpr c43
              subst c43
              have H1 : (if t541 = true then (if (t540.length : Int) = (wrap64 (t537 * (t536.length : Int))) then ((laws_rSum.f kj33 t540).bind fun t561 => ((laws_rSum.f kj33 t536).bind fun t562 => (laws_FnLabels.j3 kj33 t525 t528 t532 t533 t549 t552 t553 (t561 != (wrap64 (t537 * t562))) t523 t524))) else (laws_FnLabels.j3 kj33 t525 t528 t532 t533 t549 t552 t553 true t523 t524)) else (laws_FnLabels.j3 kj33 t525 t528 t532 t533 t549 t552 t553 false t523 t524)) = some r := by rw [if_neg (show ¬ (false = true) by decide)] at H; exact H
              clear H
              have H := H1
              clear H1
              have HC44 := A_ H
              clear H
              go_upto_region 18 with (fail)
              repeat (go_quiet (fail); go_upto_region 18 with (fail))
              go_cut [123] (fun v123 wc => ∃ (kq : Nat) (x123_43 : Bool), v123 = .bool x123_43 ∧ Aside0 (laws_FnLabels.j3 kq t525 t528 t532 t533 t549 t552 t553 x123_43 t523 t524 = some r) ∧ Aside0 (kq ≤ kj33) ∧ Aside0 (Kd.R (Kd.int .i64) 3 wc w.heap.size (fun k_ => some k_ ≠ ((.slice Ao12 t528.length co12) : Value).ownBlock ∧ some k_ ≠ ((.slice Ao36 t549.length co36) : Value).ownBlock ∧ some k_ ≠ (v554 : Value).ownBlock) (.slice Ao11 t525.length co11) t525) ∧ Aside0 (Kd.R (Kd.int .i64) 3 wc w.heap.size (fun k_ => some k_ ≠ ((.slice Ao11 t525.length co11) : Value).ownBlock ∧ some k_ ≠ ((.slice Ao36 t549.length co36) : Value).ownBlock ∧ some k_ ≠ (v554 : Value).ownBlock) (.slice Ao12 t528.length co12) t528) ∧ Aside0 (Kd.R (Kd.int .i64) 3 wc w.heap.size (fun k_ => some k_ ≠ ((.slice Ao11 t525.length co11) : Value).ownBlock ∧ some k_ ≠ ((.slice Ao12 t528.length co12) : Value).ownBlock ∧ some k_ ≠ (v554 : Value).ownBlock) (.slice Ao36 t549.length co36) t549) ∧ Aside0 (Kd.R (Kd.int .i64) 3 wc w.heap.size (fun k_ => some k_ ≠ ((.slice Ao11 t525.length co11) : Value).ownBlock ∧ some k_ ≠ ((.slice Ao12 t528.length co12) : Value).ownBlock ∧ some k_ ≠ ((.slice Ao36 t549.length co36) : Value).ownBlock) v554 t552) ∧ Aside0 (wc.heap[gb531]? = some (.cells #[.int .i64 t523, .bool t524] 25 (0, 0))) ∧ Aside0 (Below w.heap.size w wc))
              case first =>
               as_aux_lemma =>
                have H := HC44.out
                clear HC44
                by_cases c45 : t541 = true
                ·
                 as_aux_lemma =>
                  subst c45
                  have H1 : (if (t540.length : Int) = (wrap64 (t537 * (t536.length : Int))) then ((laws_rSum.f kj33 t540).bind fun t561 => ((laws_rSum.f kj33 t536).bind fun t562 => (laws_FnLabels.j3 kj33 t525 t528 t532 t533 t549 t552 t553 (t561 != (wrap64 (t537 * t562))) t523 t524))) else (laws_FnLabels.j3 kj33 t525 t528 t532 t533 t549 t552 t553 true t523 t524)) = some r := by rw [if_pos rfl] at H; exact H
                  clear H
                  have H := H1
                  clear H1
                  by_cases c46 : (t540.length : Int) = (wrap64 (t537 * (t536.length : Int)))
                  ·
                   rw [if_pos c46] at H
                   have c46b0 : ((t540.length : Int) == (wrap64 (t537 * (t536.length : Int)))) = true := beq_iff_eq.mpr c46
                   have c46b1 : ((t540.length : Int) != (wrap64 (t537 * (t536.length : Int)))) = false := bne_eq_false_iff_eq.mpr c46
                   clear c46
                   (first | rw [c46b0] | (simp only [i64_w, i32_w]; rw [c46b0]) | skip)
                   replace H := Option.bind_eq_some_iff.mp H
                   obtain ⟨t561, A470, H⟩ := H
                   replace H : ((laws_rSum.f kj33 t536).bind fun t562 => (laws_FnLabels.j3 kj33 t525 t528 t532 t533 t549 t552 t553 (t561 != (wrap64 (t537 * t562))) t523 t524)) = some r := H
                   have A47 := A_ A470
                   clear A470
                   replace H := Option.bind_eq_some_iff.mp H
                   obtain ⟨t562, A480, H⟩ := H
                   replace H : (laws_FnLabels.j3 kj33 t525 t528 t532 t533 t549 t552 t553 (t561 != (wrap64 (t537 * t562))) t523 t524) = some r := H
                   have A48 := A_ A480
                   clear A480
                   have H' := A_ H
                   clear H
                   obtain ⟨Ao49, co49, eo49⟩ := Kd.R_slice HO_12.out
                   subst eo49
                   go_wp2_with (first | (go_at_call 48; (with_reducible refine (laws_rSum.calls kj33 _ _ t540 t561 _ ?side1 ?side2 A47.out).mono ?_); (case side1 => exact cq (Kd.R_reads' HO_12.out).2.2); (case side2 => exact (Kd.R_reads' HO_12.out).2.1); rintro e w' ⟨rfl, ⟨nd, rfl⟩⟩; (try first | exact ⟨rfl, _, World.drewN_drewN _ _ _⟩ | exact ⟨rfl, _, Eq.trans (World.drewN_drewN _ _ _) (congrArg (World.drewN _) (Nat.add_assoc _ _ _))⟩)) | (go_at_call 48; (with_reducible refine (laws_rSum.calls kj33 _ _ t536 t562 _ ?side1 ?side2 A48.out).mono ?_); (case side1 => exact cq (Kd.R_reads' HO_10.out).2.2); (case side2 => exact (Kd.R_reads' HO_10.out).2.1); rintro e w' ⟨rfl, ⟨nd, rfl⟩⟩; (try first | exact ⟨rfl, _, World.drewN_drewN _ _ _⟩ | exact ⟨rfl, _, Eq.trans (World.drewN_drewN _ _ _) (congrArg (World.drewN _) (Nat.add_assoc _ _ _))⟩)))
                   repeat (go_quiet (first | (go_at_call 48; (with_reducible refine (laws_rSum.calls kj33 _ _ t540 t561 _ ?side1 ?side2 A47.out).mono ?_); (case side1 => exact cq (Kd.R_reads' HO_12.out).2.2); (case side2 => exact (Kd.R_reads' HO_12.out).2.1); rintro e w' ⟨rfl, ⟨nd, rfl⟩⟩; (try first | exact ⟨rfl, _, World.drewN_drewN _ _ _⟩ | exact ⟨rfl, _, Eq.trans (World.drewN_drewN _ _ _) (congrArg (World.drewN _) (Nat.add_assoc _ _ _))⟩)) | (go_at_call 48; (with_reducible refine (laws_rSum.calls kj33 _ _ t536 t562 _ ?side1 ?side2 A48.out).mono ?_); (case side1 => exact cq (Kd.R_reads' HO_10.out).2.2); (case side2 => exact (Kd.R_reads' HO_10.out).2.1); rintro e w' ⟨rfl, ⟨nd, rfl⟩⟩; (try first | exact ⟨rfl, _, World.drewN_drewN _ _ _⟩ | exact ⟨rfl, _, Eq.trans (World.drewN_drewN _ _ _) (congrArg (World.drewN _) (Nat.add_assoc _ _ _))⟩))); try go_wp2_with (first | (go_at_call 48; (with_reducible refine (laws_rSum.calls kj33 _ _ t540 t561 _ ?side1 ?side2 A47.out).mono ?_); (case side1 => exact cq (Kd.R_reads' HO_12.out).2.2); (case side2 => exact (Kd.R_reads' HO_12.out).2.1); rintro e w' ⟨rfl, ⟨nd, rfl⟩⟩; (try first | exact ⟨rfl, _, World.drewN_drewN _ _ _⟩ | exact ⟨rfl, _, Eq.trans (World.drewN_drewN _ _ _) (congrArg (World.drewN _) (Nat.add_assoc _ _ _))⟩)) | (go_at_call 48; (with_reducible refine (laws_rSum.calls kj33 _ _ t536 t562 _ ?side1 ?side2 A48.out).mono ?_); (case side1 => exact cq (Kd.R_reads' HO_10.out).2.2); (case side2 => exact (Kd.R_reads' HO_10.out).2.1); rintro e w' ⟨rfl, ⟨nd, rfl⟩⟩; (try first | exact ⟨rfl, _, World.drewN_drewN _ _ _⟩ | exact ⟨rfl, _, Eq.trans (World.drewN_drewN _ _ _) (congrArg (World.drewN _) (Nat.add_assoc _ _ _))⟩))))
                   go_meet
                   case rel => exact ⟨_, ((t561 != (wrap64 (t537 * t562)))), (by first | rfl | (simp; done) | (simp [*]; done)), H', ⟨by have := HJ6.out; have := HJ20.out; have := HJ33.out; first | omega | exact Nat.le_refl _⟩, ⟨by (with_reducible repeat (first | apply Kd.R_alloc | apply Kd.R_drewN | apply Kd.R_drew)); exact Kd.R_mono HO_4.out (fun _ hk => ⟨hk.1, ⟨hk.2.2.2.1, hk.2.2.2.2⟩⟩)⟩, ⟨by (with_reducible repeat (first | apply Kd.R_alloc | apply Kd.R_drewN | apply Kd.R_drew)); exact Kd.R_mono HO_5.out (fun _ hk => ⟨hk.1, ⟨hk.2.2.2.1, hk.2.2.2.2⟩⟩)⟩, ⟨by (with_reducible repeat (first | apply Kd.R_alloc | apply Kd.R_drewN | apply Kd.R_drew)); exact Kd.R_mono HO_16.out (fun _ hk => ⟨hk.1, ⟨hk.2.1, hk.2.2.2.2⟩⟩)⟩, ⟨by (with_reducible repeat (first | apply Kd.R_alloc | apply Kd.R_drewN | apply Kd.R_drew)); exact Kd.R_mono HO_17.out (fun _ hk => ⟨hk.1, ⟨hk.2.1, hk.2.2.2.2⟩⟩)⟩, ⟨bq BK531⟩, ⟨hq HB⟩⟩
                  ·
                   rw [if_neg c46] at H
                   have c46b0 : ((t540.length : Int) == (wrap64 (t537 * (t536.length : Int)))) = false := beq_eq_false_iff_ne.mpr c46
                   have c46b1 : ((t540.length : Int) != (wrap64 (t537 * (t536.length : Int)))) = true := bne_iff_ne.mpr c46
                   (first | rw [c46b0] | (simp only [i64_w, i32_w]; rw [c46b0]) | skip)
                   have H' := A_ H
                   clear H
                   obtain ⟨Ao50, co50, eo50⟩ := Kd.R_slice HO_12.out
                   subst eo50
                   go_wp2
                   repeat (go_quiet (fail); try go_wp2)
                   go_meet
                   case rel => exact ⟨_, (true), (by first | rfl | (simp; done) | (simp [*]; done)), H', ⟨by have := HJ6.out; have := HJ20.out; have := HJ33.out; first | omega | exact Nat.le_refl _⟩, ⟨by (with_reducible repeat (first | apply Kd.R_alloc | apply Kd.R_drewN | apply Kd.R_drew)); exact Kd.R_mono HO_4.out (fun _ hk => ⟨hk.1, ⟨hk.2.2.2.1, hk.2.2.2.2⟩⟩)⟩, ⟨by (with_reducible repeat (first | apply Kd.R_alloc | apply Kd.R_drewN | apply Kd.R_drew)); exact Kd.R_mono HO_5.out (fun _ hk => ⟨hk.1, ⟨hk.2.2.2.1, hk.2.2.2.2⟩⟩)⟩, ⟨by (with_reducible repeat (first | apply Kd.R_alloc | apply Kd.R_drewN | apply Kd.R_drew)); exact Kd.R_mono HO_16.out (fun _ hk => ⟨hk.1, ⟨hk.2.1, hk.2.2.2.2⟩⟩)⟩, ⟨by (with_reducible repeat (first | apply Kd.R_alloc | apply Kd.R_drewN | apply Kd.R_drew)); exact Kd.R_mono HO_17.out (fun _ hk => ⟨hk.1, ⟨hk.2.1, hk.2.2.2.2⟩⟩)⟩, ⟨bq BK531⟩, ⟨hq HB⟩⟩
                ·
                 replace c45 := Bool.eq_false_iff.mpr c45
                 subst c45
                 have H1 : (laws_FnLabels.j3 kj33 t525 t528 t532 t533 t549 t552 t553 false t523 t524) = some r := by rw [if_neg (show ¬ (false = true) by decide)] at H; exact H
                 clear H
                 have H := H1
                 clear H1
                 have H' := A_ H
                 clear H
                 go_wp2
                 repeat (go_quiet (fail); try go_wp2)
                 go_meet
                 case rel => exact ⟨_, (false), (by first | rfl | (simp; done) | (simp [*]; done)), H', ⟨by have := HJ6.out; have := HJ20.out; have := HJ33.out; first | omega | exact Nat.le_refl _⟩, ⟨by (with_reducible repeat (first | apply Kd.R_alloc | apply Kd.R_drewN | apply Kd.R_drew)); exact Kd.R_mono HO_4.out (fun _ hk => ⟨hk.1, ⟨hk.2.2.2.1, hk.2.2.2.2⟩⟩)⟩, ⟨by (with_reducible repeat (first | apply Kd.R_alloc | apply Kd.R_drewN | apply Kd.R_drew)); exact Kd.R_mono HO_5.out (fun _ hk => ⟨hk.1, ⟨hk.2.2.2.1, hk.2.2.2.2⟩⟩)⟩, ⟨by (with_reducible repeat (first | apply Kd.R_alloc | apply Kd.R_drewN | apply Kd.R_drew)); exact Kd.R_mono HO_16.out (fun _ hk => ⟨hk.1, ⟨hk.2.1, hk.2.2.2.2⟩⟩)⟩, ⟨by (with_reducible repeat (first | apply Kd.R_alloc | apply Kd.R_drewN | apply Kd.R_drew)); exact Kd.R_mono HO_17.out (fun _ hk => ⟨hk.1, ⟨hk.2.1, hk.2.2.2.2⟩⟩)⟩, ⟨bq BK531⟩, ⟨hq HB⟩⟩
              case rest =>
               as_aux_lemma =>
                clear HC44
                try clear c1
                try clear c2
                try clear p2
                try clear c3
                try clear c4
                try clear c5
                try clear p6
                try clear c16
                try clear c16b0
                try clear c16b1
                try clear c17
                try clear c26
                try clear c26b0
                try clear c26b1
                try clear c26b2
                try clear c30
                try clear c39
                try clear c39b0
                try clear c39b1
                try clear c39b2
                try clear c43
                try clear c45
                try clear c46
                try clear c46b0
                try clear c46b1
                try clear hcz10_0
                try clear hcz10_1
                try clear hcz14_0
                try clear hcz14_1
                try clear hfz10_0
                try clear hfz10_1
                try clear hfz14_0
                try clear hfz14_1
                try clear p2
                obtain ⟨kq, x123_43, rfl, HA, HJ43, HO_4, HO_5, HO_16, HO_17, BK531, HB⟩ := hcut
                cases kq with
                | zero => exact absurd HA.out (by simp [laws_FnLabels.j3])
                | succ kj43 =>
                 have H := HA.out
                 clear HA
                 simp only [laws_FnLabels.j3] at H
                 by_cases c51 : x123_43 = true
                 ·
                  subst c51
                  have H1 : (some false) = some r := by rw [if_pos rfl] at H; exact H
                  clear H
                  have H := H1
                  clear H1
                  obtain rfl := Option.some.inj H
                  exact absurd hr_ (by decide)
                 ·
                  replace c51 := Bool.eq_false_iff.mpr c51
                  subst c51
                  have H1 : (if t553 = true then (laws_FnLabels.l0 kj43 t525 t528 t532 t533 t549 t552 (([(([0] : List Int)), (([1] : List Int)), (([0, 0] : List Int)), (([0, 1] : List Int)), (([1, 0] : List Int)), (([1, 1] : List Int))] : List (List Int))) 0 t523 t524) else (laws_FnLabels.j6 kj43 t525 t528 t532 t533 t523 t524)) = some r := by rw [if_neg (show ¬ (false = true) by decide)] at H; exact H
                  clear H
                  have H := H1
                  clear H1
                  have HC52 := A_ H
                  clear H
                  go_upto_if 124 with (fail)
                  repeat (go_quiet (fail); go_upto_if 124 with (fail))
                  go_cut [] (fun wc => ∃ (kq : Nat), Aside0 (laws_FnLabels.j6 kq t525 t528 t532 t533 t523 t524 = some r) ∧ Aside0 (kq ≤ kj43) ∧ Aside0 (Kd.R (Kd.int .i64) 3 wc w.heap.size (fun k_ => some k_ ≠ ((.slice Ao12 t528.length co12) : Value).ownBlock) (.slice Ao11 t525.length co11) t525) ∧ Aside0 (Kd.R (Kd.int .i64) 3 wc w.heap.size (fun k_ => some k_ ≠ ((.slice Ao11 t525.length co11) : Value).ownBlock) (.slice Ao12 t528.length co12) t528) ∧ Aside0 (wc.heap[gb531]? = some (.cells #[.int .i64 t523, .bool t524] 25 (0, 0))) ∧ Aside0 (Below w.heap.size w wc))
                  case first =>
                   as_aux_lemma =>
                    have H := HC52.out
                    clear HC52
                    by_cases c53 : t553 = true
                    ·
                     subst c53
                     have H1 : (laws_FnLabels.l0 kj43 t525 t528 t532 t533 t549 t552 (([(([0] : List Int)), (([1] : List Int)), (([0, 0] : List Int)), (([0, 1] : List Int)), (([1, 0] : List Int)), (([1, 1] : List Int))] : List (List Int))) 0 t523 t524) = some r := by rw [if_pos rfl] at H; exact H
                     clear H
                     have H := H1
                     clear H1
                     obtain ⟨y563, hy563⟩ : ∃ y_ : List Int, y_ = (([0] : List Int)) := ⟨_, rfl⟩
                     replace H : (laws_FnLabels.l0 kj43 t525 t528 t532 t533 t549 t552 (([y563, (([1] : List Int)), (([0, 0] : List Int)), (([0, 1] : List Int)), (([1, 0] : List Int)), (([1, 1] : List Int))] : List (List Int))) 0 t523 t524) = some r := by first | (rw [hy563]; with_reducible exact H) | (have H2_ := (Option.bind_some _ _).symm.trans H; rw [hy563]; with_reducible exact H2_) | (have H2_ := (Option.bind_some _ _).symm.trans H; with_reducible exact H2_) | with_reducible exact H | (rw [hy563]; exact H) | exact H
                     have Ny563 := A_ hy563
                     clear hy563
                     obtain ⟨y566, hy566⟩ : ∃ y_ : List Int, y_ = (([1] : List Int)) := ⟨_, rfl⟩
                     replace H : (laws_FnLabels.l0 kj43 t525 t528 t532 t533 t549 t552 (([y563, y566, (([0, 0] : List Int)), (([0, 1] : List Int)), (([1, 0] : List Int)), (([1, 1] : List Int))] : List (List Int))) 0 t523 t524) = some r := by first | (rw [hy566]; with_reducible exact H) | (have H2_ := (Option.bind_some _ _).symm.trans H; rw [hy566]; with_reducible exact H2_) | (have H2_ := (Option.bind_some _ _).symm.trans H; with_reducible exact H2_) | with_reducible exact H | (rw [hy566]; exact H) | exact H
                     have Ny566 := A_ hy566
                     clear hy566
                     obtain ⟨y569, hy569⟩ : ∃ y_ : List Int, y_ = (([0, 0] : List Int)) := ⟨_, rfl⟩
                     replace H : (laws_FnLabels.l0 kj43 t525 t528 t532 t533 t549 t552 (([y563, y566, y569, (([0, 1] : List Int)), (([1, 0] : List Int)), (([1, 1] : List Int))] : List (List Int))) 0 t523 t524) = some r := by first | (rw [hy569]; with_reducible exact H) | (have H2_ := (Option.bind_some _ _).symm.trans H; rw [hy569]; with_reducible exact H2_) | (have H2_ := (Option.bind_some _ _).symm.trans H; with_reducible exact H2_) | with_reducible exact H | (rw [hy569]; exact H) | exact H
                     have Ny569 := A_ hy569
                     clear hy569
                     obtain ⟨y572, hy572⟩ : ∃ y_ : List Int, y_ = (([0, 1] : List Int)) := ⟨_, rfl⟩
                     replace H : (laws_FnLabels.l0 kj43 t525 t528 t532 t533 t549 t552 (([y563, y566, y569, y572, (([1, 0] : List Int)), (([1, 1] : List Int))] : List (List Int))) 0 t523 t524) = some r := by first | (rw [hy572]; with_reducible exact H) | (have H2_ := (Option.bind_some _ _).symm.trans H; rw [hy572]; with_reducible exact H2_) | (have H2_ := (Option.bind_some _ _).symm.trans H; with_reducible exact H2_) | with_reducible exact H | (rw [hy572]; exact H) | exact H
                     have Ny572 := A_ hy572
                     clear hy572
                     obtain ⟨y575, hy575⟩ : ∃ y_ : List Int, y_ = (([1, 0] : List Int)) := ⟨_, rfl⟩
                     replace H : (laws_FnLabels.l0 kj43 t525 t528 t532 t533 t549 t552 (([y563, y566, y569, y572, y575, (([1, 1] : List Int))] : List (List Int))) 0 t523 t524) = some r := by first | (rw [hy575]; with_reducible exact H) | (have H2_ := (Option.bind_some _ _).symm.trans H; rw [hy575]; with_reducible exact H2_) | (have H2_ := (Option.bind_some _ _).symm.trans H; with_reducible exact H2_) | with_reducible exact H | (rw [hy575]; exact H) | exact H
                     have Ny575 := A_ hy575
                     clear hy575
                     obtain ⟨y578, hy578⟩ : ∃ y_ : List Int, y_ = (([1, 1] : List Int)) := ⟨_, rfl⟩
                     replace H : (laws_FnLabels.l0 kj43 t525 t528 t532 t533 t549 t552 (([y563, y566, y569, y572, y575, y578] : List (List Int))) 0 t523 t524) = some r := by first | (rw [hy578]; with_reducible exact H) | (have H2_ := (Option.bind_some _ _).symm.trans H; rw [hy578]; with_reducible exact H2_) | (have H2_ := (Option.bind_some _ _).symm.trans H; with_reducible exact H2_) | with_reducible exact H | (rw [hy578]; exact H) | exact H
                     have Ny578 := A_ hy578
                     clear hy578
                     obtain ⟨y581, hy581⟩ : ∃ y_ : List (List Int), y_ = (([y563, y566, y569, y572, y575, y578] : List (List Int))) := ⟨_, rfl⟩
                     replace H : (laws_FnLabels.l0 kj43 t525 t528 t532 t533 t549 t552 y581 0 t523 t524) = some r := by first | (rw [hy581]; with_reducible exact H) | (have H2_ := (Option.bind_some _ _).symm.trans H; rw [hy581]; with_reducible exact H2_) | (have H2_ := (Option.bind_some _ _).symm.trans H; with_reducible exact H2_) | with_reducible exact H | (rw [hy581]; exact H) | exact H
                     have Ny581 := A_ hy581
                     clear hy581
                     have H' := A_ H
                     clear H
                     go_wp2_with (first | ((with_reducible refine gate_dst (N := 125) rfl ?_); (try (refine gate_guard (by rfl) ?_; dsimp only)); refine Kd.R_lit (Kd.int .i64) _ 3 ?hg (N := 125) ?hd (xs := ([0] : List Int)) (inner := [.int .i64 0]) (ok := fun _ => True) (okp := fun _ => True) ?hr ?hp (fun _ hk => hk) trivial (Below.refl _ _) (Nat.le_refl _) (by simp) ?_; (case hd => rfl); (case hg => rfl); (case hr => first | (go_simp; done) | (go_simp; rfl)); (case hp => exact (Reps.one (show Kd.M (Kd.int .i64) _ _ _ 0 [.int .i64 0] from rfl) (Reps.none _ _))); intro v564 w54 ho55 hb hg_ hnew_; clear hg_ hnew_; (first | rw [← Ny563.out] at ho55 | (simp only [Int.reduceToNat] at ho55; rw [← Ny563.out] at ho55)); have n0_ := A_ (Kd.R_elder' (rq HO_4) (Kd.R_base ho55) hb); have n1_ := A_ (Kd.R_elder' (rq HO_5) (Kd.R_base ho55) hb); have n2_ := A_ (Kd.R_elder' (rq HO_16) (Kd.R_base ho55) hb); have n3_ := A_ (Kd.R_elder' (rq HO_17) (Kd.R_base ho55) hb); have n4_ := A_ (Kd.R_lower (Kd.R_new' (Kd.R_new' (Kd.R_new' (Kd.R_new' ho55 (Kd.R_lt (rq HO_4))) (Kd.R_lt (rq HO_5))) (Kd.R_lt (rq HO_16))) (Kd.R_lt (rq HO_17))) (below_size (hq HB))); have n5_ := A_ (blk_below (bq BK531) hb); have n6_ := A_ (below_step (hq HB) hb); clear HO_4; clear HO_5; clear HO_16; clear HO_17; clear BK531; clear HB; have HO_4 := n0_; have HO_5 := n1_; have HO_16 := n2_; have HO_17 := n3_; have HO565 := n4_; have BK531 := n5_; have HB := n6_; clear n0_ n1_ n2_ n3_ n4_ n5_ n6_; clear hb ho55; simp only [Act.put, List.setIfInBounds_toArray, List.set_cons_zero, List.set_cons_succ]) | ((with_reducible refine gate_dst (N := 126) rfl ?_); (try (refine gate_guard (by rfl) ?_; dsimp only)); refine Kd.R_lit (Kd.int .i64) _ 3 ?hg (N := 126) ?hd (xs := ([1] : List Int)) (inner := [.int .i64 1]) (ok := fun _ => True) (okp := fun _ => True) ?hr ?hp (fun _ hk => hk) trivial (Below.refl _ _) (Nat.le_refl _) (by simp) ?_; (case hd => rfl); (case hg => rfl); (case hr => first | (go_simp; done) | (go_simp; rfl)); (case hp => exact (Reps.one (show Kd.M (Kd.int .i64) _ _ _ 1 [.int .i64 1] from rfl) (Reps.none _ _))); intro v567 w56 ho57 hb hg_ hnew_; clear hg_ hnew_; (first | rw [← Ny566.out] at ho57 | (simp only [Int.reduceToNat] at ho57; rw [← Ny566.out] at ho57)); have n0_ := A_ (Kd.R_elder' (rq HO_4) (Kd.R_base ho57) hb); have n1_ := A_ (Kd.R_elder' (rq HO_5) (Kd.R_base ho57) hb); have n2_ := A_ (Kd.R_elder' (rq HO_16) (Kd.R_base ho57) hb); have n3_ := A_ (Kd.R_elder' (rq HO_17) (Kd.R_base ho57) hb); have n4_ := A_ (Kd.R_elder' (rq HO565) (Kd.R_base ho57) hb); have n5_ := A_ (Kd.R_lower (Kd.R_new' (Kd.R_new' (Kd.R_new' (Kd.R_new' (Kd.R_new' ho57 (Kd.R_lt (rq HO_4))) (Kd.R_lt (rq HO_5))) (Kd.R_lt (rq HO_16))) (Kd.R_lt (rq HO_17))) (Kd.R_lt (rq HO565))) (below_size (hq HB))); have n6_ := A_ (blk_below (bq BK531) hb); have n7_ := A_ (below_step (hq HB) hb); clear HO_4; clear HO_5; clear HO_16; clear HO_17; clear HO565; clear BK531; clear HB; have HO_4 := n0_; have HO_5 := n1_; have HO_16 := n2_; have HO_17 := n3_; have HO565 := n4_; have HO568 := n5_; have BK531 := n6_; have HB := n7_; clear n0_ n1_ n2_ n3_ n4_ n5_ n6_ n7_; clear hb ho57; simp only [Act.put, List.setIfInBounds_toArray, List.set_cons_zero, List.set_cons_succ]) | ((with_reducible refine gate_dst (N := 127) rfl ?_); (try (refine gate_guard (by rfl) ?_; dsimp only)); refine Kd.R_lit (Kd.int .i64) _ 3 ?hg (N := 127) ?hd (xs := ([0, 0] : List Int)) (inner := [.int .i64 0, .int .i64 0]) (ok := fun _ => True) (okp := fun _ => True) ?hr ?hp (fun _ hk => hk) trivial (Below.refl _ _) (Nat.le_refl _) (by simp) ?_; (case hd => rfl); (case hg => rfl); (case hr => first | (go_simp; done) | (go_simp; rfl)); (case hp => exact (Reps.one (show Kd.M (Kd.int .i64) _ _ _ 0 [.int .i64 0] from rfl) (Reps.one (show Kd.M (Kd.int .i64) _ _ _ 0 [.int .i64 0] from rfl) (Reps.none _ _)))); intro v570 w58 ho59 hb hg_ hnew_; clear hg_ hnew_; (first | rw [← Ny569.out] at ho59 | (simp only [Int.reduceToNat] at ho59; rw [← Ny569.out] at ho59)); have n0_ := A_ (Kd.R_elder' (rq HO_4) (Kd.R_base ho59) hb); have n1_ := A_ (Kd.R_elder' (rq HO_5) (Kd.R_base ho59) hb); have n2_ := A_ (Kd.R_elder' (rq HO_16) (Kd.R_base ho59) hb); have n3_ := A_ (Kd.R_elder' (rq HO_17) (Kd.R_base ho59) hb); have n4_ := A_ (Kd.R_elder' (rq HO565) (Kd.R_base ho59) hb); have n5_ := A_ (Kd.R_elder' (rq HO568) (Kd.R_base ho59) hb); have n6_ := A_ (Kd.R_lower (Kd.R_new' (Kd.R_new' (Kd.R_new' (Kd.R_new' (Kd.R_new' (Kd.R_new' ho59 (Kd.R_lt (rq HO_4))) (Kd.R_lt (rq HO_5))) (Kd.R_lt (rq HO_16))) (Kd.R_lt (rq HO_17))) (Kd.R_lt (rq HO565))) (Kd.R_lt (rq HO568))) (below_size (hq HB))); have n7_ := A_ (blk_below (bq BK531) hb); have n8_ := A_ (below_step (hq HB) hb); clear HO_4; clear HO_5; clear HO_16; clear HO_17; clear HO565; clear HO568; clear BK531; clear HB; have HO_4 := n0_; have HO_5 := n1_; have HO_16 := n2_; have HO_17 := n3_; have HO565 := n4_; have HO568 := n5_; have HO571 := n6_; have BK531 := n7_; have HB := n8_; clear n0_ n1_ n2_ n3_ n4_ n5_ n6_ n7_ n8_; clear hb ho59; simp only [Act.put, List.setIfInBounds_toArray, List.set_cons_zero, List.set_cons_succ]) | ((with_reducible refine gate_dst (N := 128) rfl ?_); (try (refine gate_guard (by rfl) ?_; dsimp only)); refine Kd.R_lit (Kd.int .i64) _ 3 ?hg (N := 128) ?hd (xs := ([0, 1] : List Int)) (inner := [.int .i64 0, .int .i64 1]) (ok := fun _ => True) (okp := fun _ => True) ?hr ?hp (fun _ hk => hk) trivial (Below.refl _ _) (Nat.le_refl _) (by simp) ?_; (case hd => rfl); (case hg => rfl); (case hr => first | (go_simp; done) | (go_simp; rfl)); (case hp => exact (Reps.one (show Kd.M (Kd.int .i64) _ _ _ 0 [.int .i64 0] from rfl) (Reps.one (show Kd.M (Kd.int .i64) _ _ _ 1 [.int .i64 1] from rfl) (Reps.none _ _)))); intro v573 w60 ho61 hb hg_ hnew_; clear hg_ hnew_; (first | rw [← Ny572.out] at ho61 | (simp only [Int.reduceToNat] at ho61; rw [← Ny572.out] at ho61)); have n0_ := A_ (Kd.R_elder' (rq HO_4) (Kd.R_base ho61) hb); have n1_ := A_ (Kd.R_elder' (rq HO_5) (Kd.R_base ho61) hb); have n2_ := A_ (Kd.R_elder' (rq HO_16) (Kd.R_base ho61) hb); have n3_ := A_ (Kd.R_elder' (rq HO_17) (Kd.R_base ho61) hb); have n4_ := A_ (Kd.R_elder' (rq HO565) (Kd.R_base ho61) hb); have n5_ := A_ (Kd.R_elder' (rq HO568) (Kd.R_base ho61) hb); have n6_ := A_ (Kd.R_elder' (rq HO571) (Kd.R_base ho61) hb); have n7_ := A_ (Kd.R_lower (Kd.R_new' (Kd.R_new' (Kd.R_new' (Kd.R_new' (Kd.R_new' (Kd.R_new' (Kd.R_new' ho61 (Kd.R_lt (rq HO_4))) (Kd.R_lt (rq HO_5))) (Kd.R_lt (rq HO_16))) (Kd.R_lt (rq HO_17))) (Kd.R_lt (rq HO565))) (Kd.R_lt (rq HO568))) (Kd.R_lt (rq HO571))) (below_size (hq HB))); have n8_ := A_ (blk_below (bq BK531) hb); have n9_ := A_ (below_step (hq HB) hb); clear HO_4; clear HO_5; clear HO_16; clear HO_17; clear HO565; clear HO568; clear HO571; clear BK531; clear HB; have HO_4 := n0_; have HO_5 := n1_; have HO_16 := n2_; have HO_17 := n3_; have HO565 := n4_; have HO568 := n5_; have HO571 := n6_; have HO574 := n7_; have BK531 := n8_; have HB := n9_; clear n0_ n1_ n2_ n3_ n4_ n5_ n6_ n7_ n8_ n9_; clear hb ho61; simp only [Act.put, List.setIfInBounds_toArray, List.set_cons_zero, List.set_cons_succ]) | ((with_reducible refine gate_dst (N := 129) rfl ?_); (try (refine gate_guard (by rfl) ?_; dsimp only)); refine Kd.R_lit (Kd.int .i64) _ 3 ?hg (N := 129) ?hd (xs := ([1, 0] : List Int)) (inner := [.int .i64 1, .int .i64 0]) (ok := fun _ => True) (okp := fun _ => True) ?hr ?hp (fun _ hk => hk) trivial (Below.refl _ _) (Nat.le_refl _) (by simp) ?_; (case hd => rfl); (case hg => rfl); (case hr => first | (go_simp; done) | (go_simp; rfl)); (case hp => exact (Reps.one (show Kd.M (Kd.int .i64) _ _ _ 1 [.int .i64 1] from rfl) (Reps.one (show Kd.M (Kd.int .i64) _ _ _ 0 [.int .i64 0] from rfl) (Reps.none _ _)))); intro v576 w62 ho63 hb hg_ hnew_; clear hg_ hnew_; (first | rw [← Ny575.out] at ho63 | (simp only [Int.reduceToNat] at ho63; rw [← Ny575.out] at ho63)); have n0_ := A_ (Kd.R_elder' (rq HO_4) (Kd.R_base ho63) hb); have n1_ := A_ (Kd.R_elder' (rq HO_5) (Kd.R_base ho63) hb); have n2_ := A_ (Kd.R_elder' (rq HO_16) (Kd.R_base ho63) hb); have n3_ := A_ (Kd.R_elder' (rq HO_17) (Kd.R_base ho63) hb); have n4_ := A_ (Kd.R_elder' (rq HO565) (Kd.R_base ho63) hb); have n5_ := A_ (Kd.R_elder' (rq HO568) (Kd.R_base ho63) hb); have n6_ := A_ (Kd.R_elder' (rq HO571) (Kd.R_base ho63) hb); have n7_ := A_ (Kd.R_elder' (rq HO574) (Kd.R_base ho63) hb); have n8_ := A_ (Kd.R_lower (Kd.R_new' (Kd.R_new' (Kd.R_new' (Kd.R_new' (Kd.R_new' (Kd.R_new' (Kd.R_new' (Kd.R_new' ho63 (Kd.R_lt (rq HO_4))) (Kd.R_lt (rq HO_5))) (Kd.R_lt (rq HO_16))) (Kd.R_lt (rq HO_17))) (Kd.R_lt (rq HO565))) (Kd.R_lt (rq HO568))) (Kd.R_lt (rq HO571))) (Kd.R_lt (rq HO574))) (below_size (hq HB))); have n9_ := A_ (blk_below (bq BK531) hb); have n10_ := A_ (below_step (hq HB) hb); clear HO_4; clear HO_5; clear HO_16; clear HO_17; clear HO565; clear HO568; clear HO571; clear HO574; clear BK531; clear HB; have HO_4 := n0_; have HO_5 := n1_; have HO_16 := n2_; have HO_17 := n3_; have HO565 := n4_; have HO568 := n5_; have HO571 := n6_; have HO574 := n7_; have HO577 := n8_; have BK531 := n9_; have HB := n10_; clear n0_ n1_ n2_ n3_ n4_ n5_ n6_ n7_ n8_ n9_ n10_; clear hb ho63; simp only [Act.put, List.setIfInBounds_toArray, List.set_cons_zero, List.set_cons_succ]) | ((with_reducible refine gate_dst (N := 130) rfl ?_); (try (refine gate_guard (by rfl) ?_; dsimp only)); refine Kd.R_lit (Kd.int .i64) _ 3 ?hg (N := 130) ?hd (xs := ([1, 1] : List Int)) (inner := [.int .i64 1, .int .i64 1]) (ok := fun _ => True) (okp := fun _ => True) ?hr ?hp (fun _ hk => hk) trivial (Below.refl _ _) (Nat.le_refl _) (by simp) ?_; (case hd => rfl); (case hg => rfl); (case hr => first | (go_simp; done) | (go_simp; rfl)); (case hp => exact (Reps.one (show Kd.M (Kd.int .i64) _ _ _ 1 [.int .i64 1] from rfl) (Reps.one (show Kd.M (Kd.int .i64) _ _ _ 1 [.int .i64 1] from rfl) (Reps.none _ _)))); intro v579 w64 ho65 hb hg_ hnew_; clear hg_ hnew_; (first | rw [← Ny578.out] at ho65 | (simp only [Int.reduceToNat] at ho65; rw [← Ny578.out] at ho65)); have n0_ := A_ (Kd.R_elder' (rq HO_4) (Kd.R_base ho65) hb); have n1_ := A_ (Kd.R_elder' (rq HO_5) (Kd.R_base ho65) hb); have n2_ := A_ (Kd.R_elder' (rq HO_16) (Kd.R_base ho65) hb); have n3_ := A_ (Kd.R_elder' (rq HO_17) (Kd.R_base ho65) hb); have n4_ := A_ (Kd.R_elder' (rq HO565) (Kd.R_base ho65) hb); have n5_ := A_ (Kd.R_elder' (rq HO568) (Kd.R_base ho65) hb); have n6_ := A_ (Kd.R_elder' (rq HO571) (Kd.R_base ho65) hb); have n7_ := A_ (Kd.R_elder' (rq HO574) (Kd.R_base ho65) hb); have n8_ := A_ (Kd.R_elder' (rq HO577) (Kd.R_base ho65) hb); have n9_ := A_ (Kd.R_lower (Kd.R_new' (Kd.R_new' (Kd.R_new' (Kd.R_new' (Kd.R_new' (Kd.R_new' (Kd.R_new' (Kd.R_new' (Kd.R_new' ho65 (Kd.R_lt (rq HO_4))) (Kd.R_lt (rq HO_5))) (Kd.R_lt (rq HO_16))) (Kd.R_lt (rq HO_17))) (Kd.R_lt (rq HO565))) (Kd.R_lt (rq HO568))) (Kd.R_lt (rq HO571))) (Kd.R_lt (rq HO574))) (Kd.R_lt (rq HO577))) (below_size (hq HB))); have n10_ := A_ (blk_below (bq BK531) hb); have n11_ := A_ (below_step (hq HB) hb); clear HO_4; clear HO_5; clear HO_16; clear HO_17; clear HO565; clear HO568; clear HO571; clear HO574; clear HO577; clear BK531; clear HB; have HO_4 := n0_; have HO_5 := n1_; have HO_16 := n2_; have HO_17 := n3_; have HO565 := n4_; have HO568 := n5_; have HO571 := n6_; have HO574 := n7_; have HO577 := n8_; have HO580 := n9_; have BK531 := n10_; have HB := n11_; clear n0_ n1_ n2_ n3_ n4_ n5_ n6_ n7_ n8_ n9_ n10_ n11_; clear hb ho65; simp only [Act.put, List.setIfInBounds_toArray, List.set_cons_zero, List.set_cons_succ]; obtain ⟨Ao66, co66, eo66⟩ := Kd.R_slice HO565.out; subst eo66; obtain ⟨Ao67, co67, eo67⟩ := Kd.R_slice HO568.out; subst eo67; obtain ⟨Ao68, co68, eo68⟩ := Kd.R_slice HO571.out; subst eo68; obtain ⟨Ao69, co69, eo69⟩ := Kd.R_slice HO574.out; subst eo69; obtain ⟨Ao70, co70, eo70⟩ := Kd.R_slice HO577.out; subst eo70; obtain ⟨Ao71, co71, eo71⟩ := Kd.R_slice HO580.out; subst eo71) | ((with_reducible refine gate_dst (N := 131) rfl ?_); (try (refine gate_guard (by rfl) ?_; dsimp only)); refine Kd.N_lit (Kd.slice 3 (Kd.int .i64)) _ 26 ?hg (N' := 131) ?hd (xs := ([y563, y566, y569, y572, y575, y578] : List (List Int))) (inner := [.slice Ao66 y563.length co66, .slice Ao67 y566.length co67, .slice Ao68 y569.length co68, .slice Ao69 y572.length co69, .slice Ao70 y575.length co70, .slice Ao71 y578.length co71]) (ok := (fun k_ => some k_ ≠ (.slice Ao11 t525.length co11 : Value).ownBlock ∧ some k_ ≠ (.slice Ao12 t528.length co12 : Value).ownBlock ∧ some k_ ≠ (.slice Ao36 t549.length co36 : Value).ownBlock ∧ some k_ ≠ (v554 : Value).ownBlock ∧ k_ ≠ gb531)) (okp := (fun k_ => some k_ ≠ (.slice Ao11 t525.length co11 : Value).ownBlock ∧ some k_ ≠ (.slice Ao12 t528.length co12 : Value).ownBlock ∧ some k_ ≠ (.slice Ao36 t549.length co36 : Value).ownBlock ∧ some k_ ≠ (v554 : Value).ownBlock ∧ k_ ≠ gb531)) ?hr ?hp (fun _ hk => hk) ((show ∀ k_, w64.heap.size ≤ k_ → (fun k_ => some k_ ≠ (.slice Ao11 t525.length co11 : Value).ownBlock ∧ some k_ ≠ (.slice Ao12 t528.length co12 : Value).ownBlock ∧ some k_ ≠ (.slice Ao36 t549.length co36 : Value).ownBlock ∧ some k_ ≠ (v554 : Value).ownBlock ∧ k_ ≠ gb531) k_ from fun k_ hk => ⟨Kd.fresh' (Kd.R_lt (rq HO_4)) k_ hk, Kd.fresh' (Kd.R_lt (rq HO_5)) k_ hk, Kd.fresh' (Kd.R_lt (rq HO_16)) k_ hk, Kd.fresh' (Kd.R_lt (rq HO_17)) k_ hk, Kd.freshB (g := gb531) (o := .cells #[.int .i64 t523, .bool t524] 25 (0, 0)) (bq BK531) k_ hk⟩) _ (Nat.le_refl _)) (Below.refl _ _) (Nat.le_refl _) (by simp) ?_; (case hd => rfl); (case hg => rfl); (case hr => exact lit_run 40 26 (.slice none 0 0) 24 _ [.slice Ao66 y563.length co66, .slice Ao67 y566.length co67, .slice Ao68 y569.length co68, .slice Ao69 y572.length co69, .slice Ao70 y575.length co70, .slice Ao71 y578.length co71] 6 rfl rfl (by simp only [List.map_toArray, List.map_cons, List.map_nil]; rfl) Try.underlying40 info26 rfl rfl (by simp) (by simp)); (case hp => exact (Reps.one (show Kd.FK (Kd.slice 3 (Kd.int .i64)) _ _ y563 [.slice Ao66 y563.length co66] from (Kd.FK_slice_mk (Kd.R_reads' (Kd.R_mono (ok' := (fun k_ => some k_ ≠ (.slice Ao11 t525.length co11 : Value).ownBlock ∧ some k_ ≠ (.slice Ao12 t528.length co12 : Value).ownBlock ∧ some k_ ≠ (.slice Ao36 t549.length co36 : Value).ownBlock ∧ some k_ ≠ (v554 : Value).ownBlock ∧ k_ ≠ gb531)) (Kd.R_types (HO565.out) BK531.out (by decide)) (fun k_ hk => ⟨hk.1.1.1.1.1.1.1.1.1.2, ⟨hk.1.1.1.1.1.1.1.1.2, ⟨hk.1.1.1.1.1.1.1.2, ⟨hk.1.1.1.1.1.1.2, hk.2⟩⟩⟩⟩))).2.1 (Kd.R_F (Kd.R_mono (ok' := (fun k_ => some k_ ≠ (.slice Ao11 t525.length co11 : Value).ownBlock ∧ some k_ ≠ (.slice Ao12 t528.length co12 : Value).ownBlock ∧ some k_ ≠ (.slice Ao36 t549.length co36 : Value).ownBlock ∧ some k_ ≠ (v554 : Value).ownBlock ∧ k_ ≠ gb531)) (Kd.R_types (HO565.out) BK531.out (by decide)) (fun k_ hk => ⟨hk.1.1.1.1.1.1.1.1.1.2, ⟨hk.1.1.1.1.1.1.1.1.2, ⟨hk.1.1.1.1.1.1.1.2, ⟨hk.1.1.1.1.1.1.2, hk.2⟩⟩⟩⟩))))) (Reps.one (show Kd.FK (Kd.slice 3 (Kd.int .i64)) _ _ y566 [.slice Ao67 y566.length co67] from (Kd.FK_slice_mk (Kd.R_reads' (Kd.R_mono (ok' := (fun k_ => some k_ ≠ (.slice Ao11 t525.length co11 : Value).ownBlock ∧ some k_ ≠ (.slice Ao12 t528.length co12 : Value).ownBlock ∧ some k_ ≠ (.slice Ao36 t549.length co36 : Value).ownBlock ∧ some k_ ≠ (v554 : Value).ownBlock ∧ k_ ≠ gb531)) (Kd.R_types (HO568.out) BK531.out (by decide)) (fun k_ hk => ⟨hk.1.1.1.1.1.1.1.1.1.2, ⟨hk.1.1.1.1.1.1.1.1.2, ⟨hk.1.1.1.1.1.1.1.2, ⟨hk.1.1.1.1.1.1.2, hk.2⟩⟩⟩⟩))).2.1 (Kd.R_F (Kd.R_mono (ok' := (fun k_ => some k_ ≠ (.slice Ao11 t525.length co11 : Value).ownBlock ∧ some k_ ≠ (.slice Ao12 t528.length co12 : Value).ownBlock ∧ some k_ ≠ (.slice Ao36 t549.length co36 : Value).ownBlock ∧ some k_ ≠ (v554 : Value).ownBlock ∧ k_ ≠ gb531)) (Kd.R_types (HO568.out) BK531.out (by decide)) (fun k_ hk => ⟨hk.1.1.1.1.1.1.1.1.1.2, ⟨hk.1.1.1.1.1.1.1.1.2, ⟨hk.1.1.1.1.1.1.1.2, ⟨hk.1.1.1.1.1.1.2, hk.2⟩⟩⟩⟩))))) (Reps.one (show Kd.FK (Kd.slice 3 (Kd.int .i64)) _ _ y569 [.slice Ao68 y569.length co68] from (Kd.FK_slice_mk (Kd.R_reads' (Kd.R_mono (ok' := (fun k_ => some k_ ≠ (.slice Ao11 t525.length co11 : Value).ownBlock ∧ some k_ ≠ (.slice Ao12 t528.length co12 : Value).ownBlock ∧ some k_ ≠ (.slice Ao36 t549.length co36 : Value).ownBlock ∧ some k_ ≠ (v554 : Value).ownBlock ∧ k_ ≠ gb531)) (Kd.R_types (HO571.out) BK531.out (by decide)) (fun k_ hk => ⟨hk.1.1.1.1.1.1.1.1.1.2, ⟨hk.1.1.1.1.1.1.1.1.2, ⟨hk.1.1.1.1.1.1.1.2, ⟨hk.1.1.1.1.1.1.2, hk.2⟩⟩⟩⟩))).2.1 (Kd.R_F (Kd.R_mono (ok' := (fun k_ => some k_ ≠ (.slice Ao11 t525.length co11 : Value).ownBlock ∧ some k_ ≠ (.slice Ao12 t528.length co12 : Value).ownBlock ∧ some k_ ≠ (.slice Ao36 t549.length co36 : Value).ownBlock ∧ some k_ ≠ (v554 : Value).ownBlock ∧ k_ ≠ gb531)) (Kd.R_types (HO571.out) BK531.out (by decide)) (fun k_ hk => ⟨hk.1.1.1.1.1.1.1.1.1.2, ⟨hk.1.1.1.1.1.1.1.1.2, ⟨hk.1.1.1.1.1.1.1.2, ⟨hk.1.1.1.1.1.1.2, hk.2⟩⟩⟩⟩))))) (Reps.one (show Kd.FK (Kd.slice 3 (Kd.int .i64)) _ _ y572 [.slice Ao69 y572.length co69] from (Kd.FK_slice_mk (Kd.R_reads' (Kd.R_mono (ok' := (fun k_ => some k_ ≠ (.slice Ao11 t525.length co11 : Value).ownBlock ∧ some k_ ≠ (.slice Ao12 t528.length co12 : Value).ownBlock ∧ some k_ ≠ (.slice Ao36 t549.length co36 : Value).ownBlock ∧ some k_ ≠ (v554 : Value).ownBlock ∧ k_ ≠ gb531)) (Kd.R_types (HO574.out) BK531.out (by decide)) (fun k_ hk => ⟨hk.1.1.1.1.1.1.1.1.1.2, ⟨hk.1.1.1.1.1.1.1.1.2, ⟨hk.1.1.1.1.1.1.1.2, ⟨hk.1.1.1.1.1.1.2, hk.2⟩⟩⟩⟩))).2.1 (Kd.R_F (Kd.R_mono (ok' := (fun k_ => some k_ ≠ (.slice Ao11 t525.length co11 : Value).ownBlock ∧ some k_ ≠ (.slice Ao12 t528.length co12 : Value).ownBlock ∧ some k_ ≠ (.slice Ao36 t549.length co36 : Value).ownBlock ∧ some k_ ≠ (v554 : Value).ownBlock ∧ k_ ≠ gb531)) (Kd.R_types (HO574.out) BK531.out (by decide)) (fun k_ hk => ⟨hk.1.1.1.1.1.1.1.1.1.2, ⟨hk.1.1.1.1.1.1.1.1.2, ⟨hk.1.1.1.1.1.1.1.2, ⟨hk.1.1.1.1.1.1.2, hk.2⟩⟩⟩⟩))))) (Reps.one (show Kd.FK (Kd.slice 3 (Kd.int .i64)) _ _ y575 [.slice Ao70 y575.length co70] from (Kd.FK_slice_mk (Kd.R_reads' (Kd.R_mono (ok' := (fun k_ => some k_ ≠ (.slice Ao11 t525.length co11 : Value).ownBlock ∧ some k_ ≠ (.slice Ao12 t528.length co12 : Value).ownBlock ∧ some k_ ≠ (.slice Ao36 t549.length co36 : Value).ownBlock ∧ some k_ ≠ (v554 : Value).ownBlock ∧ k_ ≠ gb531)) (Kd.R_types (HO577.out) BK531.out (by decide)) (fun k_ hk => ⟨hk.1.1.1.1.1.1.1.1.1.2, ⟨hk.1.1.1.1.1.1.1.1.2, ⟨hk.1.1.1.1.1.1.1.2, ⟨hk.1.1.1.1.1.1.2, hk.2⟩⟩⟩⟩))).2.1 (Kd.R_F (Kd.R_mono (ok' := (fun k_ => some k_ ≠ (.slice Ao11 t525.length co11 : Value).ownBlock ∧ some k_ ≠ (.slice Ao12 t528.length co12 : Value).ownBlock ∧ some k_ ≠ (.slice Ao36 t549.length co36 : Value).ownBlock ∧ some k_ ≠ (v554 : Value).ownBlock ∧ k_ ≠ gb531)) (Kd.R_types (HO577.out) BK531.out (by decide)) (fun k_ hk => ⟨hk.1.1.1.1.1.1.1.1.1.2, ⟨hk.1.1.1.1.1.1.1.1.2, ⟨hk.1.1.1.1.1.1.1.2, ⟨hk.1.1.1.1.1.1.2, hk.2⟩⟩⟩⟩))))) (Reps.one (show Kd.FK (Kd.slice 3 (Kd.int .i64)) _ _ y578 [.slice Ao71 y578.length co71] from (Kd.FK_slice_mk (Kd.R_reads' (Kd.R_mono (ok' := (fun k_ => some k_ ≠ (.slice Ao11 t525.length co11 : Value).ownBlock ∧ some k_ ≠ (.slice Ao12 t528.length co12 : Value).ownBlock ∧ some k_ ≠ (.slice Ao36 t549.length co36 : Value).ownBlock ∧ some k_ ≠ (v554 : Value).ownBlock ∧ k_ ≠ gb531)) (Kd.R_types (HO580.out) BK531.out (by decide)) (fun k_ hk => ⟨hk.1.1.1.1.1.1.1.1.1.2, ⟨hk.1.1.1.1.1.1.1.1.2, ⟨hk.1.1.1.1.1.1.1.2, ⟨hk.1.1.1.1.1.1.2, hk.2⟩⟩⟩⟩))).2.1 (Kd.R_F (Kd.R_mono (ok' := (fun k_ => some k_ ≠ (.slice Ao11 t525.length co11 : Value).ownBlock ∧ some k_ ≠ (.slice Ao12 t528.length co12 : Value).ownBlock ∧ some k_ ≠ (.slice Ao36 t549.length co36 : Value).ownBlock ∧ some k_ ≠ (v554 : Value).ownBlock ∧ k_ ≠ gb531)) (Kd.R_types (HO580.out) BK531.out (by decide)) (fun k_ hk => ⟨hk.1.1.1.1.1.1.1.1.1.2, ⟨hk.1.1.1.1.1.1.1.1.2, ⟨hk.1.1.1.1.1.1.1.2, ⟨hk.1.1.1.1.1.1.2, hk.2⟩⟩⟩⟩))))) (Reps.none _ _)))))))); intro v582 w72 ho73 hb hg_ hnew_; clear hg_ hnew_; (first | rw [← Ny581.out] at ho73 | (simp only [Int.reduceToNat] at ho73; rw [← Ny581.out] at ho73)); have n0_ := A_ (Kd.R_below (rq HO_4) hb); have n1_ := A_ (Kd.R_below (rq HO_5) hb); have n2_ := A_ (Kd.R_below (rq HO_16) hb); have n3_ := A_ (Kd.R_below (rq HO_17) hb); have n4_ := A_ (Kd.N_lower ho73 (below_size (hq HB))); have n5_ := A_ (blk_below (bq BK531) hb); have n6_ := A_ (below_step (hq HB) hb); clear HO_4; clear HO_5; clear HO_16; clear HO_17; clear BK531; clear HB; clear HO565; clear HO568; clear HO571; clear HO574; clear HO577; clear HO580; have HO_4 := n0_; have HO_5 := n1_; have HO_16 := n2_; have HO_17 := n3_; have HO583 := n4_; have BK531 := n5_; have HB := n6_; clear n0_ n1_ n2_ n3_ n4_ n5_ n6_; clear hb ho73; simp only [Act.put, List.setIfInBounds_toArray, List.set_cons_zero, List.set_cons_succ]))
                     repeat (go_quiet (first | ((with_reducible refine gate_dst (N := 125) rfl ?_); (try (refine gate_guard (by rfl) ?_; dsimp only)); refine Kd.R_lit (Kd.int .i64) _ 3 ?hg (N := 125) ?hd (xs := ([0] : List Int)) (inner := [.int .i64 0]) (ok := fun _ => True) (okp := fun _ => True) ?hr ?hp (fun _ hk => hk) trivial (Below.refl _ _) (Nat.le_refl _) (by simp) ?_; (case hd => rfl); (case hg => rfl); (case hr => first | (go_simp; done) | (go_simp; rfl)); (case hp => exact (Reps.one (show Kd.M (Kd.int .i64) _ _ _ 0 [.int .i64 0] from rfl) (Reps.none _ _))); intro v564 w54 ho55 hb hg_ hnew_; clear hg_ hnew_; (first | rw [← Ny563.out] at ho55 | (simp only [Int.reduceToNat] at ho55; rw [← Ny563.out] at ho55)); have n0_ := A_ (Kd.R_elder' (rq HO_4) (Kd.R_base ho55) hb); have n1_ := A_ (Kd.R_elder' (rq HO_5) (Kd.R_base ho55) hb); have n2_ := A_ (Kd.R_elder' (rq HO_16) (Kd.R_base ho55) hb); have n3_ := A_ (Kd.R_elder' (rq HO_17) (Kd.R_base ho55) hb); have n4_ := A_ (Kd.R_lower (Kd.R_new' (Kd.R_new' (Kd.R_new' (Kd.R_new' ho55 (Kd.R_lt (rq HO_4))) (Kd.R_lt (rq HO_5))) (Kd.R_lt (rq HO_16))) (Kd.R_lt (rq HO_17))) (below_size (hq HB))); have n5_ := A_ (blk_below (bq BK531) hb); have n6_ := A_ (below_step (hq HB) hb); clear HO_4; clear HO_5; clear HO_16; clear HO_17; clear BK531; clear HB; have HO_4 := n0_; have HO_5 := n1_; have HO_16 := n2_; have HO_17 := n3_; have HO565 := n4_; have BK531 := n5_; have HB := n6_; clear n0_ n1_ n2_ n3_ n4_ n5_ n6_; clear hb ho55) | ((with_reducible refine gate_dst (N := 126) rfl ?_); (try (refine gate_guard (by rfl) ?_; dsimp only)); refine Kd.R_lit (Kd.int .i64) _ 3 ?hg (N := 126) ?hd (xs := ([1] : List Int)) (inner := [.int .i64 1]) (ok := fun _ => True) (okp := fun _ => True) ?hr ?hp (fun _ hk => hk) trivial (Below.refl _ _) (Nat.le_refl _) (by simp) ?_; (case hd => rfl); (case hg => rfl); (case hr => first | (go_simp; done) | (go_simp; rfl)); (case hp => exact (Reps.one (show Kd.M (Kd.int .i64) _ _ _ 1 [.int .i64 1] from rfl) (Reps.none _ _))); intro v567 w56 ho57 hb hg_ hnew_; clear hg_ hnew_; (first | rw [← Ny566.out] at ho57 | (simp only [Int.reduceToNat] at ho57; rw [← Ny566.out] at ho57)); have n0_ := A_ (Kd.R_elder' (rq HO_4) (Kd.R_base ho57) hb); have n1_ := A_ (Kd.R_elder' (rq HO_5) (Kd.R_base ho57) hb); have n2_ := A_ (Kd.R_elder' (rq HO_16) (Kd.R_base ho57) hb); have n3_ := A_ (Kd.R_elder' (rq HO_17) (Kd.R_base ho57) hb); have n4_ := A_ (Kd.R_elder' (rq HO565) (Kd.R_base ho57) hb); have n5_ := A_ (Kd.R_lower (Kd.R_new' (Kd.R_new' (Kd.R_new' (Kd.R_new' (Kd.R_new' ho57 (Kd.R_lt (rq HO_4))) (Kd.R_lt (rq HO_5))) (Kd.R_lt (rq HO_16))) (Kd.R_lt (rq HO_17))) (Kd.R_lt (rq HO565))) (below_size (hq HB))); have n6_ := A_ (blk_below (bq BK531) hb); have n7_ := A_ (below_step (hq HB) hb); clear HO_4; clear HO_5; clear HO_16; clear HO_17; clear HO565; clear BK531; clear HB; have HO_4 := n0_; have HO_5 := n1_; have HO_16 := n2_; have HO_17 := n3_; have HO565 := n4_; have HO568 := n5_; have BK531 := n6_; have HB := n7_; clear n0_ n1_ n2_ n3_ n4_ n5_ n6_ n7_; clear hb ho57) | ((with_reducible refine gate_dst (N := 127) rfl ?_); (try (refine gate_guard (by rfl) ?_; dsimp only)); refine Kd.R_lit (Kd.int .i64) _ 3 ?hg (N := 127) ?hd (xs := ([0, 0] : List Int)) (inner := [.int .i64 0, .int .i64 0]) (ok := fun _ => True) (okp := fun _ => True) ?hr ?hp (fun _ hk => hk) trivial (Below.refl _ _) (Nat.le_refl _) (by simp) ?_; (case hd => rfl); (case hg => rfl); (case hr => first | (go_simp; done) | (go_simp; rfl)); (case hp => exact (Reps.one (show Kd.M (Kd.int .i64) _ _ _ 0 [.int .i64 0] from rfl) (Reps.one (show Kd.M (Kd.int .i64) _ _ _ 0 [.int .i64 0] from rfl) (Reps.none _ _)))); intro v570 w58 ho59 hb hg_ hnew_; clear hg_ hnew_; (first | rw [← Ny569.out] at ho59 | (simp only [Int.reduceToNat] at ho59; rw [← Ny569.out] at ho59)); have n0_ := A_ (Kd.R_elder' (rq HO_4) (Kd.R_base ho59) hb); have n1_ := A_ (Kd.R_elder' (rq HO_5) (Kd.R_base ho59) hb); have n2_ := A_ (Kd.R_elder' (rq HO_16) (Kd.R_base ho59) hb); have n3_ := A_ (Kd.R_elder' (rq HO_17) (Kd.R_base ho59) hb); have n4_ := A_ (Kd.R_elder' (rq HO565) (Kd.R_base ho59) hb); have n5_ := A_ (Kd.R_elder' (rq HO568) (Kd.R_base ho59) hb); have n6_ := A_ (Kd.R_lower (Kd.R_new' (Kd.R_new' (Kd.R_new' (Kd.R_new' (Kd.R_new' (Kd.R_new' ho59 (Kd.R_lt (rq HO_4))) (Kd.R_lt (rq HO_5))) (Kd.R_lt (rq HO_16))) (Kd.R_lt (rq HO_17))) (Kd.R_lt (rq HO565))) (Kd.R_lt (rq HO568))) (below_size (hq HB))); have n7_ := A_ (blk_below (bq BK531) hb); have n8_ := A_ (below_step (hq HB) hb); clear HO_4; clear HO_5; clear HO_16; clear HO_17; clear HO565; clear HO568; clear BK531; clear HB; have HO_4 := n0_; have HO_5 := n1_; have HO_16 := n2_; have HO_17 := n3_; have HO565 := n4_; have HO568 := n5_; have HO571 := n6_; have BK531 := n7_; have HB := n8_; clear n0_ n1_ n2_ n3_ n4_ n5_ n6_ n7_ n8_; clear hb ho59) | ((with_reducible refine gate_dst (N := 128) rfl ?_); (try (refine gate_guard (by rfl) ?_; dsimp only)); refine Kd.R_lit (Kd.int .i64) _ 3 ?hg (N := 128) ?hd (xs := ([0, 1] : List Int)) (inner := [.int .i64 0, .int .i64 1]) (ok := fun _ => True) (okp := fun _ => True) ?hr ?hp (fun _ hk => hk) trivial (Below.refl _ _) (Nat.le_refl _) (by simp) ?_; (case hd => rfl); (case hg => rfl); (case hr => first | (go_simp; done) | (go_simp; rfl)); (case hp => exact (Reps.one (show Kd.M (Kd.int .i64) _ _ _ 0 [.int .i64 0] from rfl) (Reps.one (show Kd.M (Kd.int .i64) _ _ _ 1 [.int .i64 1] from rfl) (Reps.none _ _)))); intro v573 w60 ho61 hb hg_ hnew_; clear hg_ hnew_; (first | rw [← Ny572.out] at ho61 | (simp only [Int.reduceToNat] at ho61; rw [← Ny572.out] at ho61)); have n0_ := A_ (Kd.R_elder' (rq HO_4) (Kd.R_base ho61) hb); have n1_ := A_ (Kd.R_elder' (rq HO_5) (Kd.R_base ho61) hb); have n2_ := A_ (Kd.R_elder' (rq HO_16) (Kd.R_base ho61) hb); have n3_ := A_ (Kd.R_elder' (rq HO_17) (Kd.R_base ho61) hb); have n4_ := A_ (Kd.R_elder' (rq HO565) (Kd.R_base ho61) hb); have n5_ := A_ (Kd.R_elder' (rq HO568) (Kd.R_base ho61) hb); have n6_ := A_ (Kd.R_elder' (rq HO571) (Kd.R_base ho61) hb); have n7_ := A_ (Kd.R_lower (Kd.R_new' (Kd.R_new' (Kd.R_new' (Kd.R_new' (Kd.R_new' (Kd.R_new' (Kd.R_new' ho61 (Kd.R_lt (rq HO_4))) (Kd.R_lt (rq HO_5))) (Kd.R_lt (rq HO_16))) (Kd.R_lt (rq HO_17))) (Kd.R_lt (rq HO565))) (Kd.R_lt (rq HO568))) (Kd.R_lt (rq HO571))) (below_size (hq HB))); have n8_ := A_ (blk_below (bq BK531) hb); have n9_ := A_ (below_step (hq HB) hb); clear HO_4; clear HO_5; clear HO_16; clear HO_17; clear HO565; clear HO568; clear HO571; clear BK531; clear HB; have HO_4 := n0_; have HO_5 := n1_; have HO_16 := n2_; have HO_17 := n3_; have HO565 := n4_; have HO568 := n5_; have HO571 := n6_; have HO574 := n7_; have BK531 := n8_; have HB := n9_; clear n0_ n1_ n2_ n3_ n4_ n5_ n6_ n7_ n8_ n9_; clear hb ho61) | ((with_reducible refine gate_dst (N := 129) rfl ?_); (try (refine gate_guard (by rfl) ?_; dsimp only)); refine Kd.R_lit (Kd.int .i64) _ 3 ?hg (N := 129) ?hd (xs := ([1, 0] : List Int)) (inner := [.int .i64 1, .int .i64 0]) (ok := fun _ => True) (okp := fun _ => True) ?hr ?hp (fun _ hk => hk) trivial (Below.refl _ _) (Nat.le_refl _) (by simp) ?_; (case hd => rfl); (case hg => rfl); (case hr => first | (go_simp; done) | (go_simp; rfl)); (case hp => exact (Reps.one (show Kd.M (Kd.int .i64) _ _ _ 1 [.int .i64 1] from rfl) (Reps.one (show Kd.M (Kd.int .i64) _ _ _ 0 [.int .i64 0] from rfl) (Reps.none _ _)))); intro v576 w62 ho63 hb hg_ hnew_; clear hg_ hnew_; (first | rw [← Ny575.out] at ho63 | (simp only [Int.reduceToNat] at ho63; rw [← Ny575.out] at ho63)); have n0_ := A_ (Kd.R_elder' (rq HO_4) (Kd.R_base ho63) hb); have n1_ := A_ (Kd.R_elder' (rq HO_5) (Kd.R_base ho63) hb); have n2_ := A_ (Kd.R_elder' (rq HO_16) (Kd.R_base ho63) hb); have n3_ := A_ (Kd.R_elder' (rq HO_17) (Kd.R_base ho63) hb); have n4_ := A_ (Kd.R_elder' (rq HO565) (Kd.R_base ho63) hb); have n5_ := A_ (Kd.R_elder' (rq HO568) (Kd.R_base ho63) hb); have n6_ := A_ (Kd.R_elder' (rq HO571) (Kd.R_base ho63) hb); have n7_ := A_ (Kd.R_elder' (rq HO574) (Kd.R_base ho63) hb); have n8_ := A_ (Kd.R_lower (Kd.R_new' (Kd.R_new' (Kd.R_new' (Kd.R_new' (Kd.R_new' (Kd.R_new' (Kd.R_new' (Kd.R_new' ho63 (Kd.R_lt (rq HO_4))) (Kd.R_lt (rq HO_5))) (Kd.R_lt (rq HO_16))) (Kd.R_lt (rq HO_17))) (Kd.R_lt (rq HO565))) (Kd.R_lt (rq HO568))) (Kd.R_lt (rq HO571))) (Kd.R_lt (rq HO574))) (below_size (hq HB))); have n9_ := A_ (blk_below (bq BK531) hb); have n10_ := A_ (below_step (hq HB) hb); clear HO_4; clear HO_5; clear HO_16; clear HO_17; clear HO565; clear HO568; clear HO571; clear HO574; clear BK531; clear HB; have HO_4 := n0_; have HO_5 := n1_; have HO_16 := n2_; have HO_17 := n3_; have HO565 := n4_; have HO568 := n5_; have HO571 := n6_; have HO574 := n7_; have HO577 := n8_; have BK531 := n9_; have HB := n10_; clear n0_ n1_ n2_ n3_ n4_ n5_ n6_ n7_ n8_ n9_ n10_; clear hb ho63) | ((with_reducible refine gate_dst (N := 130) rfl ?_); (try (refine gate_guard (by rfl) ?_; dsimp only)); refine Kd.R_lit (Kd.int .i64) _ 3 ?hg (N := 130) ?hd (xs := ([1, 1] : List Int)) (inner := [.int .i64 1, .int .i64 1]) (ok := fun _ => True) (okp := fun _ => True) ?hr ?hp (fun _ hk => hk) trivial (Below.refl _ _) (Nat.le_refl _) (by simp) ?_; (case hd => rfl); (case hg => rfl); (case hr => first | (go_simp; done) | (go_simp; rfl)); (case hp => exact (Reps.one (show Kd.M (Kd.int .i64) _ _ _ 1 [.int .i64 1] from rfl) (Reps.one (show Kd.M (Kd.int .i64) _ _ _ 1 [.int .i64 1] from rfl) (Reps.none _ _)))); intro v579 w64 ho65 hb hg_ hnew_; clear hg_ hnew_; (first | rw [← Ny578.out] at ho65 | (simp only [Int.reduceToNat] at ho65; rw [← Ny578.out] at ho65)); have n0_ := A_ (Kd.R_elder' (rq HO_4) (Kd.R_base ho65) hb); have n1_ := A_ (Kd.R_elder' (rq HO_5) (Kd.R_base ho65) hb); have n2_ := A_ (Kd.R_elder' (rq HO_16) (Kd.R_base ho65) hb); have n3_ := A_ (Kd.R_elder' (rq HO_17) (Kd.R_base ho65) hb); have n4_ := A_ (Kd.R_elder' (rq HO565) (Kd.R_base ho65) hb); have n5_ := A_ (Kd.R_elder' (rq HO568) (Kd.R_base ho65) hb); have n6_ := A_ (Kd.R_elder' (rq HO571) (Kd.R_base ho65) hb); have n7_ := A_ (Kd.R_elder' (rq HO574) (Kd.R_base ho65) hb); have n8_ := A_ (Kd.R_elder' (rq HO577) (Kd.R_base ho65) hb); have n9_ := A_ (Kd.R_lower (Kd.R_new' (Kd.R_new' (Kd.R_new' (Kd.R_new' (Kd.R_new' (Kd.R_new' (Kd.R_new' (Kd.R_new' (Kd.R_new' ho65 (Kd.R_lt (rq HO_4))) (Kd.R_lt (rq HO_5))) (Kd.R_lt (rq HO_16))) (Kd.R_lt (rq HO_17))) (Kd.R_lt (rq HO565))) (Kd.R_lt (rq HO568))) (Kd.R_lt (rq HO571))) (Kd.R_lt (rq HO574))) (Kd.R_lt (rq HO577))) (below_size (hq HB))); have n10_ := A_ (blk_below (bq BK531) hb); have n11_ := A_ (below_step (hq HB) hb); clear HO_4; clear HO_5; clear HO_16; clear HO_17; clear HO565; clear HO568; clear HO571; clear HO574; clear HO577; clear BK531; clear HB; have HO_4 := n0_; have HO_5 := n1_; have HO_16 := n2_; have HO_17 := n3_; have HO565 := n4_; have HO568 := n5_; have HO571 := n6_; have HO574 := n7_; have HO577 := n8_; have HO580 := n9_; have BK531 := n10_; have HB := n11_; clear n0_ n1_ n2_ n3_ n4_ n5_ n6_ n7_ n8_ n9_ n10_ n11_; clear hb ho65; obtain ⟨Ao66, co66, eo66⟩ := Kd.R_slice HO565.out; subst eo66; obtain ⟨Ao67, co67, eo67⟩ := Kd.R_slice HO568.out; subst eo67; obtain ⟨Ao68, co68, eo68⟩ := Kd.R_slice HO571.out; subst eo68; obtain ⟨Ao69, co69, eo69⟩ := Kd.R_slice HO574.out; subst eo69; obtain ⟨Ao70, co70, eo70⟩ := Kd.R_slice HO577.out; subst eo70; obtain ⟨Ao71, co71, eo71⟩ := Kd.R_slice HO580.out; subst eo71) | ((with_reducible refine gate_dst (N := 131) rfl ?_); (try (refine gate_guard (by rfl) ?_; dsimp only)); refine Kd.N_lit (Kd.slice 3 (Kd.int .i64)) _ 26 ?hg (N' := 131) ?hd (xs := ([y563, y566, y569, y572, y575, y578] : List (List Int))) (inner := [.slice Ao66 y563.length co66, .slice Ao67 y566.length co67, .slice Ao68 y569.length co68, .slice Ao69 y572.length co69, .slice Ao70 y575.length co70, .slice Ao71 y578.length co71]) (ok := (fun k_ => some k_ ≠ (.slice Ao11 t525.length co11 : Value).ownBlock ∧ some k_ ≠ (.slice Ao12 t528.length co12 : Value).ownBlock ∧ some k_ ≠ (.slice Ao36 t549.length co36 : Value).ownBlock ∧ some k_ ≠ (v554 : Value).ownBlock ∧ k_ ≠ gb531)) (okp := (fun k_ => some k_ ≠ (.slice Ao11 t525.length co11 : Value).ownBlock ∧ some k_ ≠ (.slice Ao12 t528.length co12 : Value).ownBlock ∧ some k_ ≠ (.slice Ao36 t549.length co36 : Value).ownBlock ∧ some k_ ≠ (v554 : Value).ownBlock ∧ k_ ≠ gb531)) ?hr ?hp (fun _ hk => hk) ((show ∀ k_, w64.heap.size ≤ k_ → (fun k_ => some k_ ≠ (.slice Ao11 t525.length co11 : Value).ownBlock ∧ some k_ ≠ (.slice Ao12 t528.length co12 : Value).ownBlock ∧ some k_ ≠ (.slice Ao36 t549.length co36 : Value).ownBlock ∧ some k_ ≠ (v554 : Value).ownBlock ∧ k_ ≠ gb531) k_ from fun k_ hk => ⟨Kd.fresh' (Kd.R_lt (rq HO_4)) k_ hk, Kd.fresh' (Kd.R_lt (rq HO_5)) k_ hk, Kd.fresh' (Kd.R_lt (rq HO_16)) k_ hk, Kd.fresh' (Kd.R_lt (rq HO_17)) k_ hk, Kd.freshB (g := gb531) (o := .cells #[.int .i64 t523, .bool t524] 25 (0, 0)) (bq BK531) k_ hk⟩) _ (Nat.le_refl _)) (Below.refl _ _) (Nat.le_refl _) (by simp) ?_; (case hd => rfl); (case hg => rfl); (case hr => first | (go_simp; done) | (go_simp; rfl)); (case hp => exact (Reps.one (show Kd.FK (Kd.slice 3 (Kd.int .i64)) _ _ y563 [.slice Ao66 y563.length co66] from (Kd.FK_slice_mk (Kd.R_reads' (Kd.R_mono (ok' := (fun k_ => some k_ ≠ (.slice Ao11 t525.length co11 : Value).ownBlock ∧ some k_ ≠ (.slice Ao12 t528.length co12 : Value).ownBlock ∧ some k_ ≠ (.slice Ao36 t549.length co36 : Value).ownBlock ∧ some k_ ≠ (v554 : Value).ownBlock ∧ k_ ≠ gb531)) (Kd.R_types (HO565.out) BK531.out (by decide)) (fun k_ hk => ⟨hk.1.1.1.1.1.1.1.1.1.2, ⟨hk.1.1.1.1.1.1.1.1.2, ⟨hk.1.1.1.1.1.1.1.2, ⟨hk.1.1.1.1.1.1.2, hk.2⟩⟩⟩⟩))).2.1 (Kd.R_F (Kd.R_mono (ok' := (fun k_ => some k_ ≠ (.slice Ao11 t525.length co11 : Value).ownBlock ∧ some k_ ≠ (.slice Ao12 t528.length co12 : Value).ownBlock ∧ some k_ ≠ (.slice Ao36 t549.length co36 : Value).ownBlock ∧ some k_ ≠ (v554 : Value).ownBlock ∧ k_ ≠ gb531)) (Kd.R_types (HO565.out) BK531.out (by decide)) (fun k_ hk => ⟨hk.1.1.1.1.1.1.1.1.1.2, ⟨hk.1.1.1.1.1.1.1.1.2, ⟨hk.1.1.1.1.1.1.1.2, ⟨hk.1.1.1.1.1.1.2, hk.2⟩⟩⟩⟩))))) (Reps.one (show Kd.FK (Kd.slice 3 (Kd.int .i64)) _ _ y566 [.slice Ao67 y566.length co67] from (Kd.FK_slice_mk (Kd.R_reads' (Kd.R_mono (ok' := (fun k_ => some k_ ≠ (.slice Ao11 t525.length co11 : Value).ownBlock ∧ some k_ ≠ (.slice Ao12 t528.length co12 : Value).ownBlock ∧ some k_ ≠ (.slice Ao36 t549.length co36 : Value).ownBlock ∧ some k_ ≠ (v554 : Value).ownBlock ∧ k_ ≠ gb531)) (Kd.R_types (HO568.out) BK531.out (by decide)) (fun k_ hk => ⟨hk.1.1.1.1.1.1.1.1.1.2, ⟨hk.1.1.1.1.1.1.1.1.2, ⟨hk.1.1.1.1.1.1.1.2, ⟨hk.1.1.1.1.1.1.2, hk.2⟩⟩⟩⟩))).2.1 (Kd.R_F (Kd.R_mono (ok' := (fun k_ => some k_ ≠ (.slice Ao11 t525.length co11 : Value).ownBlock ∧ some k_ ≠ (.slice Ao12 t528.length co12 : Value).ownBlock ∧ some k_ ≠ (.slice Ao36 t549.length co36 : Value).ownBlock ∧ some k_ ≠ (v554 : Value).ownBlock ∧ k_ ≠ gb531)) (Kd.R_types (HO568.out) BK531.out (by decide)) (fun k_ hk => ⟨hk.1.1.1.1.1.1.1.1.1.2, ⟨hk.1.1.1.1.1.1.1.1.2, ⟨hk.1.1.1.1.1.1.1.2, ⟨hk.1.1.1.1.1.1.2, hk.2⟩⟩⟩⟩))))) (Reps.one (show Kd.FK (Kd.slice 3 (Kd.int .i64)) _ _ y569 [.slice Ao68 y569.length co68] from (Kd.FK_slice_mk (Kd.R_reads' (Kd.R_mono (ok' := (fun k_ => some k_ ≠ (.slice Ao11 t525.length co11 : Value).ownBlock ∧ some k_ ≠ (.slice Ao12 t528.length co12 : Value).ownBlock ∧ some k_ ≠ (.slice Ao36 t549.length co36 : Value).ownBlock ∧ some k_ ≠ (v554 : Value).ownBlock ∧ k_ ≠ gb531)) (Kd.R_types (HO571.out) BK531.out (by decide)) (fun k_ hk => ⟨hk.1.1.1.1.1.1.1.1.1.2, ⟨hk.1.1.1.1.1.1.1.1.2, ⟨hk.1.1.1.1.1.1.1.2, ⟨hk.1.1.1.1.1.1.2, hk.2⟩⟩⟩⟩))).2.1 (Kd.R_F (Kd.R_mono (ok' := (fun k_ => some k_ ≠ (.slice Ao11 t525.length co11 : Value).ownBlock ∧ some k_ ≠ (.slice Ao12 t528.length co12 : Value).ownBlock ∧ some k_ ≠ (.slice Ao36 t549.length co36 : Value).ownBlock ∧ some k_ ≠ (v554 : Value).ownBlock ∧ k_ ≠ gb531)) (Kd.R_types (HO571.out) BK531.out (by decide)) (fun k_ hk => ⟨hk.1.1.1.1.1.1.1.1.1.2, ⟨hk.1.1.1.1.1.1.1.1.2, ⟨hk.1.1.1.1.1.1.1.2, ⟨hk.1.1.1.1.1.1.2, hk.2⟩⟩⟩⟩))))) (Reps.one (show Kd.FK (Kd.slice 3 (Kd.int .i64)) _ _ y572 [.slice Ao69 y572.length co69] from (Kd.FK_slice_mk (Kd.R_reads' (Kd.R_mono (ok' := (fun k_ => some k_ ≠ (.slice Ao11 t525.length co11 : Value).ownBlock ∧ some k_ ≠ (.slice Ao12 t528.length co12 : Value).ownBlock ∧ some k_ ≠ (.slice Ao36 t549.length co36 : Value).ownBlock ∧ some k_ ≠ (v554 : Value).ownBlock ∧ k_ ≠ gb531)) (Kd.R_types (HO574.out) BK531.out (by decide)) (fun k_ hk => ⟨hk.1.1.1.1.1.1.1.1.1.2, ⟨hk.1.1.1.1.1.1.1.1.2, ⟨hk.1.1.1.1.1.1.1.2, ⟨hk.1.1.1.1.1.1.2, hk.2⟩⟩⟩⟩))).2.1 (Kd.R_F (Kd.R_mono (ok' := (fun k_ => some k_ ≠ (.slice Ao11 t525.length co11 : Value).ownBlock ∧ some k_ ≠ (.slice Ao12 t528.length co12 : Value).ownBlock ∧ some k_ ≠ (.slice Ao36 t549.length co36 : Value).ownBlock ∧ some k_ ≠ (v554 : Value).ownBlock ∧ k_ ≠ gb531)) (Kd.R_types (HO574.out) BK531.out (by decide)) (fun k_ hk => ⟨hk.1.1.1.1.1.1.1.1.1.2, ⟨hk.1.1.1.1.1.1.1.1.2, ⟨hk.1.1.1.1.1.1.1.2, ⟨hk.1.1.1.1.1.1.2, hk.2⟩⟩⟩⟩))))) (Reps.one (show Kd.FK (Kd.slice 3 (Kd.int .i64)) _ _ y575 [.slice Ao70 y575.length co70] from (Kd.FK_slice_mk (Kd.R_reads' (Kd.R_mono (ok' := (fun k_ => some k_ ≠ (.slice Ao11 t525.length co11 : Value).ownBlock ∧ some k_ ≠ (.slice Ao12 t528.length co12 : Value).ownBlock ∧ some k_ ≠ (.slice Ao36 t549.length co36 : Value).ownBlock ∧ some k_ ≠ (v554 : Value).ownBlock ∧ k_ ≠ gb531)) (Kd.R_types (HO577.out) BK531.out (by decide)) (fun k_ hk => ⟨hk.1.1.1.1.1.1.1.1.1.2, ⟨hk.1.1.1.1.1.1.1.1.2, ⟨hk.1.1.1.1.1.1.1.2, ⟨hk.1.1.1.1.1.1.2, hk.2⟩⟩⟩⟩))).2.1 (Kd.R_F (Kd.R_mono (ok' := (fun k_ => some k_ ≠ (.slice Ao11 t525.length co11 : Value).ownBlock ∧ some k_ ≠ (.slice Ao12 t528.length co12 : Value).ownBlock ∧ some k_ ≠ (.slice Ao36 t549.length co36 : Value).ownBlock ∧ some k_ ≠ (v554 : Value).ownBlock ∧ k_ ≠ gb531)) (Kd.R_types (HO577.out) BK531.out (by decide)) (fun k_ hk => ⟨hk.1.1.1.1.1.1.1.1.1.2, ⟨hk.1.1.1.1.1.1.1.1.2, ⟨hk.1.1.1.1.1.1.1.2, ⟨hk.1.1.1.1.1.1.2, hk.2⟩⟩⟩⟩))))) (Reps.one (show Kd.FK (Kd.slice 3 (Kd.int .i64)) _ _ y578 [.slice Ao71 y578.length co71] from (Kd.FK_slice_mk (Kd.R_reads' (Kd.R_mono (ok' := (fun k_ => some k_ ≠ (.slice Ao11 t525.length co11 : Value).ownBlock ∧ some k_ ≠ (.slice Ao12 t528.length co12 : Value).ownBlock ∧ some k_ ≠ (.slice Ao36 t549.length co36 : Value).ownBlock ∧ some k_ ≠ (v554 : Value).ownBlock ∧ k_ ≠ gb531)) (Kd.R_types (HO580.out) BK531.out (by decide)) (fun k_ hk => ⟨hk.1.1.1.1.1.1.1.1.1.2, ⟨hk.1.1.1.1.1.1.1.1.2, ⟨hk.1.1.1.1.1.1.1.2, ⟨hk.1.1.1.1.1.1.2, hk.2⟩⟩⟩⟩))).2.1 (Kd.R_F (Kd.R_mono (ok' := (fun k_ => some k_ ≠ (.slice Ao11 t525.length co11 : Value).ownBlock ∧ some k_ ≠ (.slice Ao12 t528.length co12 : Value).ownBlock ∧ some k_ ≠ (.slice Ao36 t549.length co36 : Value).ownBlock ∧ some k_ ≠ (v554 : Value).ownBlock ∧ k_ ≠ gb531)) (Kd.R_types (HO580.out) BK531.out (by decide)) (fun k_ hk => ⟨hk.1.1.1.1.1.1.1.1.1.2, ⟨hk.1.1.1.1.1.1.1.1.2, ⟨hk.1.1.1.1.1.1.1.2, ⟨hk.1.1.1.1.1.1.2, hk.2⟩⟩⟩⟩))))) (Reps.none _ _)))))))); intro v582 w72 ho73 hb hg_ hnew_; clear hg_ hnew_; (first | rw [← Ny581.out] at ho73 | (simp only [Int.reduceToNat] at ho73; rw [← Ny581.out] at ho73)); have n0_ := A_ (Kd.R_below (rq HO_4) hb); have n1_ := A_ (Kd.R_below (rq HO_5) hb); have n2_ := A_ (Kd.R_below (rq HO_16) hb); have n3_ := A_ (Kd.R_below (rq HO_17) hb); have n4_ := A_ (Kd.N_lower ho73 (below_size (hq HB))); have n5_ := A_ (blk_below (bq BK531) hb); have n6_ := A_ (below_step (hq HB) hb); clear HO_4; clear HO_5; clear HO_16; clear HO_17; clear BK531; clear HB; clear HO565; clear HO568; clear HO571; clear HO574; clear HO577; clear HO580; have HO_4 := n0_; have HO_5 := n1_; have HO_16 := n2_; have HO_17 := n3_; have HO583 := n4_; have BK531 := n5_; have HB := n6_; clear n0_ n1_ n2_ n3_ n4_ n5_ n6_; clear hb ho73)); try go_wp2_with (first | ((with_reducible refine gate_dst (N := 125) rfl ?_); (try (refine gate_guard (by rfl) ?_; dsimp only)); refine Kd.R_lit (Kd.int .i64) _ 3 ?hg (N := 125) ?hd (xs := ([0] : List Int)) (inner := [.int .i64 0]) (ok := fun _ => True) (okp := fun _ => True) ?hr ?hp (fun _ hk => hk) trivial (Below.refl _ _) (Nat.le_refl _) (by simp) ?_; (case hd => rfl); (case hg => rfl); (case hr => first | (go_simp; done) | (go_simp; rfl)); (case hp => exact (Reps.one (show Kd.M (Kd.int .i64) _ _ _ 0 [.int .i64 0] from rfl) (Reps.none _ _))); intro v564 w54 ho55 hb hg_ hnew_; clear hg_ hnew_; (first | rw [← Ny563.out] at ho55 | (simp only [Int.reduceToNat] at ho55; rw [← Ny563.out] at ho55)); have n0_ := A_ (Kd.R_elder' (rq HO_4) (Kd.R_base ho55) hb); have n1_ := A_ (Kd.R_elder' (rq HO_5) (Kd.R_base ho55) hb); have n2_ := A_ (Kd.R_elder' (rq HO_16) (Kd.R_base ho55) hb); have n3_ := A_ (Kd.R_elder' (rq HO_17) (Kd.R_base ho55) hb); have n4_ := A_ (Kd.R_lower (Kd.R_new' (Kd.R_new' (Kd.R_new' (Kd.R_new' ho55 (Kd.R_lt (rq HO_4))) (Kd.R_lt (rq HO_5))) (Kd.R_lt (rq HO_16))) (Kd.R_lt (rq HO_17))) (below_size (hq HB))); have n5_ := A_ (blk_below (bq BK531) hb); have n6_ := A_ (below_step (hq HB) hb); clear HO_4; clear HO_5; clear HO_16; clear HO_17; clear BK531; clear HB; have HO_4 := n0_; have HO_5 := n1_; have HO_16 := n2_; have HO_17 := n3_; have HO565 := n4_; have BK531 := n5_; have HB := n6_; clear n0_ n1_ n2_ n3_ n4_ n5_ n6_; clear hb ho55) | ((with_reducible refine gate_dst (N := 126) rfl ?_); (try (refine gate_guard (by rfl) ?_; dsimp only)); refine Kd.R_lit (Kd.int .i64) _ 3 ?hg (N := 126) ?hd (xs := ([1] : List Int)) (inner := [.int .i64 1]) (ok := fun _ => True) (okp := fun _ => True) ?hr ?hp (fun _ hk => hk) trivial (Below.refl _ _) (Nat.le_refl _) (by simp) ?_; (case hd => rfl); (case hg => rfl); (case hr => first | (go_simp; done) | (go_simp; rfl)); (case hp => exact (Reps.one (show Kd.M (Kd.int .i64) _ _ _ 1 [.int .i64 1] from rfl) (Reps.none _ _))); intro v567 w56 ho57 hb hg_ hnew_; clear hg_ hnew_; (first | rw [← Ny566.out] at ho57 | (simp only [Int.reduceToNat] at ho57; rw [← Ny566.out] at ho57)); have n0_ := A_ (Kd.R_elder' (rq HO_4) (Kd.R_base ho57) hb); have n1_ := A_ (Kd.R_elder' (rq HO_5) (Kd.R_base ho57) hb); have n2_ := A_ (Kd.R_elder' (rq HO_16) (Kd.R_base ho57) hb); have n3_ := A_ (Kd.R_elder' (rq HO_17) (Kd.R_base ho57) hb); have n4_ := A_ (Kd.R_elder' (rq HO565) (Kd.R_base ho57) hb); have n5_ := A_ (Kd.R_lower (Kd.R_new' (Kd.R_new' (Kd.R_new' (Kd.R_new' (Kd.R_new' ho57 (Kd.R_lt (rq HO_4))) (Kd.R_lt (rq HO_5))) (Kd.R_lt (rq HO_16))) (Kd.R_lt (rq HO_17))) (Kd.R_lt (rq HO565))) (below_size (hq HB))); have n6_ := A_ (blk_below (bq BK531) hb); have n7_ := A_ (below_step (hq HB) hb); clear HO_4; clear HO_5; clear HO_16; clear HO_17; clear HO565; clear BK531; clear HB; have HO_4 := n0_; have HO_5 := n1_; have HO_16 := n2_; have HO_17 := n3_; have HO565 := n4_; have HO568 := n5_; have BK531 := n6_; have HB := n7_; clear n0_ n1_ n2_ n3_ n4_ n5_ n6_ n7_; clear hb ho57) | ((with_reducible refine gate_dst (N := 127) rfl ?_); (try (refine gate_guard (by rfl) ?_; dsimp only)); refine Kd.R_lit (Kd.int .i64) _ 3 ?hg (N := 127) ?hd (xs := ([0, 0] : List Int)) (inner := [.int .i64 0, .int .i64 0]) (ok := fun _ => True) (okp := fun _ => True) ?hr ?hp (fun _ hk => hk) trivial (Below.refl _ _) (Nat.le_refl _) (by simp) ?_; (case hd => rfl); (case hg => rfl); (case hr => first | (go_simp; done) | (go_simp; rfl)); (case hp => exact (Reps.one (show Kd.M (Kd.int .i64) _ _ _ 0 [.int .i64 0] from rfl) (Reps.one (show Kd.M (Kd.int .i64) _ _ _ 0 [.int .i64 0] from rfl) (Reps.none _ _)))); intro v570 w58 ho59 hb hg_ hnew_; clear hg_ hnew_; (first | rw [← Ny569.out] at ho59 | (simp only [Int.reduceToNat] at ho59; rw [← Ny569.out] at ho59)); have n0_ := A_ (Kd.R_elder' (rq HO_4) (Kd.R_base ho59) hb); have n1_ := A_ (Kd.R_elder' (rq HO_5) (Kd.R_base ho59) hb); have n2_ := A_ (Kd.R_elder' (rq HO_16) (Kd.R_base ho59) hb); have n3_ := A_ (Kd.R_elder' (rq HO_17) (Kd.R_base ho59) hb); have n4_ := A_ (Kd.R_elder' (rq HO565) (Kd.R_base ho59) hb); have n5_ := A_ (Kd.R_elder' (rq HO568) (Kd.R_base ho59) hb); have n6_ := A_ (Kd.R_lower (Kd.R_new' (Kd.R_new' (Kd.R_new' (Kd.R_new' (Kd.R_new' (Kd.R_new' ho59 (Kd.R_lt (rq HO_4))) (Kd.R_lt (rq HO_5))) (Kd.R_lt (rq HO_16))) (Kd.R_lt (rq HO_17))) (Kd.R_lt (rq HO565))) (Kd.R_lt (rq HO568))) (below_size (hq HB))); have n7_ := A_ (blk_below (bq BK531) hb); have n8_ := A_ (below_step (hq HB) hb); clear HO_4; clear HO_5; clear HO_16; clear HO_17; clear HO565; clear HO568; clear BK531; clear HB; have HO_4 := n0_; have HO_5 := n1_; have HO_16 := n2_; have HO_17 := n3_; have HO565 := n4_; have HO568 := n5_; have HO571 := n6_; have BK531 := n7_; have HB := n8_; clear n0_ n1_ n2_ n3_ n4_ n5_ n6_ n7_ n8_; clear hb ho59) | ((with_reducible refine gate_dst (N := 128) rfl ?_); (try (refine gate_guard (by rfl) ?_; dsimp only)); refine Kd.R_lit (Kd.int .i64) _ 3 ?hg (N := 128) ?hd (xs := ([0, 1] : List Int)) (inner := [.int .i64 0, .int .i64 1]) (ok := fun _ => True) (okp := fun _ => True) ?hr ?hp (fun _ hk => hk) trivial (Below.refl _ _) (Nat.le_refl _) (by simp) ?_; (case hd => rfl); (case hg => rfl); (case hr => first | (go_simp; done) | (go_simp; rfl)); (case hp => exact (Reps.one (show Kd.M (Kd.int .i64) _ _ _ 0 [.int .i64 0] from rfl) (Reps.one (show Kd.M (Kd.int .i64) _ _ _ 1 [.int .i64 1] from rfl) (Reps.none _ _)))); intro v573 w60 ho61 hb hg_ hnew_; clear hg_ hnew_; (first | rw [← Ny572.out] at ho61 | (simp only [Int.reduceToNat] at ho61; rw [← Ny572.out] at ho61)); have n0_ := A_ (Kd.R_elder' (rq HO_4) (Kd.R_base ho61) hb); have n1_ := A_ (Kd.R_elder' (rq HO_5) (Kd.R_base ho61) hb); have n2_ := A_ (Kd.R_elder' (rq HO_16) (Kd.R_base ho61) hb); have n3_ := A_ (Kd.R_elder' (rq HO_17) (Kd.R_base ho61) hb); have n4_ := A_ (Kd.R_elder' (rq HO565) (Kd.R_base ho61) hb); have n5_ := A_ (Kd.R_elder' (rq HO568) (Kd.R_base ho61) hb); have n6_ := A_ (Kd.R_elder' (rq HO571) (Kd.R_base ho61) hb); have n7_ := A_ (Kd.R_lower (Kd.R_new' (Kd.R_new' (Kd.R_new' (Kd.R_new' (Kd.R_new' (Kd.R_new' (Kd.R_new' ho61 (Kd.R_lt (rq HO_4))) (Kd.R_lt (rq HO_5))) (Kd.R_lt (rq HO_16))) (Kd.R_lt (rq HO_17))) (Kd.R_lt (rq HO565))) (Kd.R_lt (rq HO568))) (Kd.R_lt (rq HO571))) (below_size (hq HB))); have n8_ := A_ (blk_below (bq BK531) hb); have n9_ := A_ (below_step (hq HB) hb); clear HO_4; clear HO_5; clear HO_16; clear HO_17; clear HO565; clear HO568; clear HO571; clear BK531; clear HB; have HO_4 := n0_; have HO_5 := n1_; have HO_16 := n2_; have HO_17 := n3_; have HO565 := n4_; have HO568 := n5_; have HO571 := n6_; have HO574 := n7_; have BK531 := n8_; have HB := n9_; clear n0_ n1_ n2_ n3_ n4_ n5_ n6_ n7_ n8_ n9_; clear hb ho61) | ((with_reducible refine gate_dst (N := 129) rfl ?_); (try (refine gate_guard (by rfl) ?_; dsimp only)); refine Kd.R_lit (Kd.int .i64) _ 3 ?hg (N := 129) ?hd (xs := ([1, 0] : List Int)) (inner := [.int .i64 1, .int .i64 0]) (ok := fun _ => True) (okp := fun _ => True) ?hr ?hp (fun _ hk => hk) trivial (Below.refl _ _) (Nat.le_refl _) (by simp) ?_; (case hd => rfl); (case hg => rfl); (case hr => first | (go_simp; done) | (go_simp; rfl)); (case hp => exact (Reps.one (show Kd.M (Kd.int .i64) _ _ _ 1 [.int .i64 1] from rfl) (Reps.one (show Kd.M (Kd.int .i64) _ _ _ 0 [.int .i64 0] from rfl) (Reps.none _ _)))); intro v576 w62 ho63 hb hg_ hnew_; clear hg_ hnew_; (first | rw [← Ny575.out] at ho63 | (simp only [Int.reduceToNat] at ho63; rw [← Ny575.out] at ho63)); have n0_ := A_ (Kd.R_elder' (rq HO_4) (Kd.R_base ho63) hb); have n1_ := A_ (Kd.R_elder' (rq HO_5) (Kd.R_base ho63) hb); have n2_ := A_ (Kd.R_elder' (rq HO_16) (Kd.R_base ho63) hb); have n3_ := A_ (Kd.R_elder' (rq HO_17) (Kd.R_base ho63) hb); have n4_ := A_ (Kd.R_elder' (rq HO565) (Kd.R_base ho63) hb); have n5_ := A_ (Kd.R_elder' (rq HO568) (Kd.R_base ho63) hb); have n6_ := A_ (Kd.R_elder' (rq HO571) (Kd.R_base ho63) hb); have n7_ := A_ (Kd.R_elder' (rq HO574) (Kd.R_base ho63) hb); have n8_ := A_ (Kd.R_lower (Kd.R_new' (Kd.R_new' (Kd.R_new' (Kd.R_new' (Kd.R_new' (Kd.R_new' (Kd.R_new' (Kd.R_new' ho63 (Kd.R_lt (rq HO_4))) (Kd.R_lt (rq HO_5))) (Kd.R_lt (rq HO_16))) (Kd.R_lt (rq HO_17))) (Kd.R_lt (rq HO565))) (Kd.R_lt (rq HO568))) (Kd.R_lt (rq HO571))) (Kd.R_lt (rq HO574))) (below_size (hq HB))); have n9_ := A_ (blk_below (bq BK531) hb); have n10_ := A_ (below_step (hq HB) hb); clear HO_4; clear HO_5; clear HO_16; clear HO_17; clear HO565; clear HO568; clear HO571; clear HO574; clear BK531; clear HB; have HO_4 := n0_; have HO_5 := n1_; have HO_16 := n2_; have HO_17 := n3_; have HO565 := n4_; have HO568 := n5_; have HO571 := n6_; have HO574 := n7_; have HO577 := n8_; have BK531 := n9_; have HB := n10_; clear n0_ n1_ n2_ n3_ n4_ n5_ n6_ n7_ n8_ n9_ n10_; clear hb ho63) | ((with_reducible refine gate_dst (N := 130) rfl ?_); (try (refine gate_guard (by rfl) ?_; dsimp only)); refine Kd.R_lit (Kd.int .i64) _ 3 ?hg (N := 130) ?hd (xs := ([1, 1] : List Int)) (inner := [.int .i64 1, .int .i64 1]) (ok := fun _ => True) (okp := fun _ => True) ?hr ?hp (fun _ hk => hk) trivial (Below.refl _ _) (Nat.le_refl _) (by simp) ?_; (case hd => rfl); (case hg => rfl); (case hr => first | (go_simp; done) | (go_simp; rfl)); (case hp => exact (Reps.one (show Kd.M (Kd.int .i64) _ _ _ 1 [.int .i64 1] from rfl) (Reps.one (show Kd.M (Kd.int .i64) _ _ _ 1 [.int .i64 1] from rfl) (Reps.none _ _)))); intro v579 w64 ho65 hb hg_ hnew_; clear hg_ hnew_; (first | rw [← Ny578.out] at ho65 | (simp only [Int.reduceToNat] at ho65; rw [← Ny578.out] at ho65)); have n0_ := A_ (Kd.R_elder' (rq HO_4) (Kd.R_base ho65) hb); have n1_ := A_ (Kd.R_elder' (rq HO_5) (Kd.R_base ho65) hb); have n2_ := A_ (Kd.R_elder' (rq HO_16) (Kd.R_base ho65) hb); have n3_ := A_ (Kd.R_elder' (rq HO_17) (Kd.R_base ho65) hb); have n4_ := A_ (Kd.R_elder' (rq HO565) (Kd.R_base ho65) hb); have n5_ := A_ (Kd.R_elder' (rq HO568) (Kd.R_base ho65) hb); have n6_ := A_ (Kd.R_elder' (rq HO571) (Kd.R_base ho65) hb); have n7_ := A_ (Kd.R_elder' (rq HO574) (Kd.R_base ho65) hb); have n8_ := A_ (Kd.R_elder' (rq HO577) (Kd.R_base ho65) hb); have n9_ := A_ (Kd.R_lower (Kd.R_new' (Kd.R_new' (Kd.R_new' (Kd.R_new' (Kd.R_new' (Kd.R_new' (Kd.R_new' (Kd.R_new' (Kd.R_new' ho65 (Kd.R_lt (rq HO_4))) (Kd.R_lt (rq HO_5))) (Kd.R_lt (rq HO_16))) (Kd.R_lt (rq HO_17))) (Kd.R_lt (rq HO565))) (Kd.R_lt (rq HO568))) (Kd.R_lt (rq HO571))) (Kd.R_lt (rq HO574))) (Kd.R_lt (rq HO577))) (below_size (hq HB))); have n10_ := A_ (blk_below (bq BK531) hb); have n11_ := A_ (below_step (hq HB) hb); clear HO_4; clear HO_5; clear HO_16; clear HO_17; clear HO565; clear HO568; clear HO571; clear HO574; clear HO577; clear BK531; clear HB; have HO_4 := n0_; have HO_5 := n1_; have HO_16 := n2_; have HO_17 := n3_; have HO565 := n4_; have HO568 := n5_; have HO571 := n6_; have HO574 := n7_; have HO577 := n8_; have HO580 := n9_; have BK531 := n10_; have HB := n11_; clear n0_ n1_ n2_ n3_ n4_ n5_ n6_ n7_ n8_ n9_ n10_ n11_; clear hb ho65; obtain ⟨Ao66, co66, eo66⟩ := Kd.R_slice HO565.out; subst eo66; obtain ⟨Ao67, co67, eo67⟩ := Kd.R_slice HO568.out; subst eo67; obtain ⟨Ao68, co68, eo68⟩ := Kd.R_slice HO571.out; subst eo68; obtain ⟨Ao69, co69, eo69⟩ := Kd.R_slice HO574.out; subst eo69; obtain ⟨Ao70, co70, eo70⟩ := Kd.R_slice HO577.out; subst eo70; obtain ⟨Ao71, co71, eo71⟩ := Kd.R_slice HO580.out; subst eo71) | ((with_reducible refine gate_dst (N := 131) rfl ?_); (try (refine gate_guard (by rfl) ?_; dsimp only)); refine Kd.N_lit (Kd.slice 3 (Kd.int .i64)) _ 26 ?hg (N' := 131) ?hd (xs := ([y563, y566, y569, y572, y575, y578] : List (List Int))) (inner := [.slice Ao66 y563.length co66, .slice Ao67 y566.length co67, .slice Ao68 y569.length co68, .slice Ao69 y572.length co69, .slice Ao70 y575.length co70, .slice Ao71 y578.length co71]) (ok := (fun k_ => some k_ ≠ (.slice Ao11 t525.length co11 : Value).ownBlock ∧ some k_ ≠ (.slice Ao12 t528.length co12 : Value).ownBlock ∧ some k_ ≠ (.slice Ao36 t549.length co36 : Value).ownBlock ∧ some k_ ≠ (v554 : Value).ownBlock ∧ k_ ≠ gb531)) (okp := (fun k_ => some k_ ≠ (.slice Ao11 t525.length co11 : Value).ownBlock ∧ some k_ ≠ (.slice Ao12 t528.length co12 : Value).ownBlock ∧ some k_ ≠ (.slice Ao36 t549.length co36 : Value).ownBlock ∧ some k_ ≠ (v554 : Value).ownBlock ∧ k_ ≠ gb531)) ?hr ?hp (fun _ hk => hk) ((show ∀ k_, w64.heap.size ≤ k_ → (fun k_ => some k_ ≠ (.slice Ao11 t525.length co11 : Value).ownBlock ∧ some k_ ≠ (.slice Ao12 t528.length co12 : Value).ownBlock ∧ some k_ ≠ (.slice Ao36 t549.length co36 : Value).ownBlock ∧ some k_ ≠ (v554 : Value).ownBlock ∧ k_ ≠ gb531) k_ from fun k_ hk => ⟨Kd.fresh' (Kd.R_lt (rq HO_4)) k_ hk, Kd.fresh' (Kd.R_lt (rq HO_5)) k_ hk, Kd.fresh' (Kd.R_lt (rq HO_16)) k_ hk, Kd.fresh' (Kd.R_lt (rq HO_17)) k_ hk, Kd.freshB (g := gb531) (o := .cells #[.int .i64 t523, .bool t524] 25 (0, 0)) (bq BK531) k_ hk⟩) _ (Nat.le_refl _)) (Below.refl _ _) (Nat.le_refl _) (by simp) ?_; (case hd => rfl); (case hg => rfl); (case hr => first | (go_simp; done) | (go_simp; rfl)); (case hp => exact (Reps.one (show Kd.FK (Kd.slice 3 (Kd.int .i64)) _ _ y563 [.slice Ao66 y563.length co66] from (Kd.FK_slice_mk (Kd.R_reads' (Kd.R_mono (ok' := (fun k_ => some k_ ≠ (.slice Ao11 t525.length co11 : Value).ownBlock ∧ some k_ ≠ (.slice Ao12 t528.length co12 : Value).ownBlock ∧ some k_ ≠ (.slice Ao36 t549.length co36 : Value).ownBlock ∧ some k_ ≠ (v554 : Value).ownBlock ∧ k_ ≠ gb531)) (Kd.R_types (HO565.out) BK531.out (by decide)) (fun k_ hk => ⟨hk.1.1.1.1.1.1.1.1.1.2, ⟨hk.1.1.1.1.1.1.1.1.2, ⟨hk.1.1.1.1.1.1.1.2, ⟨hk.1.1.1.1.1.1.2, hk.2⟩⟩⟩⟩))).2.1 (Kd.R_F (Kd.R_mono (ok' := (fun k_ => some k_ ≠ (.slice Ao11 t525.length co11 : Value).ownBlock ∧ some k_ ≠ (.slice Ao12 t528.length co12 : Value).ownBlock ∧ some k_ ≠ (.slice Ao36 t549.length co36 : Value).ownBlock ∧ some k_ ≠ (v554 : Value).ownBlock ∧ k_ ≠ gb531)) (Kd.R_types (HO565.out) BK531.out (by decide)) (fun k_ hk => ⟨hk.1.1.1.1.1.1.1.1.1.2, ⟨hk.1.1.1.1.1.1.1.1.2, ⟨hk.1.1.1.1.1.1.1.2, ⟨hk.1.1.1.1.1.1.2, hk.2⟩⟩⟩⟩))))) (Reps.one (show Kd.FK (Kd.slice 3 (Kd.int .i64)) _ _ y566 [.slice Ao67 y566.length co67] from (Kd.FK_slice_mk (Kd.R_reads' (Kd.R_mono (ok' := (fun k_ => some k_ ≠ (.slice Ao11 t525.length co11 : Value).ownBlock ∧ some k_ ≠ (.slice Ao12 t528.length co12 : Value).ownBlock ∧ some k_ ≠ (.slice Ao36 t549.length co36 : Value).ownBlock ∧ some k_ ≠ (v554 : Value).ownBlock ∧ k_ ≠ gb531)) (Kd.R_types (HO568.out) BK531.out (by decide)) (fun k_ hk => ⟨hk.1.1.1.1.1.1.1.1.1.2, ⟨hk.1.1.1.1.1.1.1.1.2, ⟨hk.1.1.1.1.1.1.1.2, ⟨hk.1.1.1.1.1.1.2, hk.2⟩⟩⟩⟩))).2.1 (Kd.R_F (Kd.R_mono (ok' := (fun k_ => some k_ ≠ (.slice Ao11 t525.length co11 : Value).ownBlock ∧ some k_ ≠ (.slice Ao12 t528.length co12 : Value).ownBlock ∧ some k_ ≠ (.slice Ao36 t549.length co36 : Value).ownBlock ∧ some k_ ≠ (v554 : Value).ownBlock ∧ k_ ≠ gb531)) (Kd.R_types (HO568.out) BK531.out (by decide)) (fun k_ hk => ⟨hk.1.1.1.1.1.1.1.1.1.2, ⟨hk.1.1.1.1.1.1.1.1.2, ⟨hk.1.1.1.1.1.1.1.2, ⟨hk.1.1.1.1.1.1.2, hk.2⟩⟩⟩⟩))))) (Reps.one (show Kd.FK (Kd.slice 3 (Kd.int .i64)) _ _ y569 [.slice Ao68 y569.length co68] from (Kd.FK_slice_mk (Kd.R_reads' (Kd.R_mono (ok' := (fun k_ => some k_ ≠ (.slice Ao11 t525.length co11 : Value).ownBlock ∧ some k_ ≠ (.slice Ao12 t528.length co12 : Value).ownBlock ∧ some k_ ≠ (.slice Ao36 t549.length co36 : Value).ownBlock ∧ some k_ ≠ (v554 : Value).ownBlock ∧ k_ ≠ gb531)) (Kd.R_types (HO571.out) BK531.out (by decide)) (fun k_ hk => ⟨hk.1.1.1.1.1.1.1.1.1.2, ⟨hk.1.1.1.1.1.1.1.1.2, ⟨hk.1.1.1.1.1.1.1.2, ⟨hk.1.1.1.1.1.1.2, hk.2⟩⟩⟩⟩))).2.1 (Kd.R_F (Kd.R_mono (ok' := (fun k_ => some k_ ≠ (.slice Ao11 t525.length co11 : Value).ownBlock ∧ some k_ ≠ (.slice Ao12 t528.length co12 : Value).ownBlock ∧ some k_ ≠ (.slice Ao36 t549.length co36 : Value).ownBlock ∧ some k_ ≠ (v554 : Value).ownBlock ∧ k_ ≠ gb531)) (Kd.R_types (HO571.out) BK531.out (by decide)) (fun k_ hk => ⟨hk.1.1.1.1.1.1.1.1.1.2, ⟨hk.1.1.1.1.1.1.1.1.2, ⟨hk.1.1.1.1.1.1.1.2, ⟨hk.1.1.1.1.1.1.2, hk.2⟩⟩⟩⟩))))) (Reps.one (show Kd.FK (Kd.slice 3 (Kd.int .i64)) _ _ y572 [.slice Ao69 y572.length co69] from (Kd.FK_slice_mk (Kd.R_reads' (Kd.R_mono (ok' := (fun k_ => some k_ ≠ (.slice Ao11 t525.length co11 : Value).ownBlock ∧ some k_ ≠ (.slice Ao12 t528.length co12 : Value).ownBlock ∧ some k_ ≠ (.slice Ao36 t549.length co36 : Value).ownBlock ∧ some k_ ≠ (v554 : Value).ownBlock ∧ k_ ≠ gb531)) (Kd.R_types (HO574.out) BK531.out (by decide)) (fun k_ hk => ⟨hk.1.1.1.1.1.1.1.1.1.2, ⟨hk.1.1.1.1.1.1.1.1.2, ⟨hk.1.1.1.1.1.1.1.2, ⟨hk.1.1.1.1.1.1.2, hk.2⟩⟩⟩⟩))).2.1 (Kd.R_F (Kd.R_mono (ok' := (fun k_ => some k_ ≠ (.slice Ao11 t525.length co11 : Value).ownBlock ∧ some k_ ≠ (.slice Ao12 t528.length co12 : Value).ownBlock ∧ some k_ ≠ (.slice Ao36 t549.length co36 : Value).ownBlock ∧ some k_ ≠ (v554 : Value).ownBlock ∧ k_ ≠ gb531)) (Kd.R_types (HO574.out) BK531.out (by decide)) (fun k_ hk => ⟨hk.1.1.1.1.1.1.1.1.1.2, ⟨hk.1.1.1.1.1.1.1.1.2, ⟨hk.1.1.1.1.1.1.1.2, ⟨hk.1.1.1.1.1.1.2, hk.2⟩⟩⟩⟩))))) (Reps.one (show Kd.FK (Kd.slice 3 (Kd.int .i64)) _ _ y575 [.slice Ao70 y575.length co70] from (Kd.FK_slice_mk (Kd.R_reads' (Kd.R_mono (ok' := (fun k_ => some k_ ≠ (.slice Ao11 t525.length co11 : Value).ownBlock ∧ some k_ ≠ (.slice Ao12 t528.length co12 : Value).ownBlock ∧ some k_ ≠ (.slice Ao36 t549.length co36 : Value).ownBlock ∧ some k_ ≠ (v554 : Value).ownBlock ∧ k_ ≠ gb531)) (Kd.R_types (HO577.out) BK531.out (by decide)) (fun k_ hk => ⟨hk.1.1.1.1.1.1.1.1.1.2, ⟨hk.1.1.1.1.1.1.1.1.2, ⟨hk.1.1.1.1.1.1.1.2, ⟨hk.1.1.1.1.1.1.2, hk.2⟩⟩⟩⟩))).2.1 (Kd.R_F (Kd.R_mono (ok' := (fun k_ => some k_ ≠ (.slice Ao11 t525.length co11 : Value).ownBlock ∧ some k_ ≠ (.slice Ao12 t528.length co12 : Value).ownBlock ∧ some k_ ≠ (.slice Ao36 t549.length co36 : Value).ownBlock ∧ some k_ ≠ (v554 : Value).ownBlock ∧ k_ ≠ gb531)) (Kd.R_types (HO577.out) BK531.out (by decide)) (fun k_ hk => ⟨hk.1.1.1.1.1.1.1.1.1.2, ⟨hk.1.1.1.1.1.1.1.1.2, ⟨hk.1.1.1.1.1.1.1.2, ⟨hk.1.1.1.1.1.1.2, hk.2⟩⟩⟩⟩))))) (Reps.one (show Kd.FK (Kd.slice 3 (Kd.int .i64)) _ _ y578 [.slice Ao71 y578.length co71] from (Kd.FK_slice_mk (Kd.R_reads' (Kd.R_mono (ok' := (fun k_ => some k_ ≠ (.slice Ao11 t525.length co11 : Value).ownBlock ∧ some k_ ≠ (.slice Ao12 t528.length co12 : Value).ownBlock ∧ some k_ ≠ (.slice Ao36 t549.length co36 : Value).ownBlock ∧ some k_ ≠ (v554 : Value).ownBlock ∧ k_ ≠ gb531)) (Kd.R_types (HO580.out) BK531.out (by decide)) (fun k_ hk => ⟨hk.1.1.1.1.1.1.1.1.1.2, ⟨hk.1.1.1.1.1.1.1.1.2, ⟨hk.1.1.1.1.1.1.1.2, ⟨hk.1.1.1.1.1.1.2, hk.2⟩⟩⟩⟩))).2.1 (Kd.R_F (Kd.R_mono (ok' := (fun k_ => some k_ ≠ (.slice Ao11 t525.length co11 : Value).ownBlock ∧ some k_ ≠ (.slice Ao12 t528.length co12 : Value).ownBlock ∧ some k_ ≠ (.slice Ao36 t549.length co36 : Value).ownBlock ∧ some k_ ≠ (v554 : Value).ownBlock ∧ k_ ≠ gb531)) (Kd.R_types (HO580.out) BK531.out (by decide)) (fun k_ hk => ⟨hk.1.1.1.1.1.1.1.1.1.2, ⟨hk.1.1.1.1.1.1.1.1.2, ⟨hk.1.1.1.1.1.1.1.2, ⟨hk.1.1.1.1.1.1.2, hk.2⟩⟩⟩⟩))))) (Reps.none _ _)))))))); intro v582 w72 ho73 hb hg_ hnew_; clear hg_ hnew_; (first | rw [← Ny581.out] at ho73 | (simp only [Int.reduceToNat] at ho73; rw [← Ny581.out] at ho73)); have n0_ := A_ (Kd.R_below (rq HO_4) hb); have n1_ := A_ (Kd.R_below (rq HO_5) hb); have n2_ := A_ (Kd.R_below (rq HO_16) hb); have n3_ := A_ (Kd.R_below (rq HO_17) hb); have n4_ := A_ (Kd.N_lower ho73 (below_size (hq HB))); have n5_ := A_ (blk_below (bq BK531) hb); have n6_ := A_ (below_step (hq HB) hb); clear HO_4; clear HO_5; clear HO_16; clear HO_17; clear BK531; clear HB; clear HO565; clear HO568; clear HO571; clear HO574; clear HO577; clear HO580; have HO_4 := n0_; have HO_5 := n1_; have HO_16 := n2_; have HO_17 := n3_; have HO583 := n4_; have BK531 := n5_; have HB := n6_; clear n0_ n1_ n2_ n3_ n4_ n5_ n6_; clear hb ho73)))
                     go_loopg [22] kj43 (fun kq v22 w' => ∃ (x22_5 : Int), v22 = .int .i64 x22_5 ∧ Aside0 (laws_FnLabels.l0 kq t525 t528 t532 t533 t549 t552 y581 x22_5 t523 t524 = some r) ∧ Aside0 (kq ≤ kj43) ∧ Aside0 (Kd.R (Kd.int .i64) 3 w' w.heap.size (fun k_ => some k_ ≠ ((.slice Ao12 t528.length co12) : Value).ownBlock ∧ some k_ ≠ ((.slice Ao36 t549.length co36) : Value).ownBlock ∧ some k_ ≠ (v554 : Value).ownBlock) (.slice Ao11 t525.length co11) t525) ∧ Aside0 (Kd.R (Kd.int .i64) 3 w' w.heap.size (fun k_ => some k_ ≠ ((.slice Ao11 t525.length co11) : Value).ownBlock ∧ some k_ ≠ ((.slice Ao36 t549.length co36) : Value).ownBlock ∧ some k_ ≠ (v554 : Value).ownBlock) (.slice Ao12 t528.length co12) t528) ∧ Aside0 (Kd.R (Kd.int .i64) 3 w' w.heap.size (fun k_ => some k_ ≠ ((.slice Ao11 t525.length co11) : Value).ownBlock ∧ some k_ ≠ ((.slice Ao12 t528.length co12) : Value).ownBlock ∧ some k_ ≠ (v554 : Value).ownBlock) (.slice Ao36 t549.length co36) t549) ∧ Aside0 (Kd.R (Kd.int .i64) 3 w' w.heap.size (fun k_ => some k_ ≠ ((.slice Ao11 t525.length co11) : Value).ownBlock ∧ some k_ ≠ ((.slice Ao12 t528.length co12) : Value).ownBlock ∧ some k_ ≠ ((.slice Ao36 t549.length co36) : Value).ownBlock) v554 t552) ∧ Aside0 (Kd.N (Kd.slice 3 (Kd.int .i64)) 26 w' w.heap.size (fun k_ => some k_ ≠ ((.slice Ao11 t525.length co11) : Value).ownBlock ∧ some k_ ≠ ((.slice Ao12 t528.length co12) : Value).ownBlock ∧ some k_ ≠ ((.slice Ao36 t549.length co36) : Value).ownBlock ∧ some k_ ≠ (v554 : Value).ownBlock ∧ k_ ≠ gb531) v582 y581) ∧ Aside0 (w'.heap[gb531]? = some (.cells #[.int .i64 t523, .bool t524] 25 (0, 0))) ∧ Aside0 (Below w.heap.size w w'))
                     case atStart => exact ⟨(0), (by first | rfl | (simp; done) | (simp [*]; done)), H', ⟨Nat.le_refl _⟩, ⟨by (with_reducible repeat (first | apply Kd.R_alloc | apply Kd.R_drewN | apply Kd.R_drew)); exact Kd.R_mono HO_4.out (fun _ hk => ⟨hk.1.1.1.1.1.1.1, ⟨hk.1.1.1.1.1.1.2.1, hk.1.1.1.1.1.1.2.2⟩⟩)⟩, ⟨by (with_reducible repeat (first | apply Kd.R_alloc | apply Kd.R_drewN | apply Kd.R_drew)); exact Kd.R_mono HO_5.out (fun _ hk => ⟨hk.1.1.1.1.1.1.1, ⟨hk.1.1.1.1.1.1.2.1, hk.1.1.1.1.1.1.2.2⟩⟩)⟩, ⟨by (with_reducible repeat (first | apply Kd.R_alloc | apply Kd.R_drewN | apply Kd.R_drew)); exact Kd.R_mono HO_16.out (fun _ hk => ⟨hk.1.1.1.1.1.1.1, ⟨hk.1.1.1.1.1.1.2.1, hk.1.1.1.1.1.1.2.2⟩⟩)⟩, ⟨by (with_reducible repeat (first | apply Kd.R_alloc | apply Kd.R_drewN | apply Kd.R_drew)); exact Kd.R_mono HO_17.out (fun _ hk => ⟨hk.1.1.1.1.1.1.1, ⟨hk.1.1.1.1.1.1.2.1, hk.1.1.1.1.1.1.2.2⟩⟩)⟩, ⟨Go.Proofs.Ytmamhnbhahafgaa.Own.nq HO583⟩, ⟨bq BK531⟩, ⟨hq HB⟩⟩
                     case round =>
                      as_aux_lemma =>
                       clear H'
                       try clear c1
                       try clear c2
                       try clear p2
                       try clear c3
                       try clear c4
                       try clear c5
                       try clear p6
                       try clear c16
                       try clear c16b0
                       try clear c16b1
                       try clear c17
                       try clear c26
                       try clear c26b0
                       try clear c26b1
                       try clear c26b2
                       try clear c30
                       try clear c39
                       try clear c39b0
                       try clear c39b1
                       try clear c39b2
                       try clear c43
                       try clear c45
                       try clear c46
                       try clear c46b0
                       try clear c46b1
                       try clear c51
                       try clear c53
                       try clear p64
                       try clear hcz10_0
                       try clear hcz10_1
                       try clear hcz14_0
                       try clear hcz14_1
                       try clear hfz10_0
                       try clear hfz10_1
                       try clear hfz14_0
                       try clear hfz14_1
                       try clear p2
                       try clear p6
                       obtain ⟨x22_5, rfl, HA, HK5, HO_4, HO_5, HO_16, HO_17, HO_21, BK531, HB⟩ := hrel
                       cases gk with
                       | zero => exact absurd HA.out (by simp [laws_FnLabels.l0])
                       | succ k5 =>
                        have H := HA.out
                        clear HA
                        simp only [laws_FnLabels.l0] at H
                        by_cases c74 : x22_5 < (y581.length : Int)
                        ·
                         rw [if_pos c74] at H
                         have c74b0 : decide (x22_5 < (y581.length : Int)) = true := decide_eq_true c74
                         clear c74
                         (first | rw [c74b0] | (simp only [i64_w, i32_w]; rw [c74b0]) | skip)
                         by_cases c75 : 0 ≤ x22_5
                         ·
                          rw [if_pos c75] at H
                          have c75b0 : decide (0 ≤ x22_5) = true := decide_eq_true c75
                          clear c75
                          replace H := Option.bind_eq_some_iff.mp H
                          obtain ⟨⟨t585, t586⟩, A760, H⟩ := H
                          replace H : (if t586 = true then (laws_FnLabels.l1 k5 t525 t528 t532 t533 t549 t552 y581 x22_5 t585 (decide ((t585.length : Int) ≤ (t552.length : Int))) 0 t523 t524) else (some false)) = some r := H
                          have A76 := A_ A760
                          clear A760
                          by_cases c77 : t586 = true
                          ·
                           subst c77
                           have H1 : (laws_FnLabels.l1 k5 t525 t528 t532 t533 t549 t552 y581 x22_5 t585 (decide ((t585.length : Int) ≤ (t552.length : Int))) 0 t523 t524) = some r := by rw [if_pos rfl] at H; exact H
                           clear H
                           have H := H1
                           clear H1
                           have H' := A_ H
                           clear H
                           obtain ⟨Ao78, co78, eo78⟩ := Kd.N_slice HO_21.out
                           subst eo78
                           have p584 : 0 ≤ (x22_5 : Int) := of_decide_eq_true (by first | (with_reducible assumption) | assumption)
                           have q584 : x22_5 < (y581.length : Int) := of_decide_eq_true (by first | (with_reducible assumption) | assumption)
                           obtain ⟨ad584, A584_0, c584_0, e584, hx584_0, hl584_0, hi584_0⟩ := at_L2 (Kd.N_reads' HO_21.out).2.2 x22_5 p584 q584
                           cases e584
                           obtain ⟨ce584, hce584, hMe584, hcc584⟩ := Kd.N_get HO_21.out [] x22_5 p584 (by first | exact q584 | exact of_decide_eq_true (by first | (with_reducible assumption) | assumption) | (have e_ := (Kd.N_reads' HO_21.out).1; omega))
                           obtain ⟨ua584_0, uc584_0, rfl, ul584_0, ge584_0⟩ := Kd.FK_slice_open hMe584
                           have hv584_0 := hcc584 0 _ rfl
                           rw [Nat.add_zero, show ((Kd.slice 3 (Kd.int .i64))).sz = 1 from rfl, Nat.mul_one] at hv584_0
                           replace hv584_0 := Option.some.inj (hv584_0.symm.trans hx584_0)
                           injection hv584_0 with hva_ hvn_ hvc_
                           rw [hva_] at ge584_0
                           rw [hvc_] at ul584_0
                           have HL584_0 := A_ (show Kd.V (Kd.int .i64) 3 _ w.heap.size _ _ (rd_L2 y581 x22_5) from Kd.V_mk ul584_0 ge584_0)
                           clear hva_ hvn_ hvc_ ge584_0 ul584_0 hcc584 hce584
                           have HR584_0 := A_ hi584_0
                           have HC584_0 := A_ hl584_0
                           clear hi584_0 hl584_0
                           replace p584 := eq_true p584
                           replace q584 := eq_true q584
                           go_wp2_with (first | (go_at_call 46; (with_reducible refine (impl_DoubleLabel.calls k5 _ _ (rd_L2 y581 x22_5) t585 true _ ?side1 ?side2 A76.out).mono ?_); (case side1 => repeat (first | exact (by repeat (first | (with_reducible exact HR584_0.out) | (with_reducible refine Kd.C_alloc ?_ _) | (with_reducible refine Kd.C_drewN ?_ _) | (with_reducible refine Kd.C_drew ?_) | exact HR584_0.out)) | (with_reducible refine Kd.C_alloc ?_ _) | (with_reducible refine Kd.C_drewN ?_ _) | (with_reducible refine Kd.C_drew ?_))); (case side2 => exact HC584_0.out); rintro e w79 ⟨v587, rfl, ho0, hb⟩; have n0_ := A_ (Kd.R_elder' (rq HO_4) (Kd.R_base ho0) hb); have n1_ := A_ (Kd.R_elder' (rq HO_5) (Kd.R_base ho0) hb); have n2_ := A_ (Kd.R_elder' (rq HO_16) (Kd.R_base ho0) hb); have n3_ := A_ (Kd.R_elder' (rq HO_17) (Kd.R_base ho0) hb); have n4_ := A_ (Kd.N_elder' (Go.Proofs.Ytmamhnbhahafgaa.Own.nq HO_21) (Kd.R_base ho0) hb); have n5_ := A_ (Kd.V_elder' (by (with_reducible repeat (first | apply Kd.V_alloc | apply Kd.V_drewN | apply Kd.V_drew)); exact HL584_0.out) (Kd.R_base ho0) hb); have n6_ := A_ (Kd.R_lower (Kd.R_new' (Kd.R_new' (Kd.R_new' (Kd.R_new' ho0 (Kd.R_lt (rq HO_4))) (Kd.R_lt (rq HO_5))) (Kd.R_lt (rq HO_16))) (Kd.R_lt (rq HO_17))) (below_size (hq HB))); have n7_ := A_ (blk_below (bq BK531) hb); have n8_ := A_ (Kd.C_below (by repeat (first | (with_reducible exact HR584_0.out) | (with_reducible refine Kd.C_alloc ?_ _) | (with_reducible refine Kd.C_drewN ?_ _) | (with_reducible refine Kd.C_drew ?_) | exact HR584_0.out)) hb); have n9_ := A_ (below_step (hq HB) hb); clear HO_4; clear HO_5; clear HO_16; clear HO_17; clear HO_21; clear HL584_0; clear BK531; clear HR584_0; clear HB; have HO_4 := n0_; have HO_5 := n1_; have HO_16 := n2_; have HO_17 := n3_; have HO_21 := n4_; have HL584_0 := n5_; have HO588 := n6_; have BK531 := n7_; have HR584_0 := n8_; have HB := n9_; clear n0_ n1_ n2_ n3_ n4_ n5_ n6_ n7_ n8_ n9_; (try clear hb); (try clear hb2); (try clear hk); (try clear hi); (try clear ho0); obtain ⟨Ao80, co80, eo80⟩ := Kd.R_slice HO588.out; subst eo80; obtain ⟨Ao81, co81, eo81⟩ := Kd.R_slice HO_17.out; subst eo81))
                           repeat (go_quiet (first | (go_at_call 46; (with_reducible refine (impl_DoubleLabel.calls k5 _ _ (rd_L2 y581 x22_5) t585 true _ ?side1 ?side2 A76.out).mono ?_); (case side1 => repeat (first | exact (by repeat (first | (with_reducible exact HR584_0.out) | (with_reducible refine Kd.C_alloc ?_ _) | (with_reducible refine Kd.C_drewN ?_ _) | (with_reducible refine Kd.C_drew ?_) | exact HR584_0.out)) | (with_reducible refine Kd.C_alloc ?_ _) | (with_reducible refine Kd.C_drewN ?_ _) | (with_reducible refine Kd.C_drew ?_))); (case side2 => exact HC584_0.out); rintro e w79 ⟨v587, rfl, ho0, hb⟩; have n0_ := A_ (Kd.R_elder' (rq HO_4) (Kd.R_base ho0) hb); have n1_ := A_ (Kd.R_elder' (rq HO_5) (Kd.R_base ho0) hb); have n2_ := A_ (Kd.R_elder' (rq HO_16) (Kd.R_base ho0) hb); have n3_ := A_ (Kd.R_elder' (rq HO_17) (Kd.R_base ho0) hb); have n4_ := A_ (Kd.N_elder' (Go.Proofs.Ytmamhnbhahafgaa.Own.nq HO_21) (Kd.R_base ho0) hb); have n5_ := A_ (Kd.V_elder' (by (with_reducible repeat (first | apply Kd.V_alloc | apply Kd.V_drewN | apply Kd.V_drew)); exact HL584_0.out) (Kd.R_base ho0) hb); have n6_ := A_ (Kd.R_lower (Kd.R_new' (Kd.R_new' (Kd.R_new' (Kd.R_new' ho0 (Kd.R_lt (rq HO_4))) (Kd.R_lt (rq HO_5))) (Kd.R_lt (rq HO_16))) (Kd.R_lt (rq HO_17))) (below_size (hq HB))); have n7_ := A_ (blk_below (bq BK531) hb); have n8_ := A_ (Kd.C_below (by repeat (first | (with_reducible exact HR584_0.out) | (with_reducible refine Kd.C_alloc ?_ _) | (with_reducible refine Kd.C_drewN ?_ _) | (with_reducible refine Kd.C_drew ?_) | exact HR584_0.out)) hb); have n9_ := A_ (below_step (hq HB) hb); clear HO_4; clear HO_5; clear HO_16; clear HO_17; clear HO_21; clear HL584_0; clear BK531; clear HR584_0; clear HB; have HO_4 := n0_; have HO_5 := n1_; have HO_16 := n2_; have HO_17 := n3_; have HO_21 := n4_; have HL584_0 := n5_; have HO588 := n6_; have BK531 := n7_; have HR584_0 := n8_; have HB := n9_; clear n0_ n1_ n2_ n3_ n4_ n5_ n6_ n7_ n8_ n9_; (try clear hb); (try clear hb2); (try clear hk); (try clear hi); (try clear ho0); obtain ⟨Ao80, co80, eo80⟩ := Kd.R_slice HO588.out; subst eo80; obtain ⟨Ao81, co81, eo81⟩ := Kd.R_slice HO_17.out; subst eo81)); try go_wp2_with (first | (go_at_call 46; (with_reducible refine (impl_DoubleLabel.calls k5 _ _ (rd_L2 y581 x22_5) t585 true _ ?side1 ?side2 A76.out).mono ?_); (case side1 => repeat (first | exact (by repeat (first | (with_reducible exact HR584_0.out) | (with_reducible refine Kd.C_alloc ?_ _) | (with_reducible refine Kd.C_drewN ?_ _) | (with_reducible refine Kd.C_drew ?_) | exact HR584_0.out)) | (with_reducible refine Kd.C_alloc ?_ _) | (with_reducible refine Kd.C_drewN ?_ _) | (with_reducible refine Kd.C_drew ?_))); (case side2 => exact HC584_0.out); rintro e w79 ⟨v587, rfl, ho0, hb⟩; have n0_ := A_ (Kd.R_elder' (rq HO_4) (Kd.R_base ho0) hb); have n1_ := A_ (Kd.R_elder' (rq HO_5) (Kd.R_base ho0) hb); have n2_ := A_ (Kd.R_elder' (rq HO_16) (Kd.R_base ho0) hb); have n3_ := A_ (Kd.R_elder' (rq HO_17) (Kd.R_base ho0) hb); have n4_ := A_ (Kd.N_elder' (Go.Proofs.Ytmamhnbhahafgaa.Own.nq HO_21) (Kd.R_base ho0) hb); have n5_ := A_ (Kd.V_elder' (by (with_reducible repeat (first | apply Kd.V_alloc | apply Kd.V_drewN | apply Kd.V_drew)); exact HL584_0.out) (Kd.R_base ho0) hb); have n6_ := A_ (Kd.R_lower (Kd.R_new' (Kd.R_new' (Kd.R_new' (Kd.R_new' ho0 (Kd.R_lt (rq HO_4))) (Kd.R_lt (rq HO_5))) (Kd.R_lt (rq HO_16))) (Kd.R_lt (rq HO_17))) (below_size (hq HB))); have n7_ := A_ (blk_below (bq BK531) hb); have n8_ := A_ (Kd.C_below (by repeat (first | (with_reducible exact HR584_0.out) | (with_reducible refine Kd.C_alloc ?_ _) | (with_reducible refine Kd.C_drewN ?_ _) | (with_reducible refine Kd.C_drew ?_) | exact HR584_0.out)) hb); have n9_ := A_ (below_step (hq HB) hb); clear HO_4; clear HO_5; clear HO_16; clear HO_17; clear HO_21; clear HL584_0; clear BK531; clear HR584_0; clear HB; have HO_4 := n0_; have HO_5 := n1_; have HO_16 := n2_; have HO_17 := n3_; have HO_21 := n4_; have HL584_0 := n5_; have HO588 := n6_; have BK531 := n7_; have HR584_0 := n8_; have HB := n9_; clear n0_ n1_ n2_ n3_ n4_ n5_ n6_ n7_ n8_ n9_; (try clear hb); (try clear hb2); (try clear hk); (try clear hi); (try clear ho0); obtain ⟨Ao80, co80, eo80⟩ := Kd.R_slice HO588.out; subst eo80; obtain ⟨Ao81, co81, eo81⟩ := Kd.R_slice HO_17.out; subst eo81)))
                           go_loopg [25, 26] k5 (fun kq v25 v26 w' => ∃ (x25_6 : Bool) (x26_6 : Int), v25 = .bool x25_6 ∧ v26 = .int .i64 x26_6 ∧ Aside0 (laws_FnLabels.l1 kq t525 t528 t532 t533 t549 t552 y581 x22_5 t585 x25_6 x26_6 t523 t524 = some r) ∧ Aside0 (kq ≤ k5) ∧ Aside0 (Kd.R (Kd.int .i64) 3 w' w.heap.size (fun k_ => some k_ ≠ ((.slice Ao12 t528.length co12) : Value).ownBlock ∧ some k_ ≠ ((.slice Ao36 t549.length co36) : Value).ownBlock ∧ some k_ ≠ ((.slice Ao81 t552.length co81) : Value).ownBlock ∧ some k_ ≠ ((.slice Ao80 t585.length co80) : Value).ownBlock) (.slice Ao11 t525.length co11) t525) ∧ Aside0 (Kd.R (Kd.int .i64) 3 w' w.heap.size (fun k_ => some k_ ≠ ((.slice Ao11 t525.length co11) : Value).ownBlock ∧ some k_ ≠ ((.slice Ao36 t549.length co36) : Value).ownBlock ∧ some k_ ≠ ((.slice Ao81 t552.length co81) : Value).ownBlock ∧ some k_ ≠ ((.slice Ao80 t585.length co80) : Value).ownBlock) (.slice Ao12 t528.length co12) t528) ∧ Aside0 (Kd.R (Kd.int .i64) 3 w' w.heap.size (fun k_ => some k_ ≠ ((.slice Ao11 t525.length co11) : Value).ownBlock ∧ some k_ ≠ ((.slice Ao12 t528.length co12) : Value).ownBlock ∧ some k_ ≠ ((.slice Ao81 t552.length co81) : Value).ownBlock ∧ some k_ ≠ ((.slice Ao80 t585.length co80) : Value).ownBlock) (.slice Ao36 t549.length co36) t549) ∧ Aside0 (Kd.R (Kd.int .i64) 3 w' w.heap.size (fun k_ => some k_ ≠ ((.slice Ao11 t525.length co11) : Value).ownBlock ∧ some k_ ≠ ((.slice Ao12 t528.length co12) : Value).ownBlock ∧ some k_ ≠ ((.slice Ao36 t549.length co36) : Value).ownBlock ∧ some k_ ≠ ((.slice Ao80 t585.length co80) : Value).ownBlock) (.slice Ao81 t552.length co81) t552) ∧ Aside0 (Kd.N (Kd.slice 3 (Kd.int .i64)) 26 w' w.heap.size (fun k_ => some k_ ≠ ((.slice Ao11 t525.length co11) : Value).ownBlock ∧ some k_ ≠ ((.slice Ao12 t528.length co12) : Value).ownBlock ∧ some k_ ≠ ((.slice Ao36 t549.length co36) : Value).ownBlock ∧ some k_ ≠ ((.slice Ao81 t552.length co81) : Value).ownBlock ∧ some k_ ≠ ((.slice Ao80 t585.length co80) : Value).ownBlock ∧ k_ ≠ gb531) (.slice (some ad584) y581.length co78) y581) ∧ Aside0 (Kd.R (Kd.int .i64) 3 w' w.heap.size (fun k_ => some k_ ≠ ((.slice Ao11 t525.length co11) : Value).ownBlock ∧ some k_ ≠ ((.slice Ao12 t528.length co12) : Value).ownBlock ∧ some k_ ≠ ((.slice Ao36 t549.length co36) : Value).ownBlock ∧ some k_ ≠ ((.slice Ao81 t552.length co81) : Value).ownBlock) (.slice Ao80 t585.length co80) t585) ∧ Aside0 (w'.heap[gb531]? = some (.cells #[.int .i64 t523, .bool t524] 25 (0, 0))) ∧ Aside0 (Kd.C (Kd.int .i64) w' A584_0 (rd_L2 y581 x22_5).length (rd_L2 y581 x22_5)) ∧ Aside0 (Below w.heap.size w w'))
                           case atStart => exact ⟨(decide ((t585.length : Int) ≤ (t552.length : Int))), (0), (by first | rfl | (simp; done) | (simp [*]; done)), (by first | rfl | (simp; done) | (simp [*]; done)), H', ⟨Nat.le_refl _⟩, ⟨by (with_reducible repeat (first | apply Kd.R_alloc | apply Kd.R_drewN | apply Kd.R_drew)); exact Kd.R_mono HO_4.out (fun _ hk => ⟨hk.1.1, ⟨hk.1.2.1, ⟨hk.1.2.2, hk.2⟩⟩⟩)⟩, ⟨by (with_reducible repeat (first | apply Kd.R_alloc | apply Kd.R_drewN | apply Kd.R_drew)); exact Kd.R_mono HO_5.out (fun _ hk => ⟨hk.1.1, ⟨hk.1.2.1, ⟨hk.1.2.2, hk.2⟩⟩⟩)⟩, ⟨by (with_reducible repeat (first | apply Kd.R_alloc | apply Kd.R_drewN | apply Kd.R_drew)); exact Kd.R_mono HO_16.out (fun _ hk => ⟨hk.1.1, ⟨hk.1.2.1, ⟨hk.1.2.2, hk.2⟩⟩⟩)⟩, ⟨by (with_reducible repeat (first | apply Kd.R_alloc | apply Kd.R_drewN | apply Kd.R_drew)); exact Kd.R_mono HO_17.out (fun _ hk => ⟨hk.1.1, ⟨hk.1.2.1, ⟨hk.1.2.2, hk.2⟩⟩⟩)⟩, ⟨by (with_reducible repeat (first | apply Kd.N_alloc | apply Kd.N_drewN | apply Kd.N_drew)); exact Kd.N_mono HO_21.out (fun _ hk => ⟨hk.1.1, ⟨hk.1.2.1, ⟨hk.1.2.2.1, ⟨hk.1.2.2.2.1, ⟨hk.2, hk.1.2.2.2.2⟩⟩⟩⟩⟩)⟩, ⟨by (with_reducible repeat (first | apply Kd.R_alloc | apply Kd.R_drewN | apply Kd.R_drew)); exact Kd.R_mono HO588.out (fun _ hk => ⟨hk.1.1.1.2, ⟨hk.1.1.2, ⟨hk.1.2, hk.2⟩⟩⟩)⟩, ⟨bq BK531⟩, ⟨by repeat (first | (with_reducible exact HR584_0.out) | (with_reducible refine Kd.C_alloc ?_ _) | (with_reducible refine Kd.C_drewN ?_ _) | (with_reducible refine Kd.C_drew ?_) | exact HR584_0.out)⟩, ⟨hq HB⟩⟩
                           case round =>
                            as_aux_lemma =>
                             clear H'
                             try clear c1
                             try clear c2
                             try clear p2
                             try clear c3
                             try clear c4
                             try clear c5
                             try clear p5
                             try clear q5
                             try clear hx5
                             try clear p6
                             try clear c7
                             try clear c16
                             try clear c16b0
                             try clear c16b1
                             try clear c17
                             try clear c26
                             try clear c26b0
                             try clear c26b1
                             try clear c26b2
                             try clear c30
                             try clear c39
                             try clear c39b0
                             try clear c39b1
                             try clear c39b2
                             try clear c43
                             try clear c45
                             try clear c46
                             try clear c46b0
                             try clear c46b1
                             try clear c51
                             try clear c53
                             try clear c58
                             try clear p58
                             try clear q58
                             try clear hx58
                             try clear p64
                             try clear c74
                             try clear c74b0
                             try clear c75
                             try clear c75b0
                             try clear c77
                             try clear hcz10_0
                             try clear hcz10_1
                             try clear hcz14_0
                             try clear hcz14_1
                             try clear hfz10_0
                             try clear hfz10_1
                             try clear hfz14_0
                             try clear hfz14_1
                             try clear hx584_0
                             try clear p2
                             try clear p584
                             try clear p6
                             try clear p64
                             try clear q584
                             obtain ⟨x25_6, x26_6, rfl, rfl, HA, HK6, HO_4, HO_5, HO_16, HO_17, HO_21, HO_23, BK531, HR584_0, HB⟩ := hrel
                             cases gk with
                             | zero => exact absurd HA.out (by simp [laws_FnLabels.l1])
                             | succ k6 =>
                              have H := HA.out
                              clear HA
                              simp only [laws_FnLabels.l1] at H
                              by_cases c82 : x26_6 < (t585.length : Int)
                              ·
                               as_aux_lemma =>
                                rw [if_pos c82] at H
                                have c82b0 : decide (x26_6 < (t585.length : Int)) = true := decide_eq_true c82
                                clear c82
                                by_cases c83 : x25_6 = true
                                ·
                                 subst c83
                                 have H1 : (if 0 ≤ x26_6 then (if x26_6 < (t552.length : Int) then (laws_FnLabels.l1 k6 t525 t528 t532 t533 t549 t552 y581 x22_5 t585 ((rd t585 x26_6) == (rd t552 x26_6)) (wrap64 (x26_6 + 1)) t523 t524) else (none)) else (none)) = some r := by rw [if_pos rfl] at H; exact H
                                 clear H
                                 have H := H1
                                 clear H1
                                 by_cases c84 : 0 ≤ x26_6
                                 ·
                                  rw [if_pos c84] at H
                                  have c84b0 : decide (0 ≤ x26_6) = true := decide_eq_true c84
                                  clear c84
                                  by_cases c85 : x26_6 < (t552.length : Int)
                                  ·
                                   rw [if_pos c85] at H
                                   have c85b0 : decide (x26_6 < (t552.length : Int)) = true := decide_eq_true c85
                                   clear c85
                                   have H' := A_ H
                                   clear H
                                   have p589 : 0 ≤ (x26_6 : Int) := of_decide_eq_true (by first | (with_reducible assumption) | assumption)
                                   have q589 : x26_6 < (t585.length : Int) := of_decide_eq_true (by first | (with_reducible assumption) | assumption)
                                   obtain ⟨ad589, e589, hx589_0⟩ := Kd.at_int (Kd.R_reads' HO_23.out).2.2 x26_6 p589 q589
                                   cases e589
                                   replace p589 := eq_true p589
                                   replace q589 := eq_true q589
                                   have p590 : 0 ≤ (x26_6 : Int) := of_decide_eq_true (by first | (with_reducible assumption) | assumption)
                                   have q590 : x26_6 < (t552.length : Int) := of_decide_eq_true (by first | (with_reducible assumption) | assumption)
                                   obtain ⟨ad590, e590, hx590_0⟩ := Kd.at_int (Kd.R_reads' HO_17.out).2.2 x26_6 p590 q590
                                   cases e590
                                   replace p590 := eq_true p590
                                   replace q590 := eq_true q590
                                   go_wp2
                                   repeat (go_quiet (fail); try go_wp2)
                                   go_roundg k6
                                   case measure => have := HJ6.out; have := HJ20.out; have := HJ33.out; have := HJ43.out; have := HK5.out; have := HK6.out; omega
                                   case rel => exact ⟨(((rd t585 x26_6) == (rd t552 x26_6))), (wrap64 (x26_6 + 1)), (by first | rfl | (simp; done) | (simp [*]; done)), (by first | rfl | (simp; done) | (simp [*]; done)), H', ⟨by have := HJ6.out; have := HJ20.out; have := HJ33.out; have := HJ43.out; have := HK5.out; have := HK6.out; omega⟩, ⟨rq HO_4⟩, ⟨rq HO_5⟩, ⟨rq HO_16⟩, ⟨rq HO_17⟩, ⟨Go.Proofs.Ytmamhnbhahafgaa.Own.nq HO_21⟩, ⟨rq HO_23⟩, ⟨bq BK531⟩, ⟨by repeat (first | (with_reducible exact HR584_0.out) | (with_reducible refine Kd.C_alloc ?_ _) | (with_reducible refine Kd.C_drewN ?_ _) | (with_reducible refine Kd.C_drew ?_) | exact HR584_0.out)⟩, ⟨hq HB⟩⟩
                                  ·
                                   rw [if_neg c85] at H
                                   exact absurd H (by simp)
                                 ·
                                  rw [if_neg c84] at H
                                  exact absurd H (by simp)
                                ·
                                 replace c83 := Bool.eq_false_iff.mpr c83
                                 subst c83
                                 have H1 : (laws_FnLabels.l0 k6 t525 t528 t532 t533 t549 t552 y581 (wrap64 (x22_5 + 1)) t523 t524) = some r := by rw [if_neg (show ¬ (false = true) by decide)] at H; exact H
                                 clear H
                                 have H := H1
                                 clear H1
                                 have H' := A_ H
                                 clear H
                                 go_wp2
                                 repeat (go_quiet (fail); try go_wp2)
                                 go_roundg k6
                                 case measure => have := HJ6.out; have := HJ20.out; have := HJ33.out; have := HJ43.out; have := HK5.out; have := HK6.out; omega
                                 case rel => exact ⟨(wrap64 (x22_5 + 1)), (by first | rfl | (simp; done) | (simp [*]; done)), H', ⟨by have := HJ6.out; have := HJ20.out; have := HJ33.out; have := HJ43.out; have := HK5.out; have := HK6.out; omega⟩, ⟨by (with_reducible repeat (first | apply Kd.R_alloc | apply Kd.R_drewN | apply Kd.R_drew)); exact Kd.R_mono HO_4.out (fun _ hk => ⟨hk.1, ⟨hk.2.1, hk.2.2.1⟩⟩)⟩, ⟨by (with_reducible repeat (first | apply Kd.R_alloc | apply Kd.R_drewN | apply Kd.R_drew)); exact Kd.R_mono HO_5.out (fun _ hk => ⟨hk.1, ⟨hk.2.1, hk.2.2.1⟩⟩)⟩, ⟨by (with_reducible repeat (first | apply Kd.R_alloc | apply Kd.R_drewN | apply Kd.R_drew)); exact Kd.R_mono HO_16.out (fun _ hk => ⟨hk.1, ⟨hk.2.1, hk.2.2.1⟩⟩)⟩, ⟨by (with_reducible repeat (first | apply Kd.R_alloc | apply Kd.R_drewN | apply Kd.R_drew)); exact Kd.R_mono HO_17.out (fun _ hk => ⟨hk.1, ⟨hk.2.1, hk.2.2.1⟩⟩)⟩, ⟨by (with_reducible repeat (first | apply Kd.N_alloc | apply Kd.N_drewN | apply Kd.N_drew)); exact Kd.N_mono HO_21.out (fun _ hk => ⟨hk.1, ⟨hk.2.1, ⟨hk.2.2.1, ⟨hk.2.2.2.1, hk.2.2.2.2.2⟩⟩⟩⟩)⟩, ⟨bq BK531⟩, ⟨hq HB⟩⟩
                              ·
                               as_aux_lemma =>
                                rw [if_neg c82] at H
                                have c82b0 : decide (x26_6 < (t585.length : Int)) = false := decide_eq_false c82
                                clear c82
                                by_cases c86 : x25_6 = true
                                ·
                                 subst c86
                                 have H1 : (if 0 ≤ x22_5 then (if x22_5 < (y581.length : Int) then ((laws_rInts.f k6 (rd_L2 y581 x22_5) t549).bind fun t592 => (if t592 = true then (laws_FnLabels.l0 k6 t525 t528 t532 t533 t549 t552 y581 (wrap64 (x22_5 + 1)) t523 t524) else (some false))) else (none)) else (none)) = some r := by rw [if_pos rfl] at H; exact H
                                 clear H
                                 have H := H1
                                 clear H1
                                 by_cases c87 : 0 ≤ x22_5
                                 ·
                                  rw [if_pos c87] at H
                                  have c87b0 : decide (0 ≤ x22_5) = true := decide_eq_true c87
                                  clear c87
                                  by_cases c88 : x22_5 < (y581.length : Int)
                                  ·
                                   rw [if_pos c88] at H
                                   have c88b0 : decide (x22_5 < (y581.length : Int)) = true := decide_eq_true c88
                                   clear c88
                                   replace H := Option.bind_eq_some_iff.mp H
                                   obtain ⟨t592, A890, H⟩ := H
                                   replace H : (if t592 = true then (laws_FnLabels.l0 k6 t525 t528 t532 t533 t549 t552 y581 (wrap64 (x22_5 + 1)) t523 t524) else (some false)) = some r := H
                                   have A89 := A_ A890
                                   clear A890
                                   by_cases c90 : t592 = true
                                   ·
                                    subst c90
                                    have H1 : (laws_FnLabels.l0 k6 t525 t528 t532 t533 t549 t552 y581 (wrap64 (x22_5 + 1)) t523 t524) = some r := by rw [if_pos rfl] at H; exact H
                                    clear H
                                    have H := H1
                                    clear H1
                                    have H' := A_ H
                                    clear H
                                    have p591 : 0 ≤ (x22_5 : Int) := of_decide_eq_true (by first | (with_reducible assumption) | assumption)
                                    have q591 : x22_5 < (y581.length : Int) := of_decide_eq_true (by first | (with_reducible assumption) | assumption)
                                    obtain ⟨ad591, A591_0, c591_0, e591, hx591_0, hl591_0, hi591_0⟩ := at_L2 (Kd.N_reads' HO_21.out).2.2 x22_5 p591 q591
                                    obtain rfl : ad584 = ad591 := (by injection e591)
                                    obtain ⟨ce591, hce591, hMe591, hcc591⟩ := Kd.N_get HO_21.out [] x22_5 p591 (by first | exact q591 | exact of_decide_eq_true (by first | (with_reducible assumption) | assumption) | (have e_ := (Kd.N_reads' HO_21.out).1; omega))
                                    obtain ⟨ua591_0, uc591_0, rfl, ul591_0, ge591_0⟩ := Kd.FK_slice_open hMe591
                                    have hv591_0 := hcc591 0 _ rfl
                                    rw [Nat.add_zero, show ((Kd.slice 3 (Kd.int .i64))).sz = 1 from rfl, Nat.mul_one] at hv591_0
                                    replace hv591_0 := Option.some.inj (hv591_0.symm.trans hx591_0)
                                    injection hv591_0 with hva_ hvn_ hvc_
                                    rw [hva_] at ge591_0
                                    rw [hvc_] at ul591_0
                                    have HL591_0 := A_ (show Kd.V (Kd.int .i64) 3 _ w.heap.size _ _ (rd_L2 y581 x22_5) from Kd.V_mk ul591_0 ge591_0)
                                    clear hva_ hvn_ hvc_ ge591_0 ul591_0 hcc591 hce591
                                    have HR591_0 := A_ hi591_0
                                    have HC591_0 := A_ hl591_0
                                    clear hi591_0 hl591_0
                                    replace p591 := eq_true p591
                                    replace q591 := eq_true q591
                                    go_wp2_with (first | (go_at_call 10; (with_reducible refine (laws_rInts.calls k6 _ _ (rd_L2 y581 x22_5) _ _ t549 true _ ?side1 ?side2 ?side3 ?side4 A89.out).mono ?_); (case side1 => repeat (first | exact (by repeat (first | (with_reducible exact HR591_0.out) | (with_reducible refine Kd.C_alloc ?_ _) | (with_reducible refine Kd.C_drewN ?_ _) | (with_reducible refine Kd.C_drew ?_) | exact HR591_0.out)) | (with_reducible refine Kd.C_alloc ?_ _) | (with_reducible refine Kd.C_drewN ?_ _) | (with_reducible refine Kd.C_drew ?_))); (case side2 => exact HC591_0.out); (case side3 => exact cq (Kd.R_reads' HO_16.out).2.2); (case side4 => exact (Kd.R_reads' HO_16.out).2.1); rintro e w' ⟨rfl, ⟨nd, rfl⟩⟩; (try first | exact ⟨rfl, _, World.drewN_drewN _ _ _⟩ | exact ⟨rfl, _, Eq.trans (World.drewN_drewN _ _ _) (congrArg (World.drewN _) (Nat.add_assoc _ _ _))⟩)))
                                    repeat (go_quiet (first | (go_at_call 10; (with_reducible refine (laws_rInts.calls k6 _ _ (rd_L2 y581 x22_5) _ _ t549 true _ ?side1 ?side2 ?side3 ?side4 A89.out).mono ?_); (case side1 => repeat (first | exact (by repeat (first | (with_reducible exact HR591_0.out) | (with_reducible refine Kd.C_alloc ?_ _) | (with_reducible refine Kd.C_drewN ?_ _) | (with_reducible refine Kd.C_drew ?_) | exact HR591_0.out)) | (with_reducible refine Kd.C_alloc ?_ _) | (with_reducible refine Kd.C_drewN ?_ _) | (with_reducible refine Kd.C_drew ?_))); (case side2 => exact HC591_0.out); (case side3 => exact cq (Kd.R_reads' HO_16.out).2.2); (case side4 => exact (Kd.R_reads' HO_16.out).2.1); rintro e w' ⟨rfl, ⟨nd, rfl⟩⟩; (try first | exact ⟨rfl, _, World.drewN_drewN _ _ _⟩ | exact ⟨rfl, _, Eq.trans (World.drewN_drewN _ _ _) (congrArg (World.drewN _) (Nat.add_assoc _ _ _))⟩))); try go_wp2_with (first | (go_at_call 10; (with_reducible refine (laws_rInts.calls k6 _ _ (rd_L2 y581 x22_5) _ _ t549 true _ ?side1 ?side2 ?side3 ?side4 A89.out).mono ?_); (case side1 => repeat (first | exact (by repeat (first | (with_reducible exact HR591_0.out) | (with_reducible refine Kd.C_alloc ?_ _) | (with_reducible refine Kd.C_drewN ?_ _) | (with_reducible refine Kd.C_drew ?_) | exact HR591_0.out)) | (with_reducible refine Kd.C_alloc ?_ _) | (with_reducible refine Kd.C_drewN ?_ _) | (with_reducible refine Kd.C_drew ?_))); (case side2 => exact HC591_0.out); (case side3 => exact cq (Kd.R_reads' HO_16.out).2.2); (case side4 => exact (Kd.R_reads' HO_16.out).2.1); rintro e w' ⟨rfl, ⟨nd, rfl⟩⟩; (try first | exact ⟨rfl, _, World.drewN_drewN _ _ _⟩ | exact ⟨rfl, _, Eq.trans (World.drewN_drewN _ _ _) (congrArg (World.drewN _) (Nat.add_assoc _ _ _))⟩))))
                                    go_roundg k6
                                    case measure => have := HJ6.out; have := HJ20.out; have := HJ33.out; have := HJ43.out; have := HK5.out; have := HK6.out; omega
                                    case rel => exact ⟨(wrap64 (x22_5 + 1)), (by first | rfl | (simp; done) | (simp [*]; done)), H', ⟨by have := HJ6.out; have := HJ20.out; have := HJ33.out; have := HJ43.out; have := HK5.out; have := HK6.out; omega⟩, ⟨by (with_reducible repeat (first | apply Kd.R_alloc | apply Kd.R_drewN | apply Kd.R_drew)); exact Kd.R_mono HO_4.out (fun _ hk => ⟨hk.1, ⟨hk.2.1, hk.2.2.1⟩⟩)⟩, ⟨by (with_reducible repeat (first | apply Kd.R_alloc | apply Kd.R_drewN | apply Kd.R_drew)); exact Kd.R_mono HO_5.out (fun _ hk => ⟨hk.1, ⟨hk.2.1, hk.2.2.1⟩⟩)⟩, ⟨by (with_reducible repeat (first | apply Kd.R_alloc | apply Kd.R_drewN | apply Kd.R_drew)); exact Kd.R_mono HO_16.out (fun _ hk => ⟨hk.1, ⟨hk.2.1, hk.2.2.1⟩⟩)⟩, ⟨by (with_reducible repeat (first | apply Kd.R_alloc | apply Kd.R_drewN | apply Kd.R_drew)); exact Kd.R_mono HO_17.out (fun _ hk => ⟨hk.1, ⟨hk.2.1, hk.2.2.1⟩⟩)⟩, ⟨by (with_reducible repeat (first | apply Kd.N_alloc | apply Kd.N_drewN | apply Kd.N_drew)); exact Kd.N_mono HO_21.out (fun _ hk => ⟨hk.1, ⟨hk.2.1, ⟨hk.2.2.1, ⟨hk.2.2.2.1, hk.2.2.2.2.2⟩⟩⟩⟩)⟩, ⟨bq BK531⟩, ⟨hq HB⟩⟩
                                   ·
                                    replace c90 := Bool.eq_false_iff.mpr c90
                                    subst c90
                                    have H1 : (some false) = some r := by rw [if_neg (show ¬ (false = true) by decide)] at H; exact H
                                    clear H
                                    have H := H1
                                    clear H1
                                    obtain rfl := Option.some.inj H
                                    exact absurd hr_ (by decide)
                                  ·
                                   rw [if_neg c88] at H
                                   exact absurd H (by simp)
                                 ·
                                  rw [if_neg c87] at H
                                  exact absurd H (by simp)
                                ·
                                 replace c86 := Bool.eq_false_iff.mpr c86
                                 subst c86
                                 have H1 : (laws_FnLabels.l0 k6 t525 t528 t532 t533 t549 t552 y581 (wrap64 (x22_5 + 1)) t523 t524) = some r := by rw [if_neg (show ¬ (false = true) by decide)] at H; exact H
                                 clear H
                                 have H := H1
                                 clear H1
                                 have H' := A_ H
                                 clear H
                                 go_wp2
                                 repeat (go_quiet (fail); try go_wp2)
                                 go_roundg k6
                                 case measure => have := HJ6.out; have := HJ20.out; have := HJ33.out; have := HJ43.out; have := HK5.out; have := HK6.out; omega
                                 case rel => exact ⟨(wrap64 (x22_5 + 1)), (by first | rfl | (simp; done) | (simp [*]; done)), H', ⟨by have := HJ6.out; have := HJ20.out; have := HJ33.out; have := HJ43.out; have := HK5.out; have := HK6.out; omega⟩, ⟨by (with_reducible repeat (first | apply Kd.R_alloc | apply Kd.R_drewN | apply Kd.R_drew)); exact Kd.R_mono HO_4.out (fun _ hk => ⟨hk.1, ⟨hk.2.1, hk.2.2.1⟩⟩)⟩, ⟨by (with_reducible repeat (first | apply Kd.R_alloc | apply Kd.R_drewN | apply Kd.R_drew)); exact Kd.R_mono HO_5.out (fun _ hk => ⟨hk.1, ⟨hk.2.1, hk.2.2.1⟩⟩)⟩, ⟨by (with_reducible repeat (first | apply Kd.R_alloc | apply Kd.R_drewN | apply Kd.R_drew)); exact Kd.R_mono HO_16.out (fun _ hk => ⟨hk.1, ⟨hk.2.1, hk.2.2.1⟩⟩)⟩, ⟨by (with_reducible repeat (first | apply Kd.R_alloc | apply Kd.R_drewN | apply Kd.R_drew)); exact Kd.R_mono HO_17.out (fun _ hk => ⟨hk.1, ⟨hk.2.1, hk.2.2.1⟩⟩)⟩, ⟨by (with_reducible repeat (first | apply Kd.N_alloc | apply Kd.N_drewN | apply Kd.N_drew)); exact Kd.N_mono HO_21.out (fun _ hk => ⟨hk.1, ⟨hk.2.1, ⟨hk.2.2.1, ⟨hk.2.2.2.1, hk.2.2.2.2.2⟩⟩⟩⟩)⟩, ⟨bq BK531⟩, ⟨hq HB⟩⟩
                          ·
                           replace c77 := Bool.eq_false_iff.mpr c77
                           subst c77
                           have H1 : (some false) = some r := by rw [if_neg (show ¬ (false = true) by decide)] at H; exact H
                           clear H
                           have H := H1
                           clear H1
                           obtain rfl := Option.some.inj H
                           exact absurd hr_ (by decide)
                         ·
                          rw [if_neg c75] at H
                          exact absurd H (by simp)
                        ·
                         rw [if_neg c74] at H
                         have c74b0 : decide (x22_5 < (y581.length : Int)) = false := decide_eq_false c74
                         clear c74
                         (first | rw [c74b0] | (simp only [i64_w, i32_w]; rw [c74b0]) | skip)
                         have H' := A_ H
                         clear H
                         obtain ⟨Ao93, co93, eo93⟩ := Kd.N_slice HO_21.out
                         subst eo93
                         go_wp2
                         repeat (go_quiet (fail); try go_wp2)
                         go_meet
                         case rel => exact ⟨_, H', ⟨by have := HJ6.out; have := HJ20.out; have := HJ33.out; have := HJ43.out; have := HK5.out; first | omega | exact Nat.le_refl _⟩, ⟨by (with_reducible repeat (first | apply Kd.R_alloc | apply Kd.R_drewN | apply Kd.R_drew)); exact Kd.R_mono HO_4.out (fun _ => cj)⟩, ⟨by (with_reducible repeat (first | apply Kd.R_alloc | apply Kd.R_drewN | apply Kd.R_drew)); exact Kd.R_mono HO_5.out (fun _ => cj)⟩, ⟨bq BK531⟩, ⟨hq HB⟩⟩
                    ·
                     replace c53 := Bool.eq_false_iff.mpr c53
                     subst c53
                     have H1 : (laws_FnLabels.j6 kj43 t525 t528 t532 t533 t523 t524) = some r := by rw [if_neg (show ¬ (false = true) by decide)] at H; exact H
                     clear H
                     have H := H1
                     clear H1
                     have H' := A_ H
                     clear H
                     go_wp2
                     repeat (go_quiet (fail); try go_wp2)
                     go_meet
                     case rel => exact ⟨_, H', ⟨by have := HJ6.out; have := HJ20.out; have := HJ33.out; have := HJ43.out; first | omega | exact Nat.le_refl _⟩, ⟨by (with_reducible repeat (first | apply Kd.R_alloc | apply Kd.R_drewN | apply Kd.R_drew)); exact Kd.R_mono HO_4.out (fun _ => cj)⟩, ⟨by (with_reducible repeat (first | apply Kd.R_alloc | apply Kd.R_drewN | apply Kd.R_drew)); exact Kd.R_mono HO_5.out (fun _ => cj)⟩, ⟨bq BK531⟩, ⟨hq HB⟩⟩
                  case rest =>
                   as_aux_lemma =>
                    clear HC52
                    try clear c1
                    try clear c2
                    try clear p2
                    try clear c3
                    try clear c4
                    try clear c5
                    try clear p5
                    try clear q5
                    try clear hx5
                    try clear p6
                    try clear c7
                    try clear c8
                    try clear c9
                    try clear c16
                    try clear c16b0
                    try clear c16b1
                    try clear c17
                    try clear c26
                    try clear c26b0
                    try clear c26b1
                    try clear c26b2
                    try clear c30
                    try clear c39
                    try clear c39b0
                    try clear c39b1
                    try clear c39b2
                    try clear c43
                    try clear c45
                    try clear c46
                    try clear c46b0
                    try clear c46b1
                    try clear c51
                    try clear c53
                    try clear c58
                    try clear p58
                    try clear q58
                    try clear hx58
                    try clear c59
                    try clear p59
                    try clear q59
                    try clear hx59
                    try clear p64
                    try clear c74
                    try clear c74b0
                    try clear c75
                    try clear c75b0
                    try clear c77
                    try clear c82
                    try clear c82b0
                    try clear c83
                    try clear c84
                    try clear c84b0
                    try clear c85
                    try clear c85b0
                    try clear c86
                    try clear c87
                    try clear c87b0
                    try clear c88
                    try clear c88b0
                    try clear c90
                    try clear hcz10_0
                    try clear hcz10_1
                    try clear hcz14_0
                    try clear hcz14_1
                    try clear hfz10_0
                    try clear hfz10_1
                    try clear hfz14_0
                    try clear hfz14_1
                    try clear hx584_0
                    try clear hx589_0
                    try clear hx590_0
                    try clear hx591_0
                    try clear p2
                    try clear p5
                    try clear p58
                    try clear p584
                    try clear p589
                    try clear p590
                    try clear p591
                    try clear p6
                    try clear p64
                    try clear q5
                    try clear q58
                    try clear q584
                    try clear q589
                    try clear q590
                    try clear q591
                    obtain ⟨kq, HA, HJ51, HO_4, HO_5, BK531, HB⟩ := hcut
                    cases kq with
                    | zero => exact absurd HA.out (by simp [laws_FnLabels.j6])
                    | succ kj51 =>
                     have H := HA.out
                     clear HA
                     simp only [laws_FnLabels.j6] at H
                     by_cases c94 : t533 = true
                     ·
                      as_aux_lemma =>
                       subst c94
                       have H1 : (laws_FnLabels.l2 kj51 t525 t528 t532 0 t523 t524) = some r := by rw [if_pos rfl] at H; exact H
                       clear H
                       have H := H1
                       clear H1
                       have H' := A_ H
                       clear H
                       go_wp2
                       repeat (go_quiet (fail); try go_wp2)
                       go_loopg [27] kj51 (fun kq v27 w' => ∃ (x27_6 : Int), v27 = .int .i64 x27_6 ∧ Aside0 (laws_FnLabels.l2 kq t525 t528 t532 x27_6 t523 t524 = some r) ∧ Aside0 (kq ≤ kj51) ∧ Aside0 (Kd.R (Kd.int .i64) 3 w' w.heap.size (fun k_ => some k_ ≠ ((.slice Ao12 t528.length co12) : Value).ownBlock) (.slice Ao11 t525.length co11) t525) ∧ Aside0 (Kd.R (Kd.int .i64) 3 w' w.heap.size (fun k_ => some k_ ≠ ((.slice Ao11 t525.length co11) : Value).ownBlock) (.slice Ao12 t528.length co12) t528) ∧ Aside0 (w'.heap[gb531]? = some (.cells #[.int .i64 t523, .bool t524] 25 (0, 0))) ∧ Aside0 (Below w.heap.size w w'))
                       case atStart => exact ⟨(0), (by first | rfl | (simp; done) | (simp [*]; done)), H', ⟨Nat.le_refl _⟩, ⟨rq HO_4⟩, ⟨rq HO_5⟩, ⟨bq BK531⟩, ⟨hq HB⟩⟩
                       case round =>
                        as_aux_lemma =>
                         clear H'
                         try clear c1
                         try clear c2
                         try clear p2
                         try clear c3
                         try clear c4
                         try clear c5
                         try clear p5
                         try clear q5
                         try clear hx5
                         try clear p6
                         try clear c7
                         try clear c8
                         try clear c9
                         try clear c16
                         try clear c16b0
                         try clear c16b1
                         try clear c17
                         try clear c26
                         try clear c26b0
                         try clear c26b1
                         try clear c26b2
                         try clear c30
                         try clear c39
                         try clear c39b0
                         try clear c39b1
                         try clear c39b2
                         try clear c43
                         try clear c45
                         try clear c46
                         try clear c46b0
                         try clear c46b1
                         try clear c51
                         try clear c53
                         try clear c58
                         try clear p58
                         try clear q58
                         try clear hx58
                         try clear c59
                         try clear p59
                         try clear q59
                         try clear hx59
                         try clear p64
                         try clear c74
                         try clear c74b0
                         try clear c75
                         try clear c75b0
                         try clear c77
                         try clear c82
                         try clear c82b0
                         try clear c83
                         try clear c84
                         try clear c84b0
                         try clear c85
                         try clear c85b0
                         try clear c86
                         try clear c87
                         try clear c87b0
                         try clear c88
                         try clear c88b0
                         try clear c90
                         try clear c94
                         try clear hcz10_0
                         try clear hcz10_1
                         try clear hcz14_0
                         try clear hcz14_1
                         try clear hfz10_0
                         try clear hfz10_1
                         try clear hfz14_0
                         try clear hfz14_1
                         try clear hx584_0
                         try clear hx589_0
                         try clear hx590_0
                         try clear hx591_0
                         try clear p2
                         try clear p5
                         try clear p58
                         try clear p584
                         try clear p589
                         try clear p59
                         try clear p590
                         try clear p591
                         try clear p6
                         try clear p64
                         try clear q5
                         try clear q58
                         try clear q584
                         try clear q589
                         try clear q59
                         try clear q590
                         try clear q591
                         obtain ⟨x27_6, rfl, HA, HK6, HO_4, HO_5, BK531, HB⟩ := hrel
                         cases gk with
                         | zero => exact absurd HA.out (by simp [laws_FnLabels.l2])
                         | succ k6 =>
                          have H := HA.out
                          clear HA
                          simp only [laws_FnLabels.l2] at H
                          by_cases c95 : x27_6 < (t525.length : Int)
                          ·
                           rw [if_pos c95] at H
                           have c95b0 : decide (x27_6 < (t525.length : Int)) = true := decide_eq_true c95
                           clear c95
                           by_cases c96 : 0 ≤ x27_6
                           ·
                            rw [if_pos c96] at H
                            have c96b0 : decide (0 ≤ x27_6) = true := decide_eq_true c96
                            clear c96
                            by_cases c97 : x27_6 < (t528.length : Int)
                            ·
                             rw [if_pos c97] at H
                             have c97b0 : decide (x27_6 < (t528.length : Int)) = true := decide_eq_true c97
                             clear c97
                             by_cases c98 : (rd t525 x27_6) = (rd t528 x27_6)
                             ·
                              rw [if_pos c98] at H
                              have c98b0 : ((rd t525 x27_6) == (rd t528 x27_6)) = true := beq_iff_eq.mpr c98
                              have c98b1 : ((rd t525 x27_6) != (rd t528 x27_6)) = false := bne_eq_false_iff_eq.mpr c98
                              clear c98
                              have H' := A_ H
                              clear H
                              have p593 : 0 ≤ (x27_6 : Int) := of_decide_eq_true (by first | (with_reducible assumption) | assumption)
                              have q593 : x27_6 < (t525.length : Int) := of_decide_eq_true (by first | (with_reducible assumption) | assumption)
                              obtain ⟨ad593, e593, hx593_0⟩ := Kd.at_int (Kd.R_reads' HO_4.out).2.2 x27_6 p593 q593
                              cases e593
                              replace p593 := eq_true p593
                              replace q593 := eq_true q593
                              have p594 : 0 ≤ (x27_6 : Int) := of_decide_eq_true (by first | (with_reducible assumption) | assumption)
                              have q594 : x27_6 < (t528.length : Int) := of_decide_eq_true (by first | (with_reducible assumption) | assumption)
                              obtain ⟨ad594, e594, hx594_0⟩ := Kd.at_int (Kd.R_reads' HO_5.out).2.2 x27_6 p594 q594
                              cases e594
                              replace p594 := eq_true p594
                              replace q594 := eq_true q594
                              go_wp2
                              repeat (go_quiet (fail); try go_wp2)
                              go_roundg k6
                              case measure => have := HJ6.out; have := HJ20.out; have := HJ33.out; have := HJ43.out; have := HJ51.out; have := HK6.out; omega
                              case rel => exact ⟨(wrap64 (x27_6 + 1)), (by first | rfl | (simp; done) | (simp [*]; done)), H', ⟨by have := HJ6.out; have := HJ20.out; have := HJ33.out; have := HJ43.out; have := HJ51.out; have := HK6.out; omega⟩, ⟨rq HO_4⟩, ⟨rq HO_5⟩, ⟨bq BK531⟩, ⟨hq HB⟩⟩
                             ·
                              rw [if_neg c98] at H
                              have c98b0 : ((rd t525 x27_6) == (rd t528 x27_6)) = false := beq_eq_false_iff_ne.mpr c98
                              have c98b1 : ((rd t525 x27_6) != (rd t528 x27_6)) = true := bne_iff_ne.mpr c98
                              by_cases c99 : t532 ≥ (wrap64 (x27_6 * t523))
                              ·
                               rw [if_pos c99] at H
                               have c99b0 : decide ((wrap64 (x27_6 * t523)) ≤ t532) = true := decide_eq_true c99
                               clear c99
                               subst hr_
                               have c100b0 := Option.some.inj H
                               clear H
                               have p593 : 0 ≤ (x27_6 : Int) := of_decide_eq_true (by first | (with_reducible assumption) | assumption)
                               have q593 : x27_6 < (t525.length : Int) := of_decide_eq_true (by first | (with_reducible assumption) | assumption)
                               obtain ⟨ad593, e593, hx593_0⟩ := Kd.at_int (Kd.R_reads' HO_4.out).2.2 x27_6 p593 q593
                               cases e593
                               replace p593 := eq_true p593
                               replace q593 := eq_true q593
                               have p594 : 0 ≤ (x27_6 : Int) := of_decide_eq_true (by first | (with_reducible assumption) | assumption)
                               have q594 : x27_6 < (t528.length : Int) := of_decide_eq_true (by first | (with_reducible assumption) | assumption)
                               obtain ⟨ad594, e594, hx594_0⟩ := Kd.at_int (Kd.R_reads' HO_5.out).2.2 x27_6 p594 q594
                               cases e594
                               replace p594 := eq_true p594
                               replace q594 := eq_true q594
                               have hcz100_0 : wr.cell? ⟨gb531, 0, none⟩ = some (.int .i64 t523) := bc BK531 0
                               have hcz100_1 : wr.cell? ⟨gb531, 1, none⟩ = some (.bool t524) := bc BK531 1
                               have hfz100_0 := blk_frozen BK531.out 0
                               have hfz100_1 := blk_frozen BK531.out 1
                               go_wp2
                               repeat (go_quiet (fail); try go_wp2)
                               go_ret
                               exact ⟨rt, hq HB⟩
                              ·
                               rw [if_neg c99] at H
                               have c99b0 : decide ((wrap64 (x27_6 * t523)) ≤ t532) = false := decide_eq_false c99
                               clear c99
                               obtain rfl := Option.some.inj H
                               exact absurd hr_ (by simp)
                            ·
                             rw [if_neg c97] at H
                             exact absurd H (by simp)
                           ·
                            rw [if_neg c96] at H
                            exact absurd H (by simp)
                          ·
                           rw [if_neg c95] at H
                           have c95b0 : decide (x27_6 < (t525.length : Int)) = false := decide_eq_false c95
                           clear c95
                           obtain rfl := Option.some.inj H
                           exact absurd hr_ (by simp)
                     ·
                      replace c94 := Bool.eq_false_iff.mpr c94
                      subst c94
                      have H1 : (some true) = some r := by rw [if_neg (show ¬ (false = true) by decide)] at H; exact H
                      clear H
                      have H := H1
                      clear H1
                      obtain rfl := Option.some.inj H
                      go_wp2
                      repeat (go_quiet (fail); try go_wp2)
                      go_ret
                      exact ⟨rt, hq HB⟩

/-- THE ONE PURE STATEMENT of laws_FnLabels: yours. -/
def laws_FnLabels.Pure : Prop := ∀ (l0 : List Int), l0.length ≤ maxLen → l0.length * 1 ≤ 140737488351232 → (∀ x ∈ l0, (Lit.int .u8 x).wf = true) → ∃ k, laws_FnLabels.f k l0 = some true
theorem laws_FnLabels.walk (P : laws_FnLabels.Pure) (a0 : Option Addr) (len0 cap0 : Nat) (z0 : List Int) (w : World) (w0 : (a0 = none ∧ len0 = 0 ∧ cap0 = 0 ∧ z0 = []) ∨ ∃ x, a0 = some x ∧ len0 ≤ cap0 ∧ cap0 ≤ maxLen ∧ z0.length = cap0 ∧ (∀ i, i < z0.length → w.cell? (x.add i) = some (.int .u8 (z0.getD i 0))) ∧ ∀ n ∈ z0, (Lit.int .u8 n).wf = true) (y0 : len0 * 1 ≤ 140737488351232) :
    Calls Try.prog 5 #[.slice a0 len0 cap0] w fun e w' => e = .returned (.bool true) ∧ Below w.heap.size w w' := by
  obtain ⟨l0, rfl, hr0, hm0, hw0, hc0⟩ := ReadsInt.ofRowC w0
  obtain ⟨k, h⟩ := P l0 hm0 y0 hw0
  refine (laws_FnLabels.calls k _ _ l0 true rfl w (Kd.C_of_reads (d := (0 : Int)) (h1 := fun _ => rfl) hr0) hc0 h).mono ?_
  rintro e w' ⟨rfl, hd⟩
  exact ⟨rfl, hd⟩

end Go.Proofs.Ytmamhnbhahafgaa.PFnLabels
