-- Printed, and told shorter by this session's program shrink.py.
-- Printed by this session's program myprint.py.
import Derived.Test.YtmamhnbhahafgaaPFnLeavingx0
import Derived.Test.YtmamhnbhahafgaaPFnLeavingx2
import Derived.Test.YtmamhnbhahafgaaPFnLeavingx3
import Derived.Test.YtmamhnbhahafgaaPFnLeavingx4
import Derived.Test.YtmamhnbhahafgaaPFnLeavingx5
namespace Go.Proofs.Ytmamhnbhahafgaa.PFnLeaving
open Go.RowKit Go.Proofs.Ytmamhnbhahafgaa.Own Go.Proofs.YtmamhnbhahafgaaW.PrintWords Go.Proofs.YtmamhnbhahafgaaW.PrintLast Go.Proofs.YtmamhnbhahafgaaW.PrintMore
attribute [local go_sem] max2_int min2_int max_two min_two max_three min_three max_four min_four   -- for this text's walks alone
set_option linter.unusedVariables false
set_option linter.unusedSimpArgs false

/-! ### spec_l1Cur_walk: function 67 -/
def spec_l1Cur_walk.f (k : Nat) (s0_0 : List Int) (s0_1 : Int) (s0_2 : Int) (a1_0 : Int) (a1_1 : Bool) : Option (List Int × Int × Int) := (spec_l1Cur_placeOn.f s0_0 s0_1 s0_2 a1_0 a1_1).bind fun bt307 => ((spec_l1Cur_among.f s0_0 bt307.2.1 bt307.2.2 (([6, 10, 4, 16, 1, 2, 30, 61, 62, 25] : List Int))).bind fun bt313 => ((spec_l1Cur_walkFrom.f k s0_0 bt313.2.1 bt313.2.2 a1_0 a1_1 bt307.1 bt313.1).bind fun bt316 => (some (bt316.1, bt316.2.1, bt316.2.2))))
theorem spec_l1Cur_walk.mono : ∀ a0 a1 a2 a3 a4 k, LeO (spec_l1Cur_walk.f k a0 a1 a2 a3 a4) (spec_l1Cur_walk.f (k + 1) a0 a1 a2 a3 a4) := by
  intro a0 a1 a2 a3 a4 k
  unfold spec_l1Cur_walk.f
  repeat' first
      | (with_reducible exact spec_l1Cur_walkFrom.mono _ _ _ _ _ _ _ _)
      | (with_reducible exact LeO.refl _)
      | (with_reducible exact LeO.none _)
      | (with_reducible refine LeO.ite ?_ ?_)
      | (with_reducible refine LeO.bind ?_ (fun _ => ?_))
      | exact spec_l1Cur_walkFrom.mono _ _ _ _ _ _ _ _
      | exact LeO.none _
      | refine LeO.ite ?_ ?_
      | refine LeO.bind ?_ (fun _ => ?_)
def spec_l1Cur_walk.T1 : Bool × List (List Nat × List Nat) := (true, [([], []), ([], []), ([], []), ([], []), ([2, 3], [2, 3]), ([], []), ([], []), ([5, 6, 4], [5, 6]), ([0, 1, 4, 7, 7], [0, 1, 4, 7]), ([8, 8, 0, 1, 2, 3, 4, 5, 6, 7, 8], [8])])
def spec_l1Cur_walk.B1 : List Nat := [0, 0, 0, 0, 12, 0, 0, 124, 255, 511]
theorem spec_l1Cur_walk.tab1 : rtab .any (opsOf Try.f67 1) = spec_l1Cur_walk.T1 := by kernel_rfl
theorem spec_l1Cur_walk.bits1 : waitsOk spec_l1Cur_walk.T1.2 spec_l1Cur_walk.B1 = true := by kernel_rfl
set_option maxHeartbeats 8000000 in
set_option maxRecDepth 100000 in
theorem spec_l1Cur_walk.calls (k : Nat) (g : Nat) (s0_0 : List Int) (s0_1 : Int) (s0_2 : Int) (a1_0 : Int) (a1_1 : Bool) (r1 : List Int) (r2 : Int) (r3 : Int) (w0 w : World) (hI : IsS73 w0 w g s0_0 s0_1 s0_2) (hB : Below w0.heap.size w0 w) (h : spec_l1Cur_walk.f k s0_0 s0_1 s0_2 a1_0 a1_1 = some (r1, r2, r3)) :
    Calls Try.prog 67 #[.pointer (some ⟨g, 0, none⟩), .agg #[.int .i64 a1_0, .bool a1_1]] w fun e w' => ∃ v0_ : Value, e = .returned (v0_) ∧ Kd.R (Kd.int .i64) 3 w' w.heap.size (fun _ => True) v0_ r1 ∧ IsS73 w0 w' g s0_0 r2 r3 ∧ Below w0.heap.size w0 w' ∧ KeepBut w w' g none := by
 have hu25 := Try.underlying25
 have HI0 := A_ hI
 have HK := A_ (KeepBut.refl w g none)
 have HL := A_ hB.size
 clear hI
 have HW0 := A_ hB.size
 have HB := A_ hB
 clear hB
 have H : ((spec_l1Cur_placeOn.f s0_0 s0_1 s0_2 a1_0 a1_1).bind fun bt307 => ((spec_l1Cur_among.f s0_0 bt307.2.1 bt307.2.2 (([6, 10, 4, 16, 1, 2, 30, 61, 62, 25] : List Int))).bind fun bt313 => ((spec_l1Cur_walkFrom.f k s0_0 bt313.2.1 bt313.2.2 a1_0 a1_1 bt307.1 bt313.1).bind fun bt316 => (some (bt316.1, bt316.2.1, bt316.2.2))))) = some (r1, r2, r3) := h
 clear h
 replace H := Option.bind_eq_some_iff.mp H
 obtain ⟨⟨t307, t308, t309⟩, A30, H⟩ := H
 replace H : ((spec_l1Cur_among.f s0_0 t308 t309 (([6, 10, 4, 16, 1, 2, 30, 61, 62, 25] : List Int))).bind fun bt313 => ((spec_l1Cur_walkFrom.f k s0_0 bt313.2.1 bt313.2.2 a1_0 a1_1 t307 bt313.1).bind fun bt316 => (some (bt316.1, bt316.2.1, bt316.2.2)))) = some (r1, r2, r3) := H
 have A3 := A_ A30
 clear A30
 obtain ⟨y310, hy310⟩ : ∃ y_ : List Int, y_ = (([6, 10, 4, 16, 1, 2, 30, 61, 62, 25] : List Int)) := ⟨_, rfl⟩
 replace H : ((spec_l1Cur_among.f s0_0 t308 t309 y310).bind fun bt313 => ((spec_l1Cur_walkFrom.f k s0_0 bt313.2.1 bt313.2.2 a1_0 a1_1 t307 bt313.1).bind fun bt316 => (some (bt316.1, bt316.2.1, bt316.2.2)))) = some (r1, r2, r3) := by first | (rw [hy310]; with_reducible exact H) | (have H2_ := (Option.bind_some _ _).symm.trans H; rw [hy310]; with_reducible exact H2_) | (have H2_ := (Option.bind_some _ _).symm.trans H; with_reducible exact H2_) | with_reducible exact H | (rw [hy310]; exact H) | exact H
 have Ny310 := A_ hy310
 clear hy310
 replace H := Option.bind_eq_some_iff.mp H
 obtain ⟨⟨t313, t314, t315⟩, A40, H⟩ := H
 replace H : ((spec_l1Cur_walkFrom.f k s0_0 t314 t315 a1_0 a1_1 t307 t313).bind fun bt316 => (some (bt316.1, bt316.2.1, bt316.2.2))) = some (r1, r2, r3) := H
 have A4 := A_ A40
 clear A40
 replace H := Option.bind_eq_some_iff.mp H
 obtain ⟨⟨t316, t319, t320⟩, A50, H⟩ := H
 replace H : (some (t316, t319, t320)) = some (r1, r2, r3) := H
 have A5 := A_ A50
 clear A50
 simp only [Option.some.injEq, Prod.mk.injEq] at H
 obtain ⟨rfl, rfl, rfl⟩ := H
 go_enter Try.func67, Try.ntmps67
 try go_wp2_with (first | ((with_reducible refine gate_dst (N := 3) rfl ?_); refine box_event ?hg (N := 3) ?hd (cs := #[.int .i64 a1_0, .bool a1_1]) (t := 25) ?hr ?_; (case hd => rfl); (case hg => rfl); (case hr => first | (go_simp; done) | (go_simp; rfl)); intro gb306 hg w6 hbox hb; have n0_ := A_ (IsS73.below (by repeat (first | (with_reducible first | exact HI0.out | apply IsS73.alloc | apply IsS73.drewN | apply IsS73.drew | apply IsS73.set_1 | apply IsS73.set_2) | exact HI0.out)) hb); have n1_ := A_ (KeepBut.trans (by repeat (first | (with_reducible first | exact HK.out | apply KeepBut.set_ | apply keep_drewN | apply keep_drew | apply keep_alloc) | exact HK.out)) (KeepBut.of_below hb g none) (.inl rfl)); have n2_ := A_ (below_step (by repeat (first | (with_reducible first | exact HB.out | apply below_alloc | apply pw_below_drewN | apply below_drew1 | refine below_set ?_ (IsS73.ge HI0.out)) | exact HB.out)) hb); have n3_ := A_ (hbox); have n4_ := A_ ((by rw [hg]; exact (keep_size (w := w) (g := g) (row := none) (by repeat (first | (with_reducible first | exact HK.out | apply KeepBut.set_ | apply keep_drewN | apply keep_drew | apply keep_alloc) | exact HK.out))) : w.heap.size ≤ gb306)); have n5_ := A_ ((Nat.le_trans HW0.out (by rw [hg]; exact (keep_size (w := w) (g := g) (row := none) (by repeat (first | (with_reducible first | exact HK.out | apply KeepBut.set_ | apply keep_drewN | apply keep_drew | apply keep_alloc) | exact HK.out))) : w.heap.size ≤ gb306) : w0.heap.size ≤ gb306)); have n6_ := A_ ((by rw [hg]; exact Nat.ne_of_lt (IsS73.lt (show IsS73 w0 _ g s0_0 s0_1 s0_2 from by repeat (first | (with_reducible first | exact HI0.out | apply IsS73.alloc | apply IsS73.drewN | apply IsS73.drew | apply IsS73.set_1 | apply IsS73.set_2) | exact HI0.out))) : g ≠ gb306)); have n7_ := A_ ((by rw [hg]; exact Nat.ne_of_gt (IsS73.lt (show IsS73 w0 _ g s0_0 s0_1 s0_2 from by repeat (first | (with_reducible first | exact HI0.out | apply IsS73.alloc | apply IsS73.drewN | apply IsS73.drew | apply IsS73.set_1 | apply IsS73.set_2) | exact HI0.out))) : gb306 ≠ g)); clear HI0; clear HK; clear HB; have HI0 := n0_; have HK := n1_; have HB := n2_; have BK306 := n3_; have GW306 := n4_; have GE306 := n5_; have NB0_306 := n6_; have NB306_0 := n7_; clear n0_ n1_ n2_ n3_ n4_ n5_ n6_ n7_; clear hb hbox hg))
 have n0_ := A_ (blk_drew BK306.out)
 have n1_ := A_ (IsS73.drew HI0.out)
 have n2_ := A_ (keep_drew HK.out)
 have n3_ := A_ (below_drew1 HB.out)
 clear BK306 HI0 HK HB; have BK306 := n0_; have HI0 := n1_; have HK := n2_; have HB := n3_; clear n0_ n1_ n2_ n3_
 refine start_ (n := 10) (S := fun w' => True) (ds := []) #[false, false, false, false, false, false, false, false, false, false] (by kernel_rfl) rfl rfl trivial (fun hHeld => ?_); refine with_tabW spec_l1Cur_walk.tab1 spec_l1Cur_walk.bits1 (fun HT_ HW_ => ?_)
 generalize w6.drew = w7 at BK306 HI0 HK HB hHeld ⊢
 refine pure_ (i := 0) (N := some 5) (v := ?_) (a' := ?_) #[true, false, false, false, false, false, false, false, false, false] rfl rfl (any_of HT_.out (by kernel_rfl)) (fun _ _ _ h => h) (Or.inl ⟨by rfl, ?_⟩) ?_ ?_
 rotate_left
 ·
  intro w'
  go_simp
  with_reducible rfl
 rotate_left
 ·
  simp only [Act.put, List.setIfInBounds_toArray, List.set_cons_zero, List.set_cons_succ, i64_w, i32_w]
  rfl
 refine pure_ (i := 2) (N := some 7) (v := ?_) (a' := ?_) #[true, false, true, false, false, false, false, false, false, false] rfl rfl (any_of HT_.out (by kernel_rfl)) (fun _ _ _ h => h) (Or.inl ⟨by rfl, ?_⟩) ?_ ?_
 rotate_left
 ·
  intro w'
  go_simp
  with_reducible rfl
 rotate_left
 ·
  simp only [Act.put, List.setIfInBounds_toArray, List.set_cons_zero, List.set_cons_succ, i64_w, i32_w]
  rfl
 refine pure_ (i := 5) (N := some 10) (v := ?_) (a' := ?_) #[true, false, true, false, false, true, false, false, false, false] rfl rfl (any_of HT_.out (by kernel_rfl)) (fun _ _ _ h => h) (Or.inl ⟨by rfl, ?_⟩) ?_ ?_
 rotate_left
 ·
  intro w'
  go_simp
  with_reducible rfl
 rotate_left
 ·
  simp only [Act.put, List.setIfInBounds_toArray, List.set_cons_zero, List.set_cons_succ, i64_w, i32_w]
  rfl
 refine inv_at [1, 3, 4, 6, 7, 8, 9] (fun a0_ b a w' => ∃ (v311 : Value) (v317 : Value) (m9_ : Value), a = putSel a0_ b [(1, 6, .agg #[.int .i64 a1_0, .bool a1_1]), (3, 8, .agg #[.int .i64 a1_0, .bool a1_1]), (4, 9, .int .i64 t307), (6, 11, v311), (7, 12, .int .i64 t313), (8, 13, v317), (9, 4, m9_)] ∧ (w'.heap[gb306]? = some (.cells #[.int .i64 a1_0, .bool a1_1] 25 (0, 0))) ∧ (b 4 = false → IsS73 w0 w' g s0_0 s0_1 s0_2) ∧ (KeepBut w w' g none) ∧ (Below w0.heap.size w0 w') ∧ (b 4 = true → b 7 = false → IsS73 w0 w' g s0_0 t308 t309) ∧ (b 6 = true → Kd.R (Kd.int .i64) 3 w' w.heap.size (fun _ => True) v311 y310) ∧ (b 7 = true → b 8 = false → IsS73 w0 w' g s0_0 t314 t315) ∧ (b 8 = true → Kd.R (Kd.int .i64) 3 w' w.heap.size (fun _ => True) v317 t316) ∧ (b 8 = true → IsS73 w0 w' g s0_0 t319 t320) ∧ (b 9 = true → (m9_ : Value) = v317)) HT_.out HW_.out (by kernel_rfl) (by kernel_rfl) ?_ ?_ ?_
 ·
  exact ⟨.bool false, .bool false, .bool false, by simp only [putSel, Bool.false_eq_true, if_false], BK306.out, fun _ => HI0.out, HK.out, HB.out, fun h_ => absurd h_ (by decide), fun h_ => absurd h_ (by decide), fun h_ => absurd h_ (by decide), fun h_ => absurd h_ (by decide), fun h_ => absurd h_ (by decide), fun h_ => absurd h_ (by decide)⟩
 ·
  clear BK306 HB HI0 HK
  refine steps_cons ?_ ?_
  ·
   rintro b a w' ⟨v311, v317, m9_, ha, Q_BK306, Q_HI0, Q_HK, Q_HB, Q_HI0_e4, Q_HO312, Q_HI0_e7, Q_HO318, Q_HI0_e8, Q_X9_⟩ hb_ hon hoff
   refine ⟨_, rfl, fun K hK => ?_⟩
   have e3 : a.tmps[3]? = some (.pointer (some ⟨gb306, 0, none⟩)) := by rw [ha]; exact (putSel_off rfl).trans rfl
   replace ha := A_ ha
   have BK306 := A_ Q_BK306
   have HK := A_ Q_HK
   have HB := A_ Q_HB
   have hc0_ : w'.cell? ⟨gb306, 0, none⟩ = some (.int .i64 a1_0) := bc BK306 0
   have hc1_ : w'.cell? ⟨gb306, 1, none⟩ = some (.bool a1_1) := bc BK306 1
   refine value_ (w1 := w') (v := .agg #[.int .i64 a1_0, .bool a1_1]) (by rfl) rfl ?_ ?_
   ·
    go_simp
    (try simp only [i64_w])
    try rfl
   refine hK.out _ _ ⟨v311, v317, m9_, (by rw [ha.out]; exact putSel_upk 0 hb_ rfl rfl rfl), Q_BK306, Q_HI0, Q_HK, Q_HB, Q_HI0_e4, Q_HO312, Q_HI0_e7, fun h0_ => absurd ((hoff 8 (by kernel_rfl)).symm.trans h0_) (by decide), fun h0_ => absurd ((hoff 8 (by kernel_rfl)).symm.trans h0_) (by decide), fun h0_ => absurd ((hoff 9 (by kernel_rfl)).symm.trans h0_) (by decide)⟩
  refine steps_cons ?_ ?_
  ·
   rintro b a w' ⟨v311, v317, m9_, ha, Q_BK306, Q_HI0, Q_HK, Q_HB, Q_HI0_e4, Q_HO312, Q_HI0_e7, Q_HO318, Q_HI0_e8, Q_X9_⟩ hb_ hon hoff
   refine ⟨_, rfl, fun K hK => ?_⟩
   have e3 : a.tmps[3]? = some (.pointer (some ⟨gb306, 0, none⟩)) := by rw [ha]; exact (putSel_off rfl).trans rfl
   replace ha := A_ ha
   have BK306 := A_ Q_BK306
   have HI0 := A_ (Q_HI0 (hoff 4 (by kernel_rfl)))
   have HK := A_ Q_HK
   have HB := A_ Q_HB
   have hc0_ : w'.cell? ⟨gb306, 0, none⟩ = some (.int .i64 a1_0) := bc BK306 0
   have hc1_ : w'.cell? ⟨gb306, 1, none⟩ = some (.bool a1_1) := bc BK306 1
   refine value_ (w1 := w') (v := .agg #[.int .i64 a1_0, .bool a1_1]) (by rfl) rfl ?_ ?_
   ·
    go_simp
    (try simp only [i64_w])
    try rfl
   refine hK.out _ _ ⟨v311, v317, m9_, (by rw [ha.out]; exact putSel_upk 1 hb_ rfl rfl rfl), Q_BK306, Q_HI0, Q_HK, Q_HB, fun h0_ _ => absurd ((hoff 4 (by kernel_rfl)).symm.trans h0_) (by decide), Q_HO312, fun h0_ _ => absurd ((hoff 7 (by kernel_rfl)).symm.trans h0_) (by decide), fun h0_ => absurd ((hoff 8 (by kernel_rfl)).symm.trans h0_) (by decide), fun h0_ => absurd ((hoff 8 (by kernel_rfl)).symm.trans h0_) (by decide), fun h0_ => absurd ((hoff 9 (by kernel_rfl)).symm.trans h0_) (by decide)⟩
  refine steps_cons ?_ ?_
  ·
   rintro b a w' ⟨v311, v317, m9_, ha, Q_BK306, Q_HI0, Q_HK, Q_HB, Q_HI0_e4, Q_HO312, Q_HI0_e7, Q_HO318, Q_HI0_e8, Q_X9_⟩ hb_ hon hoff
   refine ⟨_, rfl, fun K hK => ?_⟩
   have e7 : a.tmps[7]? = some (.pointer (some ⟨g, 0, none⟩)) := by rw [ha]; exact (putSel_off rfl).trans rfl
   have e8 : a.tmps[8]? = some (.agg #[.int .i64 a1_0, .bool a1_1]) := by rw [ha]; exact putSel_on (e := (3, 8, .agg #[.int .i64 a1_0, .bool a1_1])) 1 rfl rfl (hon 3 (by kernel_rfl)) rfl
   replace ha := A_ ha
   have BK306 := A_ Q_BK306
   have HI0 := A_ (Q_HI0 hb_)
   have HK := A_ Q_HK
   have HB := A_ Q_HB
   refine goes_ Try.func65 (by kernel_rfl) rfl #[.pointer (some ⟨g, 0, none⟩), .agg #[.int .i64 a1_0, .bool a1_1]] (by rfl) rfl rfl (by first | (simp only [List.map_toArray, List.map_cons, List.map_nil, Act.eval, Array.getD_eq_getD_getElem?, Option.getD_some, e7, e8]; done) | (simp only [List.map_toArray, List.map_cons, List.map_nil, Act.eval, Array.getD_eq_getD_getElem?, Option.getD_some, e7, e8]; rfl)) ?_
   with_reducible refine (spec_l1Cur_placeOn.calls g s0_0 s0_1 s0_2 a1_0 a1_1 t307 t308 t309 w0 _ ?side1 ?side2 A3.out).mono ?_
   (case side1 => repeat (first | (with_reducible first | exact HI0.out | apply IsS73.alloc | apply IsS73.drewN | apply IsS73.drew | apply IsS73.set_1 | apply IsS73.set_2 | refine IsS73.far ?_ NB0_306.out _) | exact HI0.out))
   (case side2 => repeat (first | (with_reducible first | exact HB.out | apply below_alloc | apply pw_below_drewN | apply below_drew1 | refine below_set ?_ (IsS73.ge HI0.out) | refine below_set ?_ GE306.out) | exact HB.out))
   rintro e w8 ⟨rfl, hi, hb, hk⟩
   refine ⟨_, rfl, ?_⟩
   have n0_ := A_ (KeepBut.blk hk (g' := gb306) (o := .cells #[.int .i64 a1_0, .bool a1_1] 25 (0, 0)) (bq BK306) NB306_0.out (by simp))
   have n1_ := A_ (KeepBut.trans (by repeat (first | (with_reducible first | exact HK.out | apply KeepBut.set_ | apply keep_drewN | apply keep_drew | apply keep_alloc | refine keep_far ?_ GW306.out _) | exact HK.out)) hk (.inl rfl))
   have n2_ := A_ (hb)
   have n3_ := A_ (hi)
   have z_HO312 := fun (h0_ : b 6 = true) => (show Kd.R (Kd.int .i64) 3 w8 w.heap.size (fun _ => True) v311 y310 from by first | exact (Kd.R_mono (Kd.R_keep (IsS73.apart (show IsS73 w0 _ g s0_0 s0_1 s0_2 from by repeat (first | (with_reducible first | exact HI0.out | apply IsS73.alloc | apply IsS73.drewN | apply IsS73.drew | apply IsS73.set_1 | apply IsS73.set_2 | refine IsS73.far ?_ NB0_306.out _) | exact HI0.out)) (by (with_reducible repeat (first | apply Kd.R_alloc | apply Kd.R_drewN | apply Kd.R_drew)); exact (Q_HO312 h0_)) (by decide)) hk (fun _ h => h.2)) (fun _ h => h.1)) | exact Kd.R_mono (Kd.R_mono (Kd.R_keep (IsS73.apart (show IsS73 w0 _ g s0_0 s0_1 s0_2 from by repeat (first | (with_reducible first | exact HI0.out | apply IsS73.alloc | apply IsS73.drewN | apply IsS73.drew | apply IsS73.set_1 | apply IsS73.set_2 | refine IsS73.far ?_ NB0_306.out _) | exact HI0.out)) (by (with_reducible repeat (first | apply Kd.R_alloc | apply Kd.R_drewN | apply Kd.R_drew)); exact (Q_HO312 h0_)) (by decide)) hk (fun _ h => h.2)) (fun _ h => h.1)) (fun _ h_ => by first | trivial | exact h_ | exact h_.1))
   clear BK306 HK HB HI0; have BK306 := n0_; have HK := n1_; have HB := n2_; have HI0 := n3_; clear n0_ n1_ n2_ n3_; (try clear hb); (try clear hb2); (try clear hk); (try clear hi)
   refine hK.out _ _ ⟨v311, v317, m9_, (by rw [ha.out]; exact putSel_upk 2 hb_ rfl rfl rfl), (bq BK306), fun h0_ => absurd ((up_self b 4).symm.trans h0_) (by decide), (by repeat (first | (with_reducible first | exact HK.out | apply KeepBut.set_ | apply keep_drewN | apply keep_drew | apply keep_alloc | refine keep_far ?_ GW306.out _) | exact HK.out)), (by repeat (first | (with_reducible first | exact HB.out | apply below_alloc | apply pw_below_drewN | apply below_drew1 | refine below_set ?_ (IsS73.ge HI0.out) | refine below_set ?_ GE306.out) | exact HB.out)), fun _ _ => (by repeat (first | (with_reducible first | exact HI0.out | apply IsS73.alloc | apply IsS73.drewN | apply IsS73.drew | apply IsS73.set_1 | apply IsS73.set_2 | refine IsS73.far ?_ NB0_306.out _) | exact HI0.out)), z_HO312, fun h0_ _ => absurd ((hoff 7 (by kernel_rfl)).symm.trans h0_) (by decide), fun h0_ => absurd ((hoff 8 (by kernel_rfl)).symm.trans h0_) (by decide), fun h0_ => absurd ((hoff 8 (by kernel_rfl)).symm.trans h0_) (by decide), fun h0_ => absurd ((hoff 9 (by kernel_rfl)).symm.trans h0_) (by decide)⟩
  refine steps_cons ?_ ?_
  ·
   rintro b a w' ⟨v311, v317, m9_, ha, Q_BK306, Q_HI0, Q_HK, Q_HB, Q_HI0_e4, Q_HO312, Q_HI0_e7, Q_HO318, Q_HI0_e8, Q_X9_⟩ hb_ hon hoff
   refine ⟨_, rfl, fun K hK => ?_⟩
   replace ha := A_ ha
   have BK306 := A_ Q_BK306
   have HK := A_ Q_HK
   have HB := A_ Q_HB
   refine Kd.R_lit_step (Kd.int .i64) _ 3 ?hg (N := 11) ?hd (xs := ([6, 10, 4, 16, 1, 2, 30, 61, 62, 25] : List Int)) (inner := [.int .i64 6, .int .i64 10, .int .i64 4, .int .i64 16, .int .i64 1, .int .i64 2, .int .i64 30, .int .i64 61, .int .i64 62, .int .i64 25]) (ok := fun _ => True) (okp := fun _ => True) ?hr ?hp (fun _ hk => hk) trivial (Below.refl _ _) (Nat.le_refl _) (by simp) ?_; (case hd => rfl); (case hg => rfl); (case hr => first | (go_simp; done) | (go_simp; rfl)); (case hp => exact (Reps.one (show Kd.M (Kd.int .i64) _ _ _ 6 [.int .i64 6] from rfl) (Reps.one (show Kd.M (Kd.int .i64) _ _ _ 10 [.int .i64 10] from rfl) (Reps.one (show Kd.M (Kd.int .i64) _ _ _ 4 [.int .i64 4] from rfl) (Reps.one (show Kd.M (Kd.int .i64) _ _ _ 16 [.int .i64 16] from rfl) (Reps.one (show Kd.M (Kd.int .i64) _ _ _ 1 [.int .i64 1] from rfl) (Reps.one (show Kd.M (Kd.int .i64) _ _ _ 2 [.int .i64 2] from rfl) (Reps.one (show Kd.M (Kd.int .i64) _ _ _ 30 [.int .i64 30] from rfl) (Reps.one (show Kd.M (Kd.int .i64) _ _ _ 61 [.int .i64 61] from rfl) (Reps.one (show Kd.M (Kd.int .i64) _ _ _ 62 [.int .i64 62] from rfl) (Reps.one (show Kd.M (Kd.int .i64) _ _ _ 25 [.int .i64 25] from rfl) (Reps.none _ _))))))))))))
   intro v311 w8 ho9 hb hg_ hnew_
   clear hg_ hnew_
   (first | rw [← Ny310.out] at ho9 | (simp only [Int.reduceToNat] at ho9; rw [← Ny310.out] at ho9))
   have n0_ := A_ (Kd.R_lower ho9 (keep_size (w := w) (g := g) (row := none) (by repeat (first | (with_reducible first | exact HK.out | apply KeepBut.set_ | apply keep_drewN | apply keep_drew | apply keep_alloc | refine keep_far ?_ GW306.out _) | exact HK.out))))
   have n2_ := A_ (blk_below (bq BK306) hb)
   have n3_ := A_ (KeepBut.trans (by repeat (first | (with_reducible first | exact HK.out | apply KeepBut.set_ | apply keep_drewN | apply keep_drew | apply keep_alloc | refine keep_far ?_ GW306.out _) | exact HK.out)) (KeepBut.of_below hb g none) (.inl rfl))
   have n4_ := A_ (below_step (hq HB) hb)
   have z_HI0 := fun (h0_ : b 4 = false) => (show IsS73 w0 w8 g s0_0 s0_1 s0_2 from by first | exact (IsS73.below (by repeat (first | (with_reducible first | exact (Q_HI0 h0_) | apply IsS73.alloc | apply IsS73.drewN | apply IsS73.drew | apply IsS73.set_1 | apply IsS73.set_2 | refine IsS73.far ?_ NB0_306.out _) | exact (Q_HI0 h0_))) hb))
   have z_HI0_e4 := fun (h0_ : b 4 = true) (h1_ : b 7 = false) => (show IsS73 w0 w8 g s0_0 t308 t309 from by first | exact (IsS73.below (by repeat (first | (with_reducible first | exact (Q_HI0_e4 h0_ h1_) | apply IsS73.alloc | apply IsS73.drewN | apply IsS73.drew | apply IsS73.set_1 | apply IsS73.set_2 | refine IsS73.far ?_ NB0_306.out _) | exact (Q_HI0_e4 h0_ h1_))) hb))
   clear BK306 HK HB; have HO312 := n0_; have BK306 := n2_; have HK := n3_; have HB := n4_; clear n0_ n2_ n3_ n4_ hb ho9
   refine hK.out _ _ ⟨v311, v317, m9_, (by rw [ha.out]; exact putSel_upk 3 hb_ rfl rfl rfl), (bq BK306), z_HI0, (by repeat (first | (with_reducible first | exact HK.out | apply KeepBut.set_ | apply keep_drewN | apply keep_drew | apply keep_alloc | refine keep_far ?_ GW306.out _) | exact HK.out)), (hq HB), z_HI0_e4, fun _ => (rq HO312), fun h0_ _ => absurd ((hoff 7 (by kernel_rfl)).symm.trans h0_) (by decide), fun h0_ => absurd ((hoff 8 (by kernel_rfl)).symm.trans h0_) (by decide), fun h0_ => absurd ((hoff 8 (by kernel_rfl)).symm.trans h0_) (by decide), fun h0_ => absurd ((hoff 9 (by kernel_rfl)).symm.trans h0_) (by decide)⟩
  refine steps_cons ?_ ?_
  ·
   rintro b a w' ⟨v311, v317, m9_, ha, Q_BK306, Q_HI0, Q_HK, Q_HB, Q_HI0_e4, Q_HO312, Q_HI0_e7, Q_HO318, Q_HI0_e8, Q_X9_⟩ hb_ hon hoff
   refine ⟨_, rfl, fun K hK => ?_⟩
   have e10 : a.tmps[10]? = some (.pointer (some ⟨g, 0, none⟩)) := by rw [ha]; exact (putSel_off rfl).trans rfl
   have e11 : a.tmps[11]? = some (v311) := by rw [ha]; exact putSel_on (e := (6, 11, v311)) 3 rfl rfl (hon 6 (by kernel_rfl)) rfl
   replace ha := A_ ha
   have BK306 := A_ Q_BK306
   have HK := A_ Q_HK
   have HB := A_ Q_HB
   have HI0 := A_ (Q_HI0_e4 (hon 4 (by kernel_rfl)) hb_)
   have HO312 := A_ (Q_HO312 (hon 6 (by kernel_rfl)))
   obtain ⟨Ao12, co12, eo12⟩ := Kd.R_slice HO312.out
   (first | subst eo12 | (injection eo12 with f1_ f2_ f3_; have f4_ := f1_.symm; have f5_ := f3_.symm; clear f1_ f2_ f3_; subst f4_; subst f5_))
   refine goes_ Try.func76 (by kernel_rfl) rfl #[.pointer (some ⟨g, 0, none⟩), .slice Ao12 y310.length co12] (by rfl) rfl rfl (by first | (simp only [List.map_toArray, List.map_cons, List.map_nil, Act.eval, Array.getD_eq_getD_getElem?, Option.getD_some, e10, e11]; done) | (simp only [List.map_toArray, List.map_cons, List.map_nil, Act.eval, Array.getD_eq_getD_getElem?, Option.getD_some, e10, e11]; rfl)) ?_
   with_reducible refine (spec_l1Cur_among.calls g s0_0 t308 t309 _ _ y310 t313 t314 t315 w0 _ ?side1 ?side2 ?side3 ?side4 ?side5 A4.out).mono ?_
   (case side1 => repeat (first | (with_reducible first | exact HI0.out | apply IsS73.alloc | apply IsS73.drewN | apply IsS73.drew | apply IsS73.set_1 | apply IsS73.set_2 | refine IsS73.far ?_ NB0_306.out _) | exact HI0.out))
   (case side2 => repeat (first | (with_reducible first | exact HB.out | apply below_alloc | apply pw_below_drewN | apply below_drew1 | refine below_set ?_ (IsS73.ge HI0.out) | refine below_set ?_ GE306.out) | exact HB.out))
   (case side3 => exact cq (Kd.R_reads' HO312.out).2.2)
   (case side4 => exact (Kd.R_reads' HO312.out).2.1)
   (case side5 => exact far_slice (IsS73.own_ne HI0.out HO312.out (by decide)))
   rintro e w13 ⟨rfl, hi, hb, hk⟩
   refine ⟨_, rfl, ?_⟩
   have n0_ := A_ (KeepBut.blk hk (g' := gb306) (o := .cells #[.int .i64 a1_0, .bool a1_1] 25 (0, 0)) (bq BK306) NB306_0.out (by simp))
   have n1_ := A_ (Kd.R_mono (Kd.R_keep (IsS73.apart (show IsS73 w0 _ g s0_0 t308 t309 from by repeat (first | (with_reducible first | exact HI0.out | apply IsS73.alloc | apply IsS73.drewN | apply IsS73.drew | apply IsS73.set_1 | apply IsS73.set_2 | refine IsS73.far ?_ NB0_306.out _) | exact HI0.out)) (rq HO312) (by decide)) hk (fun _ h => h.2)) (fun _ h => h.1))
   have n2_ := A_ (KeepBut.trans (by repeat (first | (with_reducible first | exact HK.out | apply KeepBut.set_ | apply keep_drewN | apply keep_drew | apply keep_alloc | refine keep_far ?_ GW306.out _) | exact HK.out)) hk (.inl rfl))
   have n3_ := A_ (hb)
   have n4_ := A_ (hi)
   clear BK306 HO312 HK HB HI0; have BK306 := n0_; have HO312 := n1_; have HK := n2_; have HB := n3_; have HI0 := n4_; clear n0_ n1_ n2_ n3_ n4_; (try clear hb); (try clear hb2); (try clear hk); (try clear hi)
   refine hK.out _ _ ⟨.slice Ao12 y310.length co12, v317, m9_, (by rw [ha.out]; exact putSel_upk 4 hb_ rfl rfl rfl), (bq BK306), fun h0_ => absurd ((hon 4 (by kernel_rfl)).symm.trans h0_) (by decide), (by repeat (first | (with_reducible first | exact HK.out | apply KeepBut.set_ | apply keep_drewN | apply keep_drew | apply keep_alloc | refine keep_far ?_ GW306.out _) | exact HK.out)), (by repeat (first | (with_reducible first | exact HB.out | apply below_alloc | apply pw_below_drewN | apply below_drew1 | refine below_set ?_ (IsS73.ge HI0.out) | refine below_set ?_ GE306.out) | exact HB.out)), fun _ h1_ => absurd ((up_self b 7).symm.trans h1_) (by decide), fun _ => (rq HO312), fun _ _ => (by repeat (first | (with_reducible first | exact HI0.out | apply IsS73.alloc | apply IsS73.drewN | apply IsS73.drew | apply IsS73.set_1 | apply IsS73.set_2 | refine IsS73.far ?_ NB0_306.out _) | exact HI0.out)), fun h0_ => absurd ((hoff 8 (by kernel_rfl)).symm.trans h0_) (by decide), fun h0_ => absurd ((hoff 8 (by kernel_rfl)).symm.trans h0_) (by decide), fun h0_ => absurd ((hoff 9 (by kernel_rfl)).symm.trans h0_) (by decide)⟩
  refine steps_cons ?_ ?_
  ·
   rintro b a w' ⟨v311, v317, m9_, ha, Q_BK306, Q_HI0, Q_HK, Q_HB, Q_HI0_e4, Q_HO312, Q_HI0_e7, Q_HO318, Q_HI0_e8, Q_X9_⟩ hb_ hon hoff
   refine ⟨_, rfl, fun K hK => ?_⟩
   have e5 : a.tmps[5]? = some (.pointer (some ⟨g, 0, none⟩)) := by rw [ha]; exact (putSel_off rfl).trans rfl
   have e6 : a.tmps[6]? = some (.agg #[.int .i64 a1_0, .bool a1_1]) := by rw [ha]; exact putSel_on (e := (1, 6, .agg #[.int .i64 a1_0, .bool a1_1])) 0 rfl rfl (hon 1 (by kernel_rfl)) rfl
   have e9 : a.tmps[9]? = some (.int .i64 t307) := by rw [ha]; exact putSel_on (e := (4, 9, .int .i64 t307)) 2 rfl rfl (hon 4 (by kernel_rfl)) rfl
   have e12 : a.tmps[12]? = some (.int .i64 t313) := by rw [ha]; exact putSel_on (e := (7, 12, .int .i64 t313)) 4 rfl rfl (hon 7 (by kernel_rfl)) rfl
   replace ha := A_ ha
   have BK306 := A_ Q_BK306
   have HK := A_ Q_HK
   have HB := A_ Q_HB
   have HO312 := A_ (Q_HO312 (hon 6 (by kernel_rfl)))
   have HI0 := A_ (Q_HI0_e7 (hon 7 (by kernel_rfl)) hb_)
   refine goes_ Try.func105 (by kernel_rfl) rfl #[.pointer (some ⟨g, 0, none⟩), .agg #[.int .i64 a1_0, .bool a1_1], .int .i64 t307, .int .i64 t313] (by rfl) rfl rfl (by first | (simp only [List.map_toArray, List.map_cons, List.map_nil, Act.eval, Array.getD_eq_getD_getElem?, Option.getD_some, e5, e6, e9, e12]; done) | (simp only [List.map_toArray, List.map_cons, List.map_nil, Act.eval, Array.getD_eq_getD_getElem?, Option.getD_some, e5, e6, e9, e12]; rfl)) ?_
   with_reducible refine (spec_l1Cur_walkFrom.calls k g s0_0 t314 t315 a1_0 a1_1 t307 t313 t316 t319 t320 w0 _ ?side1 ?side2 A5.out).mono ?_
   (case side1 => repeat (first | (with_reducible first | exact HI0.out | apply IsS73.alloc | apply IsS73.drewN | apply IsS73.drew | apply IsS73.set_1 | apply IsS73.set_2 | refine IsS73.far ?_ NB0_306.out _) | exact HI0.out))
   (case side2 => repeat (first | (with_reducible first | exact HB.out | apply below_alloc | apply pw_below_drewN | apply below_drew1 | refine below_set ?_ (IsS73.ge HI0.out) | refine below_set ?_ GE306.out) | exact HB.out))
   rintro e w14 ⟨v317, rfl, ho0, hi, hb, hk⟩
   refine ⟨_, rfl, ?_⟩
   have n0_ := A_ (KeepBut.blk hk (g' := gb306) (o := .cells #[.int .i64 a1_0, .bool a1_1] 25 (0, 0)) (bq BK306) NB306_0.out (by simp))
   have n1_ := A_ (Kd.R_mono (Kd.R_told (Kd.R_oldK (IsS73.apart (show IsS73 w0 _ g s0_0 t314 t315 from by repeat (first | (with_reducible first | exact HI0.out | apply IsS73.alloc | apply IsS73.drewN | apply IsS73.drew | apply IsS73.set_1 | apply IsS73.set_2 | refine IsS73.far ?_ NB0_306.out _) | exact HI0.out)) (rq HO312) (by decide)) hk) (Kd.R_base ho0)) (fun _ h_ => h_.1))
   have n2_ := A_ (Kd.R_lower (Kd.R_new' ho0 (Kd.R_lt (rq HO312))) (keep_size (w := w) (g := g) (row := none) (by repeat (first | (with_reducible first | exact HK.out | apply KeepBut.set_ | apply keep_drewN | apply keep_drew | apply keep_alloc | refine keep_far ?_ GW306.out _) | exact HK.out))))
   have n3_ := A_ (KeepBut.trans (by repeat (first | (with_reducible first | exact HK.out | apply KeepBut.set_ | apply keep_drewN | apply keep_drew | apply keep_alloc | refine keep_far ?_ GW306.out _) | exact HK.out)) hk (.inl rfl))
   have n4_ := A_ (hb)
   have n5_ := A_ (hi)
   clear BK306 HO312 HK HB HI0; have BK306 := n0_; have HO312 := n1_; have HO318 := n2_; have HK := n3_; have HB := n4_; have HI0 := n5_; clear n0_ n1_ n2_ n3_ n4_ n5_; (try clear hb); (try clear hb2); (try clear hk); (try clear hi); (try clear ho0)
   refine hK.out _ _ ⟨v311, v317, m9_, (by rw [ha.out]; exact putSel_upk 5 hb_ rfl rfl rfl), (bq BK306), fun h0_ => absurd ((hon 4 (by kernel_rfl)).symm.trans h0_) (by decide), (by repeat (first | (with_reducible first | exact HK.out | apply KeepBut.set_ | apply keep_drewN | apply keep_drew | apply keep_alloc | refine keep_far ?_ GW306.out _) | exact HK.out)), (by repeat (first | (with_reducible first | exact HB.out | apply below_alloc | apply pw_below_drewN | apply below_drew1 | refine below_set ?_ (IsS73.ge HI0.out) | refine below_set ?_ GE306.out) | exact HB.out)), fun _ h1_ => absurd ((hon 7 (by kernel_rfl)).symm.trans h1_) (by decide), fun _ => (by (with_reducible repeat (first | apply Kd.R_alloc | apply Kd.R_drewN | apply Kd.R_drew)); exact Kd.R_mono HO312.out (fun _ => cj)), fun _ h1_ => absurd ((up_self b 8).symm.trans h1_) (by decide), fun _ => (by (with_reducible repeat (first | apply Kd.R_alloc | apply Kd.R_drewN | apply Kd.R_drew)); exact Kd.R_mono HO318.out (fun _ => cj)), fun _ => (by repeat (first | (with_reducible first | exact HI0.out | apply IsS73.alloc | apply IsS73.drewN | apply IsS73.drew | apply IsS73.set_1 | apply IsS73.set_2 | refine IsS73.far ?_ NB0_306.out _) | exact HI0.out)), fun h0_ => absurd ((hoff 9 (by kernel_rfl)).symm.trans h0_) (by decide)⟩
  refine steps_cons ?_ ?_
  ·
   rintro b a w' ⟨v311, v317, m9_, ha, Q_BK306, Q_HI0, Q_HK, Q_HB, Q_HI0_e4, Q_HO312, Q_HI0_e7, Q_HO318, Q_HI0_e8, Q_X9_⟩ hb_ hon hoff
   refine ⟨_, rfl, fun K hK => ?_⟩
   have e13 : a.tmps[13]? = some (v317) := by rw [ha]; exact putSel_on (e := (8, 13, v317)) 5 rfl rfl (hon 8 (by kernel_rfl)) rfl
   replace ha := A_ ha
   have BK306 := A_ Q_BK306
   have HK := A_ Q_HK
   have HB := A_ Q_HB
   have HO312 := A_ (Q_HO312 (hon 6 (by kernel_rfl)))
   have HO318 := A_ (Q_HO318 (hon 8 (by kernel_rfl)))
   have HI0 := A_ (Q_HI0_e8 (hon 8 (by kernel_rfl)))
   refine value_ (w1 := w') (v := v317) (by rfl) rfl ?_ ?_
   ·
    go_simp
    (try simp only [i64_w])
    try rfl
   refine hK.out _ _ ⟨v311, v317, (v317), (by rw [ha.out]; exact putSel_upk 6 hb_ rfl rfl rfl), Q_BK306, fun h0_ => absurd ((hon 4 (by kernel_rfl)).symm.trans h0_) (by decide), Q_HK, Q_HB, fun _ h1_ => absurd ((hon 7 (by kernel_rfl)).symm.trans h1_) (by decide), Q_HO312, fun _ h1_ => absurd ((hon 8 (by kernel_rfl)).symm.trans h1_) (by decide), Q_HO318, Q_HI0_e8, fun _ => rfl⟩
  exact steps_nil
 rintro b a w14 hall ⟨v311, v317, m9_, ha, Q_BK306, Q_HI0, Q_HK, Q_HB, Q_HI0_e4, Q_HO312, Q_HI0_e7, Q_HO318, Q_HI0_e8, Q_X9_⟩
 clear BK306 HB HI0 HK
 have hb1_ := hall 1 (by kernel_rfl)
 have hb3_ := hall 3 (by kernel_rfl)
 have hb4_ := hall 4 (by kernel_rfl)
 have hb6_ := hall 6 (by kernel_rfl)
 have hb7_ := hall 7 (by kernel_rfl)
 have hb8_ := hall 8 (by kernel_rfl)
 have hb9_ := hall 9 (by kernel_rfl)
 subst ha
 obtain rfl := Q_X9_ hb9_
 simp only [putSel, hb1_, hb3_, hb4_, hb6_, hb7_, hb8_, hb9_, if_true, Act.put, List.setIfInBounds_toArray, List.set_cons_zero, List.set_cons_succ]
 have BK306 := A_ Q_BK306
 clear Q_BK306 Q_HI0
 have HK := A_ Q_HK
 clear Q_HK
 have HB := A_ Q_HB
 clear Q_HB Q_HI0_e4
 have HO312 := A_ (Q_HO312 hb6_)
 clear Q_HO312 Q_HI0_e7
 have HO318 := A_ (Q_HO318 hb8_)
 clear Q_HO318
 have HI0 := A_ (Q_HI0_e8 hb8_)
 clear Q_HI0_e8 hall hb1_ hb3_ hb4_ hb6_ hb7_ hb8_ hb9_
 try go_wp2
 go_ret
 exact ⟨_, rt, by (with_reducible repeat (first | apply Kd.R_alloc | apply Kd.R_drewN | apply Kd.R_drew)); exact Kd.R_mono HO318.out (fun _ hk => trivial), by repeat (first | (with_reducible first | exact HI0.out | apply IsS73.alloc | apply IsS73.drewN | apply IsS73.drew | apply IsS73.set_1 | apply IsS73.set_2 | refine IsS73.far ?_ NB0_306.out _) | exact HI0.out), by repeat (first | (with_reducible first | exact HB.out | apply below_alloc | apply pw_below_drewN | apply below_drew1 | refine below_set ?_ (IsS73.ge HI0.out) | refine below_set ?_ GE306.out) | exact HB.out), by repeat (first | (with_reducible first | exact HK.out | apply KeepBut.set_ | apply keep_drewN | apply keep_drew | apply keep_alloc | refine keep_far ?_ GW306.out _) | exact HK.out)⟩

/-! ### spec_l1Cur_leavers: function 80 -/
mutual
def spec_l1Cur_leavers.j0 : Nat → List (List Int) → Bool → List Int → Int → Int → Int → Bool → Option ((List (List Int)) × Int × Int)
  | 0, _, _, _, _, _, _, _ => none
  | k + 1, x5, x21, x1000, x1001, x1002, x322000, x322001 => if x21 = true then ((spec_l1Cur_one.f x1000 x1001 x1002 3).bind fun bt332 => (if bt332.1 = true then ((spec_l1Cur_walk.f k x1000 bt332.2.1 bt332.2.2 x322000 x322001).bind fun bt335 => (if x5.length < 5864062014805 then (some ((x5 ++ [bt335.1]), bt335.2.1, bt335.2.2)) else (none))) else (some (x5, bt332.2.1, bt332.2.2)))) else ((spec_l1Cur_among.f x1000 x1001 x1002 (([2, 1, 3, 4, 0, 5] : List Int))).bind fun bt349 => (spec_l1Cur_leavers.l0 k (([] : List (List Int))) bt349.1 x1000 bt349.2.1 bt349.2.2 x322000 x322001))
def spec_l1Cur_leavers.l0 : Nat → List (List Int) → Int → List Int → Int → Int → Int → Bool → Option ((List (List Int)) × Int × Int)
  | 0, _, _, _, _, _, _, _ => none
  | k + 1, x7, x8, x1000, x1001, x1002, x322000, x322001 => if x8 > 0 then ((spec_l1Cur_walk.f k x1000 x1001 x1002 x322000 x322001).bind fun bt352 => (if x7.length < 5864062014805 then (spec_l1Cur_leavers.l0 k (x7 ++ [bt352.1]) (wrap64 (x8 - 1)) x1000 bt352.2.1 bt352.2.2 x322000 x322001) else (none))) else (some (x7, x1001, x1002))
end
def spec_l1Cur_leavers.f (k : Nat) (s0_0 : List Int) (s0_1 : Int) (s0_2 : Int) (a1_0 : Int) (a1_1 : Bool) : Option ((List (List Int)) × Int × Int) := (spec_l1Cur_placeOn.f s0_0 s0_1 s0_2 a1_0 a1_1).bind fun bt322 => ((spec_SplitWalks.f k a1_0 a1_1 bt322.1).bind fun bt325 => (if bt325.2 = true then ((spec_l1Cur_one.f s0_0 bt322.2.1 bt322.2.2 2).bind fun bt329 => (spec_l1Cur_leavers.j0 k bt325.1 bt329.1 s0_0 bt329.2.1 bt329.2.2 a1_0 a1_1)) else (spec_l1Cur_leavers.j0 k bt325.1 false s0_0 bt322.2.1 bt322.2.2 a1_0 a1_1)))
theorem spec_l1Cur_leavers.mono_l : ∀ k, (∀ y0 y1 y2 y3 y4 y5 y6, LeO (spec_l1Cur_leavers.j0 k y0 y1 y2 y3 y4 y5 y6) (spec_l1Cur_leavers.j0 (k + 1) y0 y1 y2 y3 y4 y5 y6)) ∧ (∀ y0 y1 y2 y3 y4 y5 y6, LeO (spec_l1Cur_leavers.l0 k y0 y1 y2 y3 y4 y5 y6) (spec_l1Cur_leavers.l0 (k + 1) y0 y1 y2 y3 y4 y5 y6))
  | 0 => ⟨fun _ _ _ _ _ _ _ r h => by simp [spec_l1Cur_leavers.j0] at h, fun _ _ _ _ _ _ _ r h => by simp [spec_l1Cur_leavers.l0] at h⟩
  | k + 1 => by
    obtain ⟨ih0, ih1⟩ := spec_l1Cur_leavers.mono_l k
    refine ⟨?_, ?_⟩
    · intro y0 y1 y2 y3 y4 y5 y6
      unfold spec_l1Cur_leavers.j0
      repeat' first
      | (with_reducible exact ih0 _ _ _ _ _ _ _)
      | (with_reducible exact ih1 _ _ _ _ _ _ _)
      | (with_reducible exact spec_SplitWalks.mono _ _ _ _)
      | (with_reducible exact spec_l1Cur_walk.mono _ _ _ _ _ _)
      | (with_reducible exact LeO.refl _)
      | (with_reducible exact LeO.none _)
      | (with_reducible refine LeO.ite ?_ ?_)
      | (with_reducible refine LeO.bind ?_ (fun _ => ?_))
      | exact ih0 _ _ _ _ _ _ _
      | exact ih1 _ _ _ _ _ _ _
      | exact spec_SplitWalks.mono _ _ _ _
      | exact spec_l1Cur_walk.mono _ _ _ _ _ _
      | exact LeO.none _
      | refine LeO.ite ?_ ?_
      | refine LeO.bind ?_ (fun _ => ?_)
    · intro y0 y1 y2 y3 y4 y5 y6
      unfold spec_l1Cur_leavers.l0
      repeat' first
      | (with_reducible exact ih0 _ _ _ _ _ _ _)
      | (with_reducible exact ih1 _ _ _ _ _ _ _)
      | (with_reducible exact spec_SplitWalks.mono _ _ _ _)
      | (with_reducible exact spec_l1Cur_walk.mono _ _ _ _ _ _)
      | (with_reducible exact LeO.refl _)
      | (with_reducible exact LeO.none _)
      | (with_reducible refine LeO.ite ?_ ?_)
      | (with_reducible refine LeO.bind ?_ (fun _ => ?_))
      | exact ih0 _ _ _ _ _ _ _
      | exact ih1 _ _ _ _ _ _ _
      | exact spec_SplitWalks.mono _ _ _ _
      | exact spec_l1Cur_walk.mono _ _ _ _ _ _
      | exact LeO.none _
      | refine LeO.ite ?_ ?_
      | refine LeO.bind ?_ (fun _ => ?_)
theorem spec_l1Cur_leavers.mono : ∀ a0 a1 a2 a3 a4 k, LeO (spec_l1Cur_leavers.f k a0 a1 a2 a3 a4) (spec_l1Cur_leavers.f (k + 1) a0 a1 a2 a3 a4) := by
  intro a0 a1 a2 a3 a4 k
  obtain ⟨ih0, ih1⟩ := spec_l1Cur_leavers.mono_l k
  unfold spec_l1Cur_leavers.f
  repeat' first
      | (with_reducible exact ih0 _ _ _ _ _ _ _)
      | (with_reducible exact ih1 _ _ _ _ _ _ _)
      | (with_reducible exact spec_SplitWalks.mono _ _ _ _)
      | (with_reducible exact spec_l1Cur_walk.mono _ _ _ _ _ _)
      | (with_reducible exact LeO.refl _)
      | (with_reducible exact LeO.none _)
      | (with_reducible refine LeO.ite ?_ ?_)
      | (with_reducible refine LeO.bind ?_ (fun _ => ?_))
      | exact ih0 _ _ _ _ _ _ _
      | exact ih1 _ _ _ _ _ _ _
      | exact spec_SplitWalks.mono _ _ _ _
      | exact spec_l1Cur_walk.mono _ _ _ _ _ _
      | exact LeO.none _
      | refine LeO.ite ?_ ?_
      | refine LeO.bind ?_ (fun _ => ?_)
def spec_l1Cur_leavers.T1 : Bool × List (List Nat × List Nat) := (true, [([], []), ([], []), ([], []), ([1, 2], [1, 2]), ([0, 3, 3], [0, 3]), ([4], [4]), ([5], [5]), ([5], [5]), ([6, 4, 0, 1, 2, 3, 4, 5, 6], [6]), ([7, 8, 0, 1, 2, 3, 4, 5, 6, 7, 8], [7])])
def spec_l1Cur_leavers.B1 : List Nat := [0, 0, 0, 6, 15, 31, 63, 63, 127, 511]
theorem spec_l1Cur_leavers.tab1 : rtab .any (opsOf Try.f80 1) = spec_l1Cur_leavers.T1 := by kernel_rfl
theorem spec_l1Cur_leavers.bits1 : waitsOk spec_l1Cur_leavers.T1.2 spec_l1Cur_leavers.B1 = true := by kernel_rfl
set_option maxHeartbeats 8000000 in
set_option maxRecDepth 100000 in
theorem spec_l1Cur_leavers.calls (k : Nat) (g : Nat) (s0_0 : List Int) (s0_1 : Int) (s0_2 : Int) (a1_0 : Int) (a1_1 : Bool) (r1 : List (List Int)) (r2 : Int) (r3 : Int) (w0 w : World) (hI : IsS73 w0 w g s0_0 s0_1 s0_2) (hB : Below w0.heap.size w0 w) (h : spec_l1Cur_leavers.f k s0_0 s0_1 s0_2 a1_0 a1_1 = some (r1, r2, r3)) :
    Calls Try.prog 80 #[.pointer (some ⟨g, 0, none⟩), .agg #[.int .i64 a1_0, .bool a1_1]] w fun e w' => ∃ v0_ : Value, e = .returned (v0_) ∧ Kd.S (Kd.slice 3 (Kd.int .i64)) 26 w' w.heap.size (fun _ => True) v0_ r1 ∧ IsS73 w0 w' g s0_0 r2 r3 ∧ Below w0.heap.size w0 w' ∧ KeepBut w w' g none := by
 have hu25 := Try.underlying25
 have HI0 := A_ hI
 have HK := A_ (KeepBut.refl w g none)
 have HL := A_ hB.size
 clear hI
 have HW0 := A_ hB.size
 have HB := A_ hB
 clear hB
 have H : ((spec_l1Cur_placeOn.f s0_0 s0_1 s0_2 a1_0 a1_1).bind fun bt322 => ((spec_SplitWalks.f k a1_0 a1_1 bt322.1).bind fun bt325 => (if bt325.2 = true then ((spec_l1Cur_one.f s0_0 bt322.2.1 bt322.2.2 2).bind fun bt329 => (spec_l1Cur_leavers.j0 k bt325.1 bt329.1 s0_0 bt329.2.1 bt329.2.2 a1_0 a1_1)) else (spec_l1Cur_leavers.j0 k bt325.1 false s0_0 bt322.2.1 bt322.2.2 a1_0 a1_1)))) = some (r1, r2, r3) := h
 clear h
 replace H := Option.bind_eq_some_iff.mp H
 obtain ⟨⟨t322, t323, t324⟩, A30, H⟩ := H
 replace H : ((spec_SplitWalks.f k a1_0 a1_1 t322).bind fun bt325 => (if bt325.2 = true then ((spec_l1Cur_one.f s0_0 t323 t324 2).bind fun bt329 => (spec_l1Cur_leavers.j0 k bt325.1 bt329.1 s0_0 bt329.2.1 bt329.2.2 a1_0 a1_1)) else (spec_l1Cur_leavers.j0 k bt325.1 false s0_0 t323 t324 a1_0 a1_1))) = some (r1, r2, r3) := H
 have A3 := A_ A30
 clear A30
 replace H := Option.bind_eq_some_iff.mp H
 obtain ⟨⟨t325, t328⟩, A40, H⟩ := H
 replace H : (if t328 = true then ((spec_l1Cur_one.f s0_0 t323 t324 2).bind fun bt329 => (spec_l1Cur_leavers.j0 k t325 bt329.1 s0_0 bt329.2.1 bt329.2.2 a1_0 a1_1)) else (spec_l1Cur_leavers.j0 k t325 false s0_0 t323 t324 a1_0 a1_1)) = some (r1, r2, r3) := H
 have A4 := A_ A40
 clear A40
 have HC5 := A_ H
 clear H
 go_enter Try.func80, Try.ntmps80
 try go_wp2_with (first | ((with_reducible refine gate_dst (N := 3) rfl ?_); refine box_event ?hg (N := 3) ?hd (cs := #[.int .i64 a1_0, .bool a1_1]) (t := 25) ?hr ?_; (case hd => rfl); (case hg => rfl); (case hr => first | (go_simp; done) | (go_simp; rfl)); intro gb321 hg w6 hbox hb; have n0_ := A_ (IsS73.below (by repeat (first | (with_reducible first | exact HI0.out | apply IsS73.alloc | apply IsS73.drewN | apply IsS73.drew | apply IsS73.set_1 | apply IsS73.set_2) | exact HI0.out)) hb); have n1_ := A_ (KeepBut.trans (by repeat (first | (with_reducible first | exact HK.out | apply KeepBut.set_ | apply keep_drewN | apply keep_drew | apply keep_alloc) | exact HK.out)) (KeepBut.of_below hb g none) (.inl rfl)); have n2_ := A_ (below_step (by repeat (first | (with_reducible first | exact HB.out | apply below_alloc | apply pw_below_drewN | apply below_drew1 | refine below_set ?_ (IsS73.ge HI0.out)) | exact HB.out)) hb); have n3_ := A_ (hbox); have n4_ := A_ ((by rw [hg]; exact (keep_size (w := w) (g := g) (row := none) (by repeat (first | (with_reducible first | exact HK.out | apply KeepBut.set_ | apply keep_drewN | apply keep_drew | apply keep_alloc) | exact HK.out))) : w.heap.size ≤ gb321)); have n5_ := A_ ((Nat.le_trans HW0.out (by rw [hg]; exact (keep_size (w := w) (g := g) (row := none) (by repeat (first | (with_reducible first | exact HK.out | apply KeepBut.set_ | apply keep_drewN | apply keep_drew | apply keep_alloc) | exact HK.out))) : w.heap.size ≤ gb321) : w0.heap.size ≤ gb321)); have n6_ := A_ ((by rw [hg]; exact Nat.ne_of_lt (IsS73.lt (show IsS73 w0 _ g s0_0 s0_1 s0_2 from by repeat (first | (with_reducible first | exact HI0.out | apply IsS73.alloc | apply IsS73.drewN | apply IsS73.drew | apply IsS73.set_1 | apply IsS73.set_2) | exact HI0.out))) : g ≠ gb321)); have n7_ := A_ ((by rw [hg]; exact Nat.ne_of_gt (IsS73.lt (show IsS73 w0 _ g s0_0 s0_1 s0_2 from by repeat (first | (with_reducible first | exact HI0.out | apply IsS73.alloc | apply IsS73.drewN | apply IsS73.drew | apply IsS73.set_1 | apply IsS73.set_2) | exact HI0.out))) : gb321 ≠ g)); clear HI0; clear HK; clear HB; have HI0 := n0_; have HK := n1_; have HB := n2_; have BK321 := n3_; have GW321 := n4_; have GE321 := n5_; have NB0_321 := n6_; have NB321_0 := n7_; clear n0_ n1_ n2_ n3_ n4_ n5_ n6_ n7_; clear hb hbox hg))
 have n0_ := A_ (blk_drew BK321.out)
 have n1_ := A_ (IsS73.drew HI0.out)
 have n2_ := A_ (keep_drew HK.out)
 have n3_ := A_ (below_drew1 HB.out)
 clear BK321 HI0 HK HB; have BK321 := n0_; have HI0 := n1_; have HK := n2_; have HB := n3_; clear n0_ n1_ n2_ n3_
 refine start_ (n := 10) (S := fun w' => w'.cell? ⟨gb321, 0, none⟩ = some (.int .i64 a1_0) ∧ w'.cell? ⟨gb321, 1, none⟩ = some (.bool a1_1)) (ds := []) #[false, false, false, false, false, false, false, false, false, false] (by kernel_rfl) rfl rfl ⟨bc BK321 0, bc BK321 1⟩ (fun hHeld => ?_); refine with_tabW spec_l1Cur_leavers.tab1 spec_l1Cur_leavers.bits1 (fun HT_ HW_ => ?_)
 generalize w6.drew = w7 at BK321 HI0 HK HB hHeld ⊢
 refine pure_ (i := 1) (N := some 11) (v := ?_) (a' := ?_) #[false, true, false, false, false, false, false, false, false, false] rfl rfl (any_of HT_.out (by kernel_rfl)) (fun _ _ _ h => h) (Or.inl ⟨by rfl, ?_⟩) ?_ ?_
 rotate_left
 ·
  intro w'
  go_simp
  with_reducible rfl
 rotate_left
 ·
  simp only [Act.put, List.setIfInBounds_toArray, List.set_cons_zero, List.set_cons_succ, i64_w, i32_w]
  rfl
 refine take_ (i := 0) (N := some 10) (v := ?_) (a' := ?_) #[true, true, false, false, false, false, false, false, false, false] rfl rfl (take_ofW HT_.out HW_.out (by kernel_rfl)) (fun _ _ _ h => h) (Or.inl ⟨by rfl, ?_⟩) hHeld ?_ ?_
 rotate_left
 ·
  rintro w' ⟨s0, s1⟩
  go_simp
  with_reducible rfl
 rotate_left
 ·
  simp only [Act.put, List.setIfInBounds_toArray, List.set_cons_zero, List.set_cons_succ, i64_w, i32_w]
  rfl
 refine take_ (i := 2) (N := some 12) (v := ?_) (a' := ?_) #[true, true, true, false, false, false, false, false, false, false] rfl rfl (take_ofW HT_.out HW_.out (by kernel_rfl)) (fun _ _ _ h => h) (Or.inl ⟨by rfl, ?_⟩) hHeld ?_ ?_
 rotate_left
 ·
  rintro w' ⟨s0, s1⟩
  go_simp
  with_reducible rfl
 rotate_left
 ·
  simp only [Act.put, List.setIfInBounds_toArray, List.set_cons_zero, List.set_cons_succ, i64_w, i32_w]
  rfl
 refine one_ (i := 3) (N := some 13) #[true, true, true, true, false, false, false, false, false, false] rfl rfl (one_of HT_.out (by kernel_rfl)) (by decide) (fun K hK => ?_)
 refine goes_ Try.func65 (by kernel_rfl) rfl #[.pointer (some ⟨g, 0, none⟩), .agg #[.int .i64 a1_0, .bool a1_1]] (by rfl) rfl rfl gq ?_
 with_reducible refine (spec_l1Cur_placeOn.calls g s0_0 s0_1 s0_2 a1_0 a1_1 t322 t323 t324 w0 _ ?side1 ?side2 A3.out).mono ?_
 (case side1 => repeat (first | (with_reducible first | exact HI0.out | apply IsS73.alloc | apply IsS73.drewN | apply IsS73.drew | apply IsS73.set_1 | apply IsS73.set_2 | refine IsS73.far ?_ NB0_321.out _) | exact HI0.out))
 (case side2 => repeat (first | (with_reducible first | exact HB.out | apply below_alloc | apply pw_below_drewN | apply below_drew1 | refine below_set ?_ (IsS73.ge HI0.out) | refine below_set ?_ GE321.out) | exact HB.out))
 rintro e w8 ⟨rfl, hi, hb, hk⟩
 refine ⟨_, rfl, ?_⟩
 have n0_ := A_ (KeepBut.blk hk (g' := gb321) (o := .cells #[.int .i64 a1_0, .bool a1_1] 25 (0, 0)) (bq BK321) NB321_0.out (by simp))
 have n1_ := A_ (KeepBut.trans (by repeat (first | (with_reducible first | exact HK.out | apply KeepBut.set_ | apply keep_drewN | apply keep_drew | apply keep_alloc | refine keep_far ?_ GW321.out _) | exact HK.out)) hk (.inl rfl))
 have n2_ := A_ (hb)
 have n3_ := A_ (hi)
 clear BK321 HK HB HI0; have BK321 := n0_; have HK := n1_; have HB := n2_; have HI0 := n3_; clear n0_ n1_ n2_ n3_; (try clear hb); (try clear hb2); (try clear hk); (try clear hi)
 refine hK.out _ _ ⟨bc BK321 0, bc BK321 1⟩ (fun hHeld => ?_)
 clear hK K
 refine norm_ (a' := ?_) ?_ ?_
 rotate_left
 ·
  exact pq (d := some 13)
 refine one_ (i := 4) (N := some 14) #[true, true, true, true, true, false, false, false, false, false] rfl rfl (one_of HT_.out (by kernel_rfl)) (by decide) (fun K hK => ?_)
 refine goes_ Try.func37 (by kernel_rfl) rfl #[.agg #[.int .i64 a1_0, .bool a1_1], .int .i64 t322] (by rfl) rfl rfl gq ?_
 with_reducible refine (spec_SplitWalks.calls k a1_0 a1_1 t322 t325 t328 _ A4.out).mono ?_
 rintro e w9 ⟨v326, rfl, ho0, hb⟩
 refine ⟨_, rfl, ?_⟩
 have n0_ := A_ (Kd.S_lower ho0 (keep_size (w := w) (g := g) (row := none) (by repeat (first | (with_reducible first | exact HK.out | apply KeepBut.set_ | apply keep_drewN | apply keep_drew | apply keep_alloc | refine keep_far ?_ GW321.out _) | exact HK.out))))
 have n1_ := A_ (IsS73.below (by repeat (first | (with_reducible first | exact HI0.out | apply IsS73.alloc | apply IsS73.drewN | apply IsS73.drew | apply IsS73.set_1 | apply IsS73.set_2 | refine IsS73.far ?_ NB0_321.out _) | exact HI0.out)) hb)
 have n2_ := A_ (blk_below (bq BK321) hb)
 have n3_ := A_ (KeepBut.trans (by repeat (first | (with_reducible first | exact HK.out | apply KeepBut.set_ | apply keep_drewN | apply keep_drew | apply keep_alloc | refine keep_far ?_ GW321.out _) | exact HK.out)) (KeepBut.of_below hb g none) (.inl rfl))
 have n4_ := A_ (below_step (by repeat (first | (with_reducible first | exact HB.out | apply below_alloc | apply pw_below_drewN | apply below_drew1 | refine below_set ?_ (IsS73.ge HI0.out) | refine below_set ?_ GE321.out) | exact HB.out)) hb)
 clear HI0 BK321 HK HB; have HO327 := n0_; have HI0 := n1_; have BK321 := n2_; have HK := n3_; have HB := n4_; clear n0_ n1_ n2_ n3_ n4_; (try clear hb); (try clear hb2); (try clear hk); (try clear hi); (try clear ho0)
 refine hK.out _ _ ⟨bc BK321 0, bc BK321 1⟩ (fun hHeld => ?_)
 clear hK K
 refine norm_ (a' := ?_) ?_ ?_
 rotate_left
 ·
  exact pq (d := some 14)
 refine pure_ (i := 5) (N := some 9) (v := ?_) (a' := ?_) #[true, true, true, true, true, true, false, false, false, false] rfl rfl (any_of HT_.out (by kernel_rfl)) (fun _ _ _ h => h) (Or.inl ⟨by rfl, ?_⟩) ?_ ?_
 rotate_left
 ·
  intro w'
  go_simp
  with_reducible rfl
 rotate_left
 ·
  simp only [Act.put, List.setIfInBounds_toArray, List.set_cons_zero, List.set_cons_succ, i64_w, i32_w]
  rfl
 refine pure_ (i := 6) (N := some 15) (v := ?_) (a' := ?_) #[true, true, true, true, true, true, true, false, false, false] rfl rfl (any_of HT_.out (by kernel_rfl)) (fun _ _ _ h => h) (Or.inl ⟨by rfl, ?_⟩) ?_ ?_
 rotate_left
 ·
  intro w'
  go_simp
  with_reducible rfl
 rotate_left
 ·
  simp only [Act.put, List.setIfInBounds_toArray, List.set_cons_zero, List.set_cons_succ, i64_w, i32_w]
  rfl
 refine pure_ (i := 7) (N := some 16) (v := ?_) (a' := ?_) #[true, true, true, true, true, true, true, true, false, false] rfl rfl (any_of HT_.out (by kernel_rfl)) (fun _ _ _ h => h) (Or.inl ⟨by rfl, ?_⟩) ?_ ?_
 rotate_left
 ·
  intro w'
  go_simp
  with_reducible rfl
 rotate_left
 ·
  simp only [Act.put, List.setIfInBounds_toArray, List.set_cons_zero, List.set_cons_succ, i64_w, i32_w]
  rfl
 refine pure_ (i := 8) (N := some 5) (v := ?_) (a' := ?_) #[true, true, true, true, true, true, true, true, true, false] rfl rfl (any_of HT_.out (by kernel_rfl)) (fun _ _ _ h => h) (Or.inl ⟨by rfl, ?_⟩) ?_ ?_
 rotate_left
 ·
  intro w'
  go_simp
  with_reducible rfl
 rotate_left
 ·
  simp only [Act.put, List.setIfInBounds_toArray, List.set_cons_zero, List.set_cons_succ, i64_w, i32_w]
  rfl
 refine pure_ (i := 9) (N := some 6) (v := ?_) (a' := ?_) #[true, true, true, true, true, true, true, true, true, true] rfl rfl (any_of HT_.out (by kernel_rfl)) (fun _ _ _ h => h) (Or.inl ⟨by rfl, ?_⟩) ?_ ?_
 rotate_left
 ·
  intro w'
  go_simp
  with_reducible rfl
 rotate_left
 ·
  simp only [Act.put, List.setIfInBounds_toArray, List.set_cons_zero, List.set_cons_succ, i64_w, i32_w]
  rfl
 refine done_ (done_of HT_.out (by kernel_rfl)) ?_
 go_upto_region 2 with (fail)
 go_cut [21] (fun v21 wc => ∃ (kq : Nat) (x21_4 : Bool) (x1001_4 : Int) (x1002_4 : Int), v21 = .bool x21_4 ∧ Aside0 (spec_l1Cur_leavers.j0 kq t325 x21_4 s0_0 x1001_4 x1002_4 a1_0 a1_1 = some (r1, r2, r3)) ∧ Aside0 (kq ≤ k) ∧ Aside0 (Kd.S (Kd.slice 3 (Kd.int .i64)) 26 wc w.heap.size (fun _ => True) v326 t325) ∧ Aside0 (wc.heap[gb321]? = some (.cells #[.int .i64 a1_0, .bool a1_1] 25 (0, 0))) ∧ Aside0 (IsS73 w0 wc g s0_0 x1001_4 x1002_4) ∧ Aside0 (KeepBut w wc g none) ∧ Aside0 (Below w0.heap.size w0 wc))
 case first =>
  have H := HC5.out
  clear HC5
  by_cases c10 : t328 = true
  ·
   subst c10
   have H1 : ((spec_l1Cur_one.f s0_0 t323 t324 2).bind fun bt329 => (spec_l1Cur_leavers.j0 k t325 bt329.1 s0_0 bt329.2.1 bt329.2.2 a1_0 a1_1)) = some (r1, r2, r3) := by rw [if_pos rfl] at H; exact H
   clear H
   have H := H1
   clear H1
   replace H := Option.bind_eq_some_iff.mp H
   obtain ⟨⟨t329, t330, t331⟩, A110, H⟩ := H
   replace H : (spec_l1Cur_leavers.j0 k t325 t329 s0_0 t330 t331 a1_0 a1_1) = some (r1, r2, r3) := H
   have A11 := A_ A110
   clear A110
   have H' := A_ H
   clear H
   go_wp2_with (first | (go_at_call 66; (with_reducible refine (spec_l1Cur_one.calls g s0_0 t323 t324 2 t329 t330 t331 w0 _ ?side1 ?side2 A11.out).mono ?_); (case side1 => repeat (first | (with_reducible first | exact HI0.out | apply IsS73.alloc | apply IsS73.drewN | apply IsS73.drew | apply IsS73.set_1 | apply IsS73.set_2 | refine IsS73.far ?_ NB0_321.out _) | exact HI0.out)); (case side2 => repeat (first | (with_reducible first | exact HB.out | apply below_alloc | apply pw_below_drewN | apply below_drew1 | refine below_set ?_ (IsS73.ge HI0.out) | refine below_set ?_ GE321.out) | exact HB.out)); rintro e w12 ⟨rfl, hi, hb, hk⟩; have n0_ := A_ (KeepBut.blk hk (g' := gb321) (o := .cells #[.int .i64 a1_0, .bool a1_1] 25 (0, 0)) (bq BK321) NB321_0.out (by simp)); have n1_ := A_ (Kd.S_mono (Kd.S_keep (IsS73.apartS (show IsS73 w0 _ g s0_0 t323 t324 from by repeat (first | (with_reducible first | exact HI0.out | apply IsS73.alloc | apply IsS73.drewN | apply IsS73.drew | apply IsS73.set_1 | apply IsS73.set_2 | refine IsS73.far ?_ NB0_321.out _) | exact HI0.out)) (sq HO327) (by decide)) hk (fun _ h => h.2)) (fun _ h => h.1)); have n2_ := A_ (KeepBut.trans (by repeat (first | (with_reducible first | exact HK.out | apply KeepBut.set_ | apply keep_drewN | apply keep_drew | apply keep_alloc | refine keep_far ?_ GW321.out _) | exact HK.out)) hk (.inl rfl)); have n3_ := A_ (hb); have n4_ := A_ (hi); clear BK321; clear HO327; clear HK; clear HB; clear HI0; have BK321 := n0_; have HO327 := n1_; have HK := n2_; have HB := n3_; have HI0 := n4_; clear n0_ n1_ n2_ n3_ n4_; (try clear hb); (try clear hb2); (try clear hk); (try clear hi)))
   go_meet
   case rel => exact ⟨_, (t329), (t330), (t331), (by first | rfl | (simp; done) | (simp [*]; done)), H', ⟨by first | omega | exact Nat.le_refl _⟩, ⟨sq HO327⟩, ⟨bq BK321⟩, ⟨by repeat (first | (with_reducible first | exact HI0.out | apply IsS73.alloc | apply IsS73.drewN | apply IsS73.drew | apply IsS73.set_1 | apply IsS73.set_2 | refine IsS73.far ?_ NB0_321.out _) | exact HI0.out)⟩, ⟨by repeat (first | (with_reducible first | exact HK.out | apply KeepBut.set_ | apply keep_drewN | apply keep_drew | apply keep_alloc | refine keep_far ?_ GW321.out _) | exact HK.out)⟩, ⟨by repeat (first | (with_reducible first | exact HB.out | apply below_alloc | apply pw_below_drewN | apply below_drew1 | refine below_set ?_ (IsS73.ge HI0.out) | refine below_set ?_ GE321.out) | exact HB.out)⟩⟩
  ·
   replace c10 := Bool.eq_false_iff.mpr c10
   subst c10
   have H1 : (spec_l1Cur_leavers.j0 k t325 false s0_0 t323 t324 a1_0 a1_1) = some (r1, r2, r3) := by rw [if_neg (show ¬ (false = true) by decide)] at H; exact H
   clear H
   have H := H1
   clear H1
   have H' := A_ H
   clear H
   go_wp2
   go_meet
   case rel => exact ⟨_, (false), (t323), (t324), (by first | rfl | (simp; done) | (simp [*]; done)), H', ⟨by first | omega | exact Nat.le_refl _⟩, ⟨sq HO327⟩, ⟨bq BK321⟩, ⟨by repeat (first | (with_reducible first | exact HI0.out | apply IsS73.alloc | apply IsS73.drewN | apply IsS73.drew | apply IsS73.set_1 | apply IsS73.set_2 | refine IsS73.far ?_ NB0_321.out _) | exact HI0.out)⟩, ⟨by repeat (first | (with_reducible first | exact HK.out | apply KeepBut.set_ | apply keep_drewN | apply keep_drew | apply keep_alloc | refine keep_far ?_ GW321.out _) | exact HK.out)⟩, ⟨by repeat (first | (with_reducible first | exact HB.out | apply below_alloc | apply pw_below_drewN | apply below_drew1 | refine below_set ?_ (IsS73.ge HI0.out) | refine below_set ?_ GE321.out) | exact HB.out)⟩⟩
 case rest =>
  clear HC5
  try clear c1
  try clear p2
  try clear c3
  try clear c6
  try clear c8
  try clear c10
  obtain ⟨kq, x21_4, x1001_4, x1002_4, rfl, HA, HJ4, HO_5, BK321, HI0, HK, HB⟩ := hcut
  cases kq with
  | zero => exact absurd HA.out (by simp [spec_l1Cur_leavers.j0])
  | succ kj4 =>
   have H := HA.out
   clear HA
   simp only [spec_l1Cur_leavers.j0] at H
   by_cases c13 : x21_4 = true
   ·
    subst c13
    have H1 : ((spec_l1Cur_one.f s0_0 x1001_4 x1002_4 3).bind fun bt332 => (if bt332.1 = true then ((spec_l1Cur_walk.f kj4 s0_0 bt332.2.1 bt332.2.2 a1_0 a1_1).bind fun bt335 => (if t325.length < 5864062014805 then (some ((t325 ++ [bt335.1]), bt335.2.1, bt335.2.2)) else (none))) else (some (t325, bt332.2.1, bt332.2.2)))) = some (r1, r2, r3) := by rw [if_pos rfl] at H; exact H
    clear H
    have H := H1
    clear H1
    replace H := Option.bind_eq_some_iff.mp H
    obtain ⟨⟨t332, t333, t334⟩, A140, H⟩ := H
    replace H : (if t332 = true then ((spec_l1Cur_walk.f kj4 s0_0 t333 t334 a1_0 a1_1).bind fun bt335 => (if t325.length < 5864062014805 then (some ((t325 ++ [bt335.1]), bt335.2.1, bt335.2.2)) else (none))) else (some (t325, t333, t334))) = some (r1, r2, r3) := H
    have A14 := A_ A140
    clear A140
    by_cases c15 : t332 = true
    ·
     subst c15
     have H1 : ((spec_l1Cur_walk.f kj4 s0_0 t333 t334 a1_0 a1_1).bind fun bt335 => (if t325.length < 5864062014805 then (some ((t325 ++ [bt335.1]), bt335.2.1, bt335.2.2)) else (none))) = some (r1, r2, r3) := by rw [if_pos rfl] at H; exact H
     clear H
     have H := H1
     clear H1
     replace H := Option.bind_eq_some_iff.mp H
     obtain ⟨⟨t335, t338, t339⟩, A160, H⟩ := H
     replace H : (if t325.length < 5864062014805 then (some ((t325 ++ [t335]), t338, t339)) else (none)) = some (r1, r2, r3) := H
     have A16 := A_ A160
     clear A160
     by_cases c17 : t325.length < 5864062014805
     ·
      rw [if_pos c17] at H
      have LMc17 := A_ c17
      clear c17
      obtain ⟨y340, hy340⟩ : ∃ y_ : List (List Int), y_ = (t325 ++ [t335]) := ⟨_, rfl⟩
      replace H : (some (y340, t338, t339)) = some (r1, r2, r3) := by first | (rw [hy340]; with_reducible exact H) | (have H2_ := (Option.bind_some _ _).symm.trans H; rw [hy340]; with_reducible exact H2_) | (have H2_ := (Option.bind_some _ _).symm.trans H; with_reducible exact H2_) | with_reducible exact H | (rw [hy340]; exact H) | exact H
      have Ny340 := A_ hy340
      clear hy340
      simp only [Option.some.injEq, Prod.mk.injEq] at H
      obtain ⟨rfl, rfl, rfl⟩ := H
      go_wp2_with (first | ((with_reducible refine gate_callee (f := 66) rfl ?_); refine goesL_ (some 23) rfl rfl Try.func66 (by kernel_rfl) rfl #[.pointer (some ⟨g, 0, none⟩), .int .i64 3] rfl gq ?_; (with_reducible refine (spec_l1Cur_one.calls g s0_0 x1001_4 x1002_4 3 true t333 t334 w0 _ ?side1 ?side2 A14.out).mono ?_); (case side1 => repeat (first | (with_reducible first | exact HI0.out | apply IsS73.alloc | apply IsS73.drewN | apply IsS73.drew | apply IsS73.set_1 | apply IsS73.set_2 | refine IsS73.far ?_ NB0_321.out _) | exact HI0.out)); (case side2 => repeat (first | (with_reducible first | exact HB.out | apply below_alloc | apply pw_below_drewN | apply below_drew1 | refine below_set ?_ (IsS73.ge HI0.out) | refine below_set ?_ GE321.out) | exact HB.out)); rintro e w18 ⟨rfl, hi, hb, hk⟩; refine ⟨_, rfl, ?_⟩; have n0_ := A_ (Kd.S_mono (Kd.S_keep (IsS73.apartS (show IsS73 w0 _ g s0_0 x1001_4 x1002_4 from by repeat (first | (with_reducible first | exact HI0.out | apply IsS73.alloc | apply IsS73.drewN | apply IsS73.drew | apply IsS73.set_1 | apply IsS73.set_2 | refine IsS73.far ?_ NB0_321.out _) | exact HI0.out)) (sq HO_5) (by decide)) hk (fun _ h => h.2)) (fun _ h => h.1)); have n1_ := A_ (KeepBut.blk hk (g' := gb321) (o := .cells #[.int .i64 a1_0, .bool a1_1] 25 (0, 0)) (bq BK321) NB321_0.out (by simp)); have n2_ := A_ (KeepBut.trans (by repeat (first | (with_reducible first | exact HK.out | apply KeepBut.set_ | apply keep_drewN | apply keep_drew | apply keep_alloc | refine keep_far ?_ GW321.out _) | exact HK.out)) hk (.inl rfl)); have n3_ := A_ (hb); have n4_ := A_ (hi); clear HO_5; clear BK321; clear HK; clear HB; clear HI0; have HO_5 := n0_; have BK321 := n1_; have HK := n2_; have HB := n3_; have HI0 := n4_; clear n0_ n1_ n2_ n3_ n4_; (try clear hb); (try clear hb2); (try clear hk); (try clear hi); have hnb19 := NB321_0.out; have hnc19 := NB0_321.out; have hcz20_0 : w18.cell? ⟨gb321, 0, none⟩ = some (.int .i64 a1_0) := bc BK321 0; have hcz20_1 : w18.cell? ⟨gb321, 1, none⟩ = some (.bool a1_1) := bc BK321 1; have hfz20_0 := blk_frozen BK321.out 0; have hfz20_1 := blk_frozen BK321.out 1) | ((with_reducible refine gate_callee (f := 67) rfl ?_); refine goesL_ (some 27) rfl rfl Try.func67 (by kernel_rfl) rfl #[.pointer (some ⟨g, 0, none⟩), .agg #[.int .i64 a1_0, .bool a1_1]] rfl gq ?_; (with_reducible refine (spec_l1Cur_walk.calls kj4 g s0_0 t333 t334 a1_0 a1_1 t335 t338 t339 w0 _ ?side1 ?side2 A16.out).mono ?_); (case side1 => repeat (first | (with_reducible first | exact HI0.out | apply IsS73.alloc | apply IsS73.drewN | apply IsS73.drew | apply IsS73.set_1 | apply IsS73.set_2 | refine IsS73.far ?_ NB0_321.out _) | exact HI0.out)); (case side2 => repeat (first | (with_reducible first | exact HB.out | apply below_alloc | apply pw_below_drewN | apply below_drew1 | refine below_set ?_ (IsS73.ge HI0.out) | refine below_set ?_ GE321.out) | exact HB.out)); rintro e w21 ⟨v336, rfl, ho0, hi, hb, hk⟩; refine ⟨_, rfl, ?_⟩; have n0_ := A_ (Kd.S_mono (Kd.S_told (Kd.S_oldK (IsS73.apartS (show IsS73 w0 _ g s0_0 t333 t334 from by repeat (first | (with_reducible first | exact HI0.out | apply IsS73.alloc | apply IsS73.drewN | apply IsS73.drew | apply IsS73.set_1 | apply IsS73.set_2 | refine IsS73.far ?_ NB0_321.out _) | exact HI0.out)) (sq HO_5) (by decide)) hk) (Kd.R_base ho0)) (fun _ h_ => h_.1)); have n1_ := A_ (KeepBut.blk hk (g' := gb321) (o := .cells #[.int .i64 a1_0, .bool a1_1] 25 (0, 0)) (bq BK321) NB321_0.out (by simp)); have n2_ := A_ (Kd.R_lower ho0 (keep_size (w := w) (g := g) (row := none) (by repeat (first | (with_reducible first | exact HK.out | apply KeepBut.set_ | apply keep_drewN | apply keep_drew | apply keep_alloc | refine keep_far ?_ GW321.out _) | exact HK.out)))); have n3_ := A_ (KeepBut.trans (by repeat (first | (with_reducible first | exact HK.out | apply KeepBut.set_ | apply keep_drewN | apply keep_drew | apply keep_alloc | refine keep_far ?_ GW321.out _) | exact HK.out)) hk (.inl rfl)); have n4_ := A_ (hb); have n5_ := A_ (hi); clear HO_5; clear BK321; clear HK; clear HB; clear HI0; have HO_5 := n0_; have BK321 := n1_; have HO337 := n2_; have HK := n3_; have HB := n4_; have HI0 := n5_; clear n0_ n1_ n2_ n3_ n4_ n5_; (try clear hb); (try clear hb2); (try clear hk); (try clear hi); (try clear ho0); obtain ⟨Ao23, co23, eo23⟩ := Kd.R_slice HO337.out; subst eo23) | ((with_reducible refine gate_builtin (b := .append) (xs := #[.tmp 24, .tmp 28]) rfl ?_); at_builtin; refine Kd.S_append (Kd.slice 3 (Kd.int .i64)) w.heap.size rfl (.tmp 24) (.tmp 28) 40 26 (.slice none 0 0) 24 rfl Try.underlying40 info26 rfl (by decide) (by omega) v326 t325 t335 [.slice Ao23 t335.length co23] (fun _ => True) (fun k_ => some k_ = (.slice Ao23 t335.length co23 : Value).ownBlock) rfl rfl ?aP (fun k_ hk_ => ((Kd.R_mono (ok' := fun k_ => ((fun _ => True)) k_ ∧ some k_ ≠ (v326 : Value).ownBlock) (Kd.R_apart' (HO337.out) (Kd.S_typed HO_5.out) (by decide)) (fun k_ hk => ⟨trivial, hk.2⟩))).1 k_ hk_.symm) ?aF ?aO (Below.refl _ _) ?aS ?aL ?_; (case aP => exact Kd.M_row (Kd.R_mono (Kd.R_tight rfl (Kd.R_mono (ok' := fun k_ => ((fun _ => True)) k_ ∧ some k_ ≠ (v326 : Value).ownBlock) (Kd.R_apart' (HO337.out) (Kd.S_typed HO_5.out) (by decide)) (fun k_ hk => ⟨trivial, hk.2⟩))) (fun _ h_ => h_))); (case aF => exact (fun _ _ => trivial)); (case aO => exact (by (with_reducible repeat (first | apply Kd.S_alloc | apply Kd.S_drewN | apply Kd.S_drew)); exact Kd.S_mono HO_5.out (fun k_ hk => ⟨trivial, fun e_ => hk.2 e_⟩))); (case aS => exact (keep_size (w := w) (g := g) (row := none) (by repeat (first | (with_reducible first | exact HK.out | apply KeepBut.set_ | apply keep_drewN | apply keep_drew | apply keep_alloc | refine keep_far ?_ GW321.out _) | exact HK.out)))); (case aL => have := LMc17.out; omega); intro v341 w22 ho hb hg hat; rw [← Ny340.out] at ho; have n0_ := A_ (blk_grown (g := gb321) (o := .cells #[.int .i64 a1_0, .bool a1_1] 25 (0, 0)) (bq BK321) hg (Kd.S_ne HO_5.out BK321.out (by decide))); have n1_ := A_ (IsS73.grown (by repeat (first | (with_reducible first | exact HI0.out | apply IsS73.alloc | apply IsS73.drewN | apply IsS73.drew | apply IsS73.set_1 | apply IsS73.set_2 | refine IsS73.far ?_ NB0_321.out _) | exact HI0.out)) hg (IsS73.own_neS HI0.out HO_5.out (by decide))); have n2_ := A_ (below_weaken (by repeat (first | (with_reducible first | exact HB.out | apply below_alloc | apply pw_below_drewN | apply below_drew1 | refine below_set ?_ (IsS73.ge HI0.out) | refine below_set ?_ GE321.out) | exact HB.out)) HL.out hb); have n3_ := A_ (KeepBut.trans (by repeat (first | (with_reducible first | exact HK.out | apply KeepBut.set_ | apply keep_drewN | apply keep_drew | apply keep_alloc | refine keep_far ?_ GW321.out _) | exact HK.out)) (KeepBut.of_grown hg g) (Kd.S_base2 HO_5.out)); have n4_ := A_ (ho); clear BK321; clear HI0; clear HB; clear HK; clear HO_5; clear HO337; have BK321 := n0_; have HI0 := n1_; have HB := n2_; have HK := n3_; have HO342 := n4_; clear n0_ n1_ n2_ n3_ n4_; clear ho hb hg hat))
      go_ret
      exact ⟨_, rt, sq HO342, by repeat (first | (with_reducible first | exact HI0.out | apply IsS73.alloc | apply IsS73.drewN | apply IsS73.drew | apply IsS73.set_1 | apply IsS73.set_2 | refine IsS73.far ?_ NB0_321.out _) | exact HI0.out), by repeat (first | (with_reducible first | exact HB.out | apply below_alloc | apply pw_below_drewN | apply below_drew1 | refine below_set ?_ (IsS73.ge HI0.out) | refine below_set ?_ GE321.out) | exact HB.out), by repeat (first | (with_reducible first | exact HK.out | apply KeepBut.set_ | apply keep_drewN | apply keep_drew | apply keep_alloc | refine keep_far ?_ GW321.out _) | exact HK.out)⟩
     ·
      rw [if_neg c17] at H
      exact absurd H (by simp)
    ·
     replace c15 := Bool.eq_false_iff.mpr c15
     subst c15
     have H1 : (some (t325, t333, t334)) = some (r1, r2, r3) := by rw [if_neg (show ¬ (false = true) by decide)] at H; exact H
     clear H
     have H := H1
     clear H1
     simp only [Option.some.injEq, Prod.mk.injEq] at H
     obtain ⟨rfl, rfl, rfl⟩ := H
     go_wp2_with (first | ((with_reducible refine gate_callee (f := 66) rfl ?_); refine goesL_ (some 23) rfl rfl Try.func66 (by kernel_rfl) rfl #[.pointer (some ⟨g, 0, none⟩), .int .i64 3] rfl gq ?_; (with_reducible refine (spec_l1Cur_one.calls g s0_0 x1001_4 x1002_4 3 false t333 t334 w0 _ ?side1 ?side2 A14.out).mono ?_); (case side1 => repeat (first | (with_reducible first | exact HI0.out | apply IsS73.alloc | apply IsS73.drewN | apply IsS73.drew | apply IsS73.set_1 | apply IsS73.set_2 | refine IsS73.far ?_ NB0_321.out _) | exact HI0.out)); (case side2 => repeat (first | (with_reducible first | exact HB.out | apply below_alloc | apply pw_below_drewN | apply below_drew1 | refine below_set ?_ (IsS73.ge HI0.out) | refine below_set ?_ GE321.out) | exact HB.out)); rintro e w24 ⟨rfl, hi, hb, hk⟩; refine ⟨_, rfl, ?_⟩; have n0_ := A_ (Kd.S_mono (Kd.S_keep (IsS73.apartS (show IsS73 w0 _ g s0_0 x1001_4 x1002_4 from by repeat (first | (with_reducible first | exact HI0.out | apply IsS73.alloc | apply IsS73.drewN | apply IsS73.drew | apply IsS73.set_1 | apply IsS73.set_2 | refine IsS73.far ?_ NB0_321.out _) | exact HI0.out)) (sq HO_5) (by decide)) hk (fun _ h => h.2)) (fun _ h => h.1)); have n1_ := A_ (KeepBut.blk hk (g' := gb321) (o := .cells #[.int .i64 a1_0, .bool a1_1] 25 (0, 0)) (bq BK321) NB321_0.out (by simp)); have n2_ := A_ (KeepBut.trans (by repeat (first | (with_reducible first | exact HK.out | apply KeepBut.set_ | apply keep_drewN | apply keep_drew | apply keep_alloc | refine keep_far ?_ GW321.out _) | exact HK.out)) hk (.inl rfl)); have n3_ := A_ (hb); have n4_ := A_ (hi); clear HO_5; clear BK321; clear HK; clear HB; clear HI0; have HO_5 := n0_; have BK321 := n1_; have HK := n2_; have HB := n3_; have HI0 := n4_; clear n0_ n1_ n2_ n3_ n4_; (try clear hb); (try clear hb2); (try clear hk); (try clear hi)))
     go_ret
     exact ⟨_, rt, sq HO_5, by repeat (first | (with_reducible first | exact HI0.out | apply IsS73.alloc | apply IsS73.drewN | apply IsS73.drew | apply IsS73.set_1 | apply IsS73.set_2 | refine IsS73.far ?_ NB0_321.out _) | exact HI0.out), by repeat (first | (with_reducible first | exact HB.out | apply below_alloc | apply pw_below_drewN | apply below_drew1 | refine below_set ?_ (IsS73.ge HI0.out) | refine below_set ?_ GE321.out) | exact HB.out), by repeat (first | (with_reducible first | exact HK.out | apply KeepBut.set_ | apply keep_drewN | apply keep_drew | apply keep_alloc | refine keep_far ?_ GW321.out _) | exact HK.out)⟩
   ·
    replace c13 := Bool.eq_false_iff.mpr c13
    subst c13
    have H1 : ((spec_l1Cur_among.f s0_0 x1001_4 x1002_4 (([2, 1, 3, 4, 0, 5] : List Int))).bind fun bt349 => (spec_l1Cur_leavers.l0 kj4 (([] : List (List Int))) bt349.1 s0_0 bt349.2.1 bt349.2.2 a1_0 a1_1)) = some (r1, r2, r3) := by rw [if_neg (show ¬ (false = true) by decide)] at H; exact H
    clear H
    have H := H1
    clear H1
    obtain ⟨y343, hy343⟩ : ∃ y_ : List (List Int), y_ = (([] : List (List Int))) := ⟨_, rfl⟩
    replace H : ((spec_l1Cur_among.f s0_0 x1001_4 x1002_4 (([2, 1, 3, 4, 0, 5] : List Int))).bind fun bt349 => (spec_l1Cur_leavers.l0 kj4 y343 bt349.1 s0_0 bt349.2.1 bt349.2.2 a1_0 a1_1)) = some (r1, r2, r3) := by first | (rw [hy343]; with_reducible exact H) | (have H2_ := (Option.bind_some _ _).symm.trans H; rw [hy343]; with_reducible exact H2_) | (have H2_ := (Option.bind_some _ _).symm.trans H; with_reducible exact H2_) | with_reducible exact H | (rw [hy343]; exact H) | exact H
    have Ny343 := A_ hy343
    clear hy343
    obtain ⟨y346, hy346⟩ : ∃ y_ : List Int, y_ = (([2, 1, 3, 4, 0, 5] : List Int)) := ⟨_, rfl⟩
    replace H : ((spec_l1Cur_among.f s0_0 x1001_4 x1002_4 y346).bind fun bt349 => (spec_l1Cur_leavers.l0 kj4 y343 bt349.1 s0_0 bt349.2.1 bt349.2.2 a1_0 a1_1)) = some (r1, r2, r3) := by first | (rw [hy346]; with_reducible exact H) | (have H2_ := (Option.bind_some _ _).symm.trans H; rw [hy346]; with_reducible exact H2_) | (have H2_ := (Option.bind_some _ _).symm.trans H; with_reducible exact H2_) | with_reducible exact H | (rw [hy346]; exact H) | exact H
    have Ny346 := A_ hy346
    clear hy346
    replace H := Option.bind_eq_some_iff.mp H
    obtain ⟨⟨t349, t350, t351⟩, A250, H⟩ := H
    replace H : (spec_l1Cur_leavers.l0 kj4 y343 t349 s0_0 t350 t351 a1_0 a1_1) = some (r1, r2, r3) := H
    have A25 := A_ A250
    clear A250
    have H' := A_ H
    clear H
    go_wp2_with (first | ((with_reducible refine gate_dst (N := 31) rfl ?_); refine Kd.S_lit (Kd.slice 3 (Kd.int .i64)) _ 26 ?hg (N := 31) ?hd (xs := ([] : List (List Int))) (inner := []) (ok := fun _ => True) (okp := fun _ => True) ?hr ?hp (fun _ hk => hk) trivial (Below.refl _ _) (Nat.le_refl _) (by simp) ?_; (case hd => rfl); (case hg => rfl); (case hr => first | (go_simp; done) | (go_simp; rfl)); (case hp => exact (Reps.none _ _)); intro v344 w26 ho27 hb hg_ hnew_; clear hg_ hnew_; (first | rw [← Ny343.out] at ho27 | (simp only [Int.reduceToNat] at ho27; rw [← Ny343.out] at ho27)); have n0_ := A_ (Kd.S_elder' (sq HO_5) (Kd.S_base ho27) hb); have n1_ := A_ (Kd.S_lower (Kd.S_new' ho27 (Kd.S_lt (sq HO_5))) (keep_size (w := w) (g := g) (row := none) (by repeat (first | (with_reducible first | exact HK.out | apply KeepBut.set_ | apply keep_drewN | apply keep_drew | apply keep_alloc | refine keep_far ?_ GW321.out _) | exact HK.out)))); have n2_ := A_ (blk_below (bq BK321) hb); have n3_ := A_ (IsS73.below (by repeat (first | (with_reducible first | exact HI0.out | apply IsS73.alloc | apply IsS73.drewN | apply IsS73.drew | apply IsS73.set_1 | apply IsS73.set_2 | refine IsS73.far ?_ NB0_321.out _) | exact HI0.out)) hb); have n4_ := A_ (KeepBut.trans (by repeat (first | (with_reducible first | exact HK.out | apply KeepBut.set_ | apply keep_drewN | apply keep_drew | apply keep_alloc | refine keep_far ?_ GW321.out _) | exact HK.out)) (KeepBut.of_below hb g none) (.inl rfl)); have n5_ := A_ (below_step (by repeat (first | (with_reducible first | exact HB.out | apply below_alloc | apply pw_below_drewN | apply below_drew1 | refine below_set ?_ (IsS73.ge HI0.out) | refine below_set ?_ GE321.out) | exact HB.out)) hb); clear HO_5; clear BK321; clear HI0; clear HK; clear HB; have HO_5 := n0_; have HO345 := n1_; have BK321 := n2_; have HI0 := n3_; have HK := n4_; have HB := n5_; clear n0_ n1_ n2_ n3_ n4_ n5_; clear hb ho27) | ((with_reducible refine gate_dst (N := 33) rfl ?_); refine Kd.R_lit (Kd.int .i64) _ 3 ?hg (N := 33) ?hd (xs := ([2, 1, 3, 4, 0, 5] : List Int)) (inner := [.int .i64 2, .int .i64 1, .int .i64 3, .int .i64 4, .int .i64 0, .int .i64 5]) (ok := fun _ => True) (okp := fun _ => True) ?hr ?hp (fun _ hk => hk) trivial (Below.refl _ _) (Nat.le_refl _) (by simp) ?_; (case hd => rfl); (case hg => rfl); (case hr => first | (go_simp; done) | (go_simp; rfl)); (case hp => exact (Reps.one (show Kd.M (Kd.int .i64) _ _ _ 2 [.int .i64 2] from rfl) (Reps.one (show Kd.M (Kd.int .i64) _ _ _ 1 [.int .i64 1] from rfl) (Reps.one (show Kd.M (Kd.int .i64) _ _ _ 3 [.int .i64 3] from rfl) (Reps.one (show Kd.M (Kd.int .i64) _ _ _ 4 [.int .i64 4] from rfl) (Reps.one (show Kd.M (Kd.int .i64) _ _ _ 0 [.int .i64 0] from rfl) (Reps.one (show Kd.M (Kd.int .i64) _ _ _ 5 [.int .i64 5] from rfl) (Reps.none _ _)))))))); intro v347 w28 ho29 hb hg_ hnew_; clear hg_ hnew_; (first | rw [← Ny346.out] at ho29 | (simp only [Int.reduceToNat] at ho29; rw [← Ny346.out] at ho29)); have n0_ := A_ (Kd.S_elder' (sq HO_5) (Kd.R_base ho29) hb); have n1_ := A_ (Kd.S_elder' (sq HO345) (Kd.R_base ho29) hb); have n2_ := A_ (Kd.R_lower ho29 (keep_size (w := w) (g := g) (row := none) (by repeat (first | (with_reducible first | exact HK.out | apply KeepBut.set_ | apply keep_drewN | apply keep_drew | apply keep_alloc | refine keep_far ?_ GW321.out _) | exact HK.out)))); have n3_ := A_ (blk_below (bq BK321) hb); have n4_ := A_ (IsS73.below (by repeat (first | (with_reducible first | exact HI0.out | apply IsS73.alloc | apply IsS73.drewN | apply IsS73.drew | apply IsS73.set_1 | apply IsS73.set_2 | refine IsS73.far ?_ NB0_321.out _) | exact HI0.out)) hb); have n5_ := A_ (KeepBut.trans (by repeat (first | (with_reducible first | exact HK.out | apply KeepBut.set_ | apply keep_drewN | apply keep_drew | apply keep_alloc | refine keep_far ?_ GW321.out _) | exact HK.out)) (KeepBut.of_below hb g none) (.inl rfl)); have n6_ := A_ (below_step (by repeat (first | (with_reducible first | exact HB.out | apply below_alloc | apply pw_below_drewN | apply below_drew1 | refine below_set ?_ (IsS73.ge HI0.out) | refine below_set ?_ GE321.out) | exact HB.out)) hb); clear HO_5; clear HO345; clear BK321; clear HI0; clear HK; clear HB; have HO_5 := n0_; have HO345 := n1_; have HO348 := n2_; have BK321 := n3_; have HI0 := n4_; have HK := n5_; have HB := n6_; clear n0_ n1_ n2_ n3_ n4_ n5_ n6_; clear hb ho29; obtain ⟨Ao30, co30, eo30⟩ := Kd.R_slice HO348.out; subst eo30) | ((with_reducible refine gate_callee (f := 76) rfl ?_); refine goesL_ (some 34) rfl rfl Try.func76 (by kernel_rfl) rfl #[.pointer (some ⟨g, 0, none⟩), .slice Ao30 y346.length co30] rfl gq ?_; (with_reducible refine (spec_l1Cur_among.calls g s0_0 x1001_4 x1002_4 _ _ y346 t349 t350 t351 w0 _ ?side1 ?side2 ?side3 ?side4 ?side5 A25.out).mono ?_); (case side1 => repeat (first | (with_reducible first | exact HI0.out | apply IsS73.alloc | apply IsS73.drewN | apply IsS73.drew | apply IsS73.set_1 | apply IsS73.set_2 | refine IsS73.far ?_ NB0_321.out _) | exact HI0.out)); (case side2 => repeat (first | (with_reducible first | exact HB.out | apply below_alloc | apply pw_below_drewN | apply below_drew1 | refine below_set ?_ (IsS73.ge HI0.out) | refine below_set ?_ GE321.out) | exact HB.out)); (case side3 => exact cq (Kd.R_reads' HO348.out).2.2); (case side4 => exact (Kd.R_reads' HO348.out).2.1); (case side5 => exact far_slice (IsS73.own_ne HI0.out HO348.out (by decide))); rintro e w31 ⟨rfl, hi, hb, hk⟩; refine ⟨_, rfl, ?_⟩; have n0_ := A_ (Kd.S_mono (Kd.S_keep (IsS73.apartS (show IsS73 w0 _ g s0_0 x1001_4 x1002_4 from by repeat (first | (with_reducible first | exact HI0.out | apply IsS73.alloc | apply IsS73.drewN | apply IsS73.drew | apply IsS73.set_1 | apply IsS73.set_2 | refine IsS73.far ?_ NB0_321.out _) | exact HI0.out)) (sq HO_5) (by decide)) hk (fun _ h => h.2)) (fun _ h => h.1)); have n1_ := A_ (KeepBut.blk hk (g' := gb321) (o := .cells #[.int .i64 a1_0, .bool a1_1] 25 (0, 0)) (bq BK321) NB321_0.out (by simp)); have n2_ := A_ (Kd.S_mono (Kd.S_keep (IsS73.apartS (show IsS73 w0 _ g s0_0 x1001_4 x1002_4 from by repeat (first | (with_reducible first | exact HI0.out | apply IsS73.alloc | apply IsS73.drewN | apply IsS73.drew | apply IsS73.set_1 | apply IsS73.set_2 | refine IsS73.far ?_ NB0_321.out _) | exact HI0.out)) (sq HO345) (by decide)) hk (fun _ h => h.2)) (fun _ h => h.1)); have n3_ := A_ (Kd.R_mono (Kd.R_keep (IsS73.apart (show IsS73 w0 _ g s0_0 x1001_4 x1002_4 from by repeat (first | (with_reducible first | exact HI0.out | apply IsS73.alloc | apply IsS73.drewN | apply IsS73.drew | apply IsS73.set_1 | apply IsS73.set_2 | refine IsS73.far ?_ NB0_321.out _) | exact HI0.out)) (rq HO348) (by decide)) hk (fun _ h => h.2)) (fun _ h => h.1)); have n4_ := A_ (KeepBut.trans (by repeat (first | (with_reducible first | exact HK.out | apply KeepBut.set_ | apply keep_drewN | apply keep_drew | apply keep_alloc | refine keep_far ?_ GW321.out _) | exact HK.out)) hk (.inl rfl)); have n5_ := A_ (hb); have n6_ := A_ (hi); clear HO_5; clear BK321; clear HO345; clear HO348; clear HK; clear HB; clear HI0; have HO_5 := n0_; have BK321 := n1_; have HO345 := n2_; have HO348 := n3_; have HK := n4_; have HB := n5_; have HI0 := n6_; clear n0_ n1_ n2_ n3_ n4_ n5_ n6_; (try clear hb); (try clear hb2); (try clear hk); (try clear hi)))
    go_loopg [7, 8] kj4 (fun kq v7 v8 w' => ∃ (x7_2 : List (List Int)) (x8_2 : Int) (x1001_2 : Int) (x1002_2 : Int), v8 = .int .i64 x8_2 ∧ Aside0 (spec_l1Cur_leavers.l0 kq x7_2 x8_2 s0_0 x1001_2 x1002_2 a1_0 a1_1 = some (r1, r2, r3)) ∧ Aside0 (kq ≤ kj4) ∧ Aside0 (Kd.S (Kd.slice 3 (Kd.int .i64)) 26 w' w.heap.size (fun _ => True) v7 x7_2) ∧ Aside0 (w'.heap[gb321]? = some (.cells #[.int .i64 a1_0, .bool a1_1] 25 (0, 0))) ∧ Aside0 (IsS73 w0 w' g s0_0 x1001_2 x1002_2) ∧ Aside0 (KeepBut w w' g none) ∧ Aside0 (Below w0.heap.size w0 w'))
    case atStart => exact ⟨(y343), (t349), (t350), (t351), (by first | rfl | (simp; done) | (simp [*]; done)), H', ⟨Nat.le_refl _⟩, ⟨by (with_reducible repeat (first | apply Kd.S_alloc | apply Kd.S_drewN | apply Kd.S_drew)); exact Kd.S_mono HO345.out (fun _ hk => trivial)⟩, ⟨bq BK321⟩, ⟨by repeat (first | (with_reducible first | exact HI0.out | apply IsS73.alloc | apply IsS73.drewN | apply IsS73.drew | apply IsS73.set_1 | apply IsS73.set_2 | refine IsS73.far ?_ NB0_321.out _) | exact HI0.out)⟩, ⟨by repeat (first | (with_reducible first | exact HK.out | apply KeepBut.set_ | apply keep_drewN | apply keep_drew | apply keep_alloc | refine keep_far ?_ GW321.out _) | exact HK.out)⟩, ⟨by repeat (first | (with_reducible first | exact HB.out | apply below_alloc | apply pw_below_drewN | apply below_drew1 | refine below_set ?_ (IsS73.ge HI0.out) | refine below_set ?_ GE321.out) | exact HB.out)⟩⟩
    case round =>
     clear H'
     try clear c1
     try clear p2
     try clear c3
     try clear c6
     try clear c7
     try clear c8
     try clear c10
     try clear c13
     try clear c15
     try clear c17
     try clear c19
     try clear hcz20_0
     try clear hcz20_1
     try clear hfz20_0
     try clear hfz20_1
     try clear p2
     obtain ⟨x7_2, x8_2, x1001_2, x1002_2, rfl, HA, HK2, HO_7, BK321, HI0, HK, HB⟩ := hrel
     cases gk with
     | zero => exact absurd HA.out (by simp [spec_l1Cur_leavers.l0])
     | succ k2 =>
      have H := HA.out
      clear HA
      simp only [spec_l1Cur_leavers.l0] at H
      by_cases c32 : x8_2 > 0
      ·
       rw [if_pos c32] at H
       have c32b0 : decide (0 < x8_2) = true := decide_eq_true c32
       clear c32
       replace H := Option.bind_eq_some_iff.mp H
       obtain ⟨⟨t352, t355, t356⟩, A330, H⟩ := H
       replace H : (if x7_2.length < 5864062014805 then (spec_l1Cur_leavers.l0 k2 (x7_2 ++ [t352]) (wrap64 (x8_2 - 1)) s0_0 t355 t356 a1_0 a1_1) else (none)) = some (r1, r2, r3) := H
       have A33 := A_ A330
       clear A330
       by_cases c34 : x7_2.length < 5864062014805
       ·
        rw [if_pos c34] at H
        have LMc34 := A_ c34
        clear c34
        obtain ⟨y357, hy357⟩ : ∃ y_ : List (List Int), y_ = (x7_2 ++ [t352]) := ⟨_, rfl⟩
        replace H : (spec_l1Cur_leavers.l0 k2 y357 (wrap64 (x8_2 - 1)) s0_0 t355 t356 a1_0 a1_1) = some (r1, r2, r3) := by first | (rw [hy357]; with_reducible exact H) | (have H2_ := (Option.bind_some _ _).symm.trans H; rw [hy357]; with_reducible exact H2_) | (have H2_ := (Option.bind_some _ _).symm.trans H; with_reducible exact H2_) | with_reducible exact H | (rw [hy357]; exact H) | exact H
        have Ny357 := A_ hy357
        clear hy357
        have H' := A_ H
        clear H
        have hnb35 := NB321_0.out
        have hnc35 := NB0_321.out
        have hcz36_0 : wr.cell? ⟨gb321, 0, none⟩ = some (.int .i64 a1_0) := bc BK321 0
        have hcz36_1 : wr.cell? ⟨gb321, 1, none⟩ = some (.bool a1_1) := bc BK321 1
        have hfz36_0 := blk_frozen BK321.out 0
        have hfz36_1 := blk_frozen BK321.out 1
        go_wp2_with (first | ((with_reducible refine gate_callee (f := 67) rfl ?_); refine goesL_ (some 42) rfl rfl Try.func67 (by kernel_rfl) rfl #[.pointer (some ⟨g, 0, none⟩), .agg #[.int .i64 a1_0, .bool a1_1]] rfl gq ?_; (with_reducible refine (spec_l1Cur_walk.calls k2 g s0_0 x1001_2 x1002_2 a1_0 a1_1 t352 t355 t356 w0 _ ?side1 ?side2 A33.out).mono ?_); (case side1 => repeat (first | (with_reducible first | exact HI0.out | apply IsS73.alloc | apply IsS73.drewN | apply IsS73.drew | apply IsS73.set_1 | apply IsS73.set_2 | refine IsS73.far ?_ NB0_321.out _) | exact HI0.out)); (case side2 => repeat (first | (with_reducible first | exact HB.out | apply below_alloc | apply pw_below_drewN | apply below_drew1 | refine below_set ?_ (IsS73.ge HI0.out) | refine below_set ?_ GE321.out) | exact HB.out)); rintro e w37 ⟨v353, rfl, ho0, hi, hb, hk⟩; refine ⟨_, rfl, ?_⟩; have n0_ := A_ (Kd.S_mono (Kd.S_told (Kd.S_oldK (IsS73.apartS (show IsS73 w0 _ g s0_0 x1001_2 x1002_2 from by repeat (first | (with_reducible first | exact HI0.out | apply IsS73.alloc | apply IsS73.drewN | apply IsS73.drew | apply IsS73.set_1 | apply IsS73.set_2 | refine IsS73.far ?_ NB0_321.out _) | exact HI0.out)) (sq HO_7) (by decide)) hk) (Kd.R_base ho0)) (fun _ h_ => h_.1)); have n1_ := A_ (KeepBut.blk hk (g' := gb321) (o := .cells #[.int .i64 a1_0, .bool a1_1] 25 (0, 0)) (bq BK321) NB321_0.out (by simp)); have n2_ := A_ (Kd.R_lower ho0 (keep_size (w := w) (g := g) (row := none) (by repeat (first | (with_reducible first | exact HK.out | apply KeepBut.set_ | apply keep_drewN | apply keep_drew | apply keep_alloc | refine keep_far ?_ GW321.out _) | exact HK.out)))); have n3_ := A_ (KeepBut.trans (by repeat (first | (with_reducible first | exact HK.out | apply KeepBut.set_ | apply keep_drewN | apply keep_drew | apply keep_alloc | refine keep_far ?_ GW321.out _) | exact HK.out)) hk (.inl rfl)); have n4_ := A_ (hb); have n5_ := A_ (hi); clear HO_7; clear BK321; clear HK; clear HB; clear HI0; have HO_7 := n0_; have BK321 := n1_; have HO354 := n2_; have HK := n3_; have HB := n4_; have HI0 := n5_; clear n0_ n1_ n2_ n3_ n4_ n5_; (try clear hb); (try clear hb2); (try clear hk); (try clear hi); (try clear ho0); obtain ⟨Ao39, co39, eo39⟩ := Kd.R_slice HO354.out; subst eo39) | ((with_reducible refine gate_builtin (b := .append) (xs := #[.tmp 39, .tmp 43]) rfl ?_); at_builtin; refine Kd.S_append (Kd.slice 3 (Kd.int .i64)) w.heap.size rfl (.tmp 39) (.tmp 43) 40 26 (.slice none 0 0) 24 rfl Try.underlying40 info26 rfl (by decide) (by omega) u7 x7_2 t352 [.slice Ao39 t352.length co39] (fun _ => True) (fun k_ => some k_ = (.slice Ao39 t352.length co39 : Value).ownBlock) rfl rfl ?aP (fun k_ hk_ => ((Kd.R_mono (ok' := fun k_ => ((fun _ => True)) k_ ∧ some k_ ≠ (u7 : Value).ownBlock) (Kd.R_apart' (HO354.out) (Kd.S_typed HO_7.out) (by decide)) (fun k_ hk => ⟨trivial, hk.2⟩))).1 k_ hk_.symm) ?aF ?aO (Below.refl _ _) ?aS ?aL ?_; (case aP => exact Kd.M_row (Kd.R_mono (Kd.R_tight rfl (Kd.R_mono (ok' := fun k_ => ((fun _ => True)) k_ ∧ some k_ ≠ (u7 : Value).ownBlock) (Kd.R_apart' (HO354.out) (Kd.S_typed HO_7.out) (by decide)) (fun k_ hk => ⟨trivial, hk.2⟩))) (fun _ h_ => h_))); (case aF => exact (fun _ _ => trivial)); (case aO => exact (by (with_reducible repeat (first | apply Kd.S_alloc | apply Kd.S_drewN | apply Kd.S_drew)); exact Kd.S_mono HO_7.out (fun k_ hk => ⟨trivial, fun e_ => hk.2 e_⟩))); (case aS => exact (keep_size (w := w) (g := g) (row := none) (by repeat (first | (with_reducible first | exact HK.out | apply KeepBut.set_ | apply keep_drewN | apply keep_drew | apply keep_alloc | refine keep_far ?_ GW321.out _) | exact HK.out)))); (case aL => have := LMc34.out; omega); intro v358 w38 ho hb hg hat; rw [← Ny357.out] at ho; have n0_ := A_ (blk_grown (g := gb321) (o := .cells #[.int .i64 a1_0, .bool a1_1] 25 (0, 0)) (bq BK321) hg (Kd.S_ne HO_7.out BK321.out (by decide))); have n1_ := A_ (IsS73.grown (by repeat (first | (with_reducible first | exact HI0.out | apply IsS73.alloc | apply IsS73.drewN | apply IsS73.drew | apply IsS73.set_1 | apply IsS73.set_2 | refine IsS73.far ?_ NB0_321.out _) | exact HI0.out)) hg (IsS73.own_neS HI0.out HO_7.out (by decide))); have n2_ := A_ (below_weaken (by repeat (first | (with_reducible first | exact HB.out | apply below_alloc | apply pw_below_drewN | apply below_drew1 | refine below_set ?_ (IsS73.ge HI0.out) | refine below_set ?_ GE321.out) | exact HB.out)) HL.out hb); have n3_ := A_ (KeepBut.trans (by repeat (first | (with_reducible first | exact HK.out | apply KeepBut.set_ | apply keep_drewN | apply keep_drew | apply keep_alloc | refine keep_far ?_ GW321.out _) | exact HK.out)) (KeepBut.of_grown hg g) (Kd.S_base2 HO_7.out)); have n4_ := A_ (ho); clear BK321; clear HI0; clear HB; clear HK; clear HO_7; clear HO354; have BK321 := n0_; have HI0 := n1_; have HB := n2_; have HK := n3_; have HO359 := n4_; clear n0_ n1_ n2_ n3_ n4_; clear ho hb hg hat))
        go_roundg k2
        case measure => have := HJ4.out; have := HK2.out; omega
        case rel => exact ⟨(y357), (wrap64 (x8_2 - 1)), (t355), (t356), (by first | rfl | (simp; done) | (simp [*]; done)), H', ⟨by have := HJ4.out; have := HK2.out; omega⟩, ⟨sq HO359⟩, ⟨bq BK321⟩, ⟨by repeat (first | (with_reducible first | exact HI0.out | apply IsS73.alloc | apply IsS73.drewN | apply IsS73.drew | apply IsS73.set_1 | apply IsS73.set_2 | refine IsS73.far ?_ NB0_321.out _) | exact HI0.out)⟩, ⟨by repeat (first | (with_reducible first | exact HK.out | apply KeepBut.set_ | apply keep_drewN | apply keep_drew | apply keep_alloc | refine keep_far ?_ GW321.out _) | exact HK.out)⟩, ⟨by repeat (first | (with_reducible first | exact HB.out | apply below_alloc | apply pw_below_drewN | apply below_drew1 | refine below_set ?_ (IsS73.ge HI0.out) | refine below_set ?_ GE321.out) | exact HB.out)⟩⟩
       ·
        rw [if_neg c34] at H
        exact absurd H (by simp)
      ·
       rw [if_neg c32] at H
       have c32b0 : decide (0 < x8_2) = false := decide_eq_false c32
       clear c32
       simp only [Option.some.injEq, Prod.mk.injEq] at H
       obtain ⟨rfl, rfl, rfl⟩ := H
       go_wp2
       go_ret
       exact ⟨_, rt, sq HO_7, by repeat (first | (with_reducible first | exact HI0.out | apply IsS73.alloc | apply IsS73.drewN | apply IsS73.drew | apply IsS73.set_1 | apply IsS73.set_2 | refine IsS73.far ?_ NB0_321.out _) | exact HI0.out), by repeat (first | (with_reducible first | exact HB.out | apply below_alloc | apply pw_below_drewN | apply below_drew1 | refine below_set ?_ (IsS73.ge HI0.out) | refine below_set ?_ GE321.out) | exact HB.out), by repeat (first | (with_reducible first | exact HK.out | apply KeepBut.set_ | apply keep_drewN | apply keep_drew | apply keep_alloc | refine keep_far ?_ GW321.out _) | exact HK.out)⟩

end Go.Proofs.Ytmamhnbhahafgaa.PFnLeaving
