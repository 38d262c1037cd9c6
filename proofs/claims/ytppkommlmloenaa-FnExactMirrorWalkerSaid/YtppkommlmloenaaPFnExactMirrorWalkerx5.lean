-- Printed, and told shorter by this session's program shrink.py.
-- Printed by this session's program myprint.py.
import Derived.Test.YtppkommlmloenaaPFnExactMirrorWalkerx0
import Derived.Test.YtppkommlmloenaaPFnExactMirrorWalkerx1
import Derived.Test.YtppkommlmloenaaPFnExactMirrorWalkerx2
import Derived.Test.YtppkommlmloenaaPFnExactMirrorWalkerx3
import Derived.Test.YtppkommlmloenaaPFnExactMirrorWalkerx4
namespace Go.Proofs.Ytppkommlmloenaa.PFnExactMirrorWalker
open Go.RowKit Go.Proofs.Ytppkommlmloenaa.Own Go.Proofs.YtppkommlmloenaaW.PrintWords Go.Proofs.YtppkommlmloenaaW.PrintLast Go.Proofs.YtppkommlmloenaaW.PrintMore
attribute [local go_sem] max2_int min2_int max_two min_two max_three min_three max_four min_four   -- for this text's walks alone
set_option linter.unusedVariables false
set_option linter.unusedSimpArgs false

/-! ### laws_FnExactMirrorWalker: function 4 -/
mutual
def laws_FnExactMirrorWalker.j0 : Nat → Bool → Bool → Bool → Int → Bool → Int → Int → Int → List Int → Int → Int → Int → List Int → Int → Int → Int → List Int → Int → Int → Int → List Int → Option (Bool)
  | 0, _, _, _, _, _, _, _, _, _, _, _, _, _, _, _, _, _, _, _, _, _ => none
  | k + 1, x7, x10, x46, x194000, x194001, x195000, x195001, x195002, x195003, x212000, x212001, x212002, x212003, x219000, x219001, x219002, x219003, x229000, x229001, x229002, x229003 => if x46 = true then (some false) else ((laws_toWalker.f k x195000 x195001 x195002 x195003).bind fun bt230 => ((laws_eqWalker.f k x219000 x219001 x219002 x219003 bt230.1 bt230.2.1 bt230.2.2.1 bt230.2.2.2).bind fun t236 => (if t236 = true then ((laws_markWalker.f k x219000 x219001 x219002 x219003 1).bind fun bt237 => (if bt237.1 < 0 then (laws_FnExactMirrorWalker.j1 k x7 true x194000 x194001 x195000 x195001 x195002 x195003 x212000 x212001 x212002 x212003 x229000 x229001 x229002 x229003) else ((laws_eqWalker.f k x229000 x229001 x229002 x229003 x212000 x212001 x212002 x212003).bind fun t239 => (if t239 = true then (laws_FnExactMirrorWalker.j1 k x7 (x10 != x7) x194000 x194001 x195000 x195001 x195002 x195003 x212000 x212001 x212002 x212003 x229000 x229001 x229002 x229003) else (laws_FnExactMirrorWalker.j1 k x7 true x194000 x194001 x195000 x195001 x195002 x195003 x212000 x212001 x212002 x212003 x229000 x229001 x229002 x229003))))) else (some false))))
def laws_FnExactMirrorWalker.j1 : Nat → Bool → Bool → Int → Bool → Int → Int → Int → List Int → Int → Int → Int → List Int → Int → Int → Int → List Int → Option (Bool)
  | 0, _, _, _, _, _, _, _, _, _, _, _, _, _, _, _, _ => none
  | k + 1, x7, x67, x194000, x194001, x195000, x195001, x195002, x195003, x212000, x212001, x212002, x212003, x229000, x229001, x229002, x229003 => if x67 = true then (some false) else ((laws_markWalker.f k x229000 x229001 x229002 x229003 1).bind fun bt240 => ((laws_heldWalker.f k x229000 x229001 x229002 bt240.2 1).bind fun t242 => (if t242 < 0 then (some false) else (if t242 = bt240.1 then ((laws_toRoad.f x194000 x194001).bind fun bt243 => ((laws_toWalker.f k x195000 x195001 x195002 x195003).bind fun bt245 => ((impl_MirrorWalker.f k bt243.1 bt243.2 bt245.1 bt245.2.1 bt245.2.2.1 bt245.2.2.2).bind fun bt251 => ((laws_eqWalker.f k bt251.1 bt251.2.1 bt251.2.2.1 bt251.2.2.2.1 x212000 x212001 x212002 x212003).bind fun t259 => (if t259 = true then (laws_FnExactMirrorWalker.j2 k bt240.1 (bt251.2.2.2.2 != x7) x229000 x229001 x229002 bt240.2) else (laws_FnExactMirrorWalker.j2 k bt240.1 true x229000 x229001 x229002 bt240.2)))))) else (some false)))))
def laws_FnExactMirrorWalker.j2 : Nat → Int → Bool → Int → Int → Int → List Int → Option (Bool)
  | 0, _, _, _, _, _, _ => none
  | k + 1, x12, x95, x229000, x229001, x229002, x229003 => if x95 = true then (some false) else ((laws_heldWalker.f k x229000 x229001 x229002 x229003 1).bind fun t260 => (if t260 < 0 then (some false) else (if t260 = x12 then (some true) else (some false))))
end
def laws_FnExactMirrorWalker.f (k : Nat) (a0_0 : Int) (a0_1 : Bool) (a1_0 : Int) (a1_1 : Int) (a1_2 : Int) (l1_3 : List Int) : Option (Bool) := (laws_szWalker.f a1_0 a1_1 a1_2 l1_3 1048576).bind fun t195 => (if t195 < 0 then (some true) else ((laws_toRoad.f a0_0 a0_1).bind fun bt196 => ((laws_toWalker.f k a1_0 a1_1 a1_2 l1_3).bind fun bt198 => ((spec_MirrorWalker.f k bt196.1 bt196.2 bt198.1 bt198.2.1 bt198.2.2.1 bt198.2.2.2).bind fun bt204 => ((laws_toWalker.f k a1_0 a1_1 a1_2 l1_3).bind fun bt212 => ((laws_toRoad.f a0_0 a0_1).bind fun bt219 => ((impl_MirrorWalker.f k bt219.1 bt219.2 bt212.1 bt212.2.1 bt212.2.2.1 bt212.2.2.2).bind fun bt221 => ((laws_eqWalker.f k bt221.1 bt221.2.1 bt221.2.2.1 bt221.2.2.2.1 bt204.1 bt204.2.1 bt204.2.2.1 bt204.2.2.2.1).bind fun t229 => (if t229 = true then (laws_FnExactMirrorWalker.j0 k bt204.2.2.2.2 bt221.2.2.2.2 (bt221.2.2.2.2 != bt204.2.2.2.2) a0_0 a0_1 a1_0 a1_1 a1_2 l1_3 bt204.1 bt204.2.1 bt204.2.2.1 bt204.2.2.2.1 bt212.1 bt212.2.1 bt212.2.2.1 bt212.2.2.2 bt221.1 bt221.2.1 bt221.2.2.1 bt221.2.2.2.1) else (laws_FnExactMirrorWalker.j0 k bt204.2.2.2.2 bt221.2.2.2.2 true a0_0 a0_1 a1_0 a1_1 a1_2 l1_3 bt204.1 bt204.2.1 bt204.2.2.1 bt204.2.2.2.1 bt212.1 bt212.2.1 bt212.2.2.1 bt212.2.2.2 bt221.1 bt221.2.1 bt221.2.2.1 bt221.2.2.2.1))))))))))
theorem laws_FnExactMirrorWalker.mono_l : ∀ k, (∀ y0 y1 y2 y3 y4 y5 y6 y7 y8 y9 y10 y11 y12 y13 y14 y15 y16 y17 y18 y19 y20, LeO (laws_FnExactMirrorWalker.j0 k y0 y1 y2 y3 y4 y5 y6 y7 y8 y9 y10 y11 y12 y13 y14 y15 y16 y17 y18 y19 y20) (laws_FnExactMirrorWalker.j0 (k + 1) y0 y1 y2 y3 y4 y5 y6 y7 y8 y9 y10 y11 y12 y13 y14 y15 y16 y17 y18 y19 y20)) ∧ (∀ y0 y1 y2 y3 y4 y5 y6 y7 y8 y9 y10 y11 y12 y13 y14 y15, LeO (laws_FnExactMirrorWalker.j1 k y0 y1 y2 y3 y4 y5 y6 y7 y8 y9 y10 y11 y12 y13 y14 y15) (laws_FnExactMirrorWalker.j1 (k + 1) y0 y1 y2 y3 y4 y5 y6 y7 y8 y9 y10 y11 y12 y13 y14 y15)) ∧ (∀ y0 y1 y2 y3 y4 y5, LeO (laws_FnExactMirrorWalker.j2 k y0 y1 y2 y3 y4 y5) (laws_FnExactMirrorWalker.j2 (k + 1) y0 y1 y2 y3 y4 y5))
  | 0 => ⟨fun _ _ _ _ _ _ _ _ _ _ _ _ _ _ _ _ _ _ _ _ _ r h => by simp [laws_FnExactMirrorWalker.j0] at h, fun _ _ _ _ _ _ _ _ _ _ _ _ _ _ _ _ r h => by simp [laws_FnExactMirrorWalker.j1] at h, fun _ _ _ _ _ _ r h => by simp [laws_FnExactMirrorWalker.j2] at h⟩
  | k + 1 => by
    obtain ⟨ih0, ih1, ih2⟩ := laws_FnExactMirrorWalker.mono_l k
    refine ⟨?_, ?_, ?_⟩
    · intro y0 y1 y2 y3 y4 y5 y6 y7 y8 y9 y10 y11 y12 y13 y14 y15 y16 y17 y18 y19 y20
      unfold laws_FnExactMirrorWalker.j0
      repeat' first
      | (with_reducible exact ih0 _ _ _ _ _ _ _ _ _ _ _ _ _ _ _ _ _ _ _ _ _)
      | (with_reducible exact ih1 _ _ _ _ _ _ _ _ _ _ _ _ _ _ _ _)
      | (with_reducible exact ih2 _ _ _ _ _ _)
      | (with_reducible exact impl_MirrorWalker.mono _ _ _ _ _ _ _)
      | (with_reducible exact laws_eqWalker.mono _ _ _ _ _ _ _ _ _)
      | (with_reducible exact laws_heldWalker.mono _ _ _ _ _ _)
      | (with_reducible exact laws_markWalker.mono _ _ _ _ _ _)
      | (with_reducible exact laws_toWalker.mono _ _ _ _ _)
      | (with_reducible exact spec_MirrorWalker.mono _ _ _ _ _ _ _)
      | (with_reducible exact LeO.refl _)
      | (with_reducible exact LeO.none _)
      | (with_reducible refine LeO.ite ?_ ?_)
      | (with_reducible refine LeO.bind ?_ (fun _ => ?_))
      | exact ih0 _ _ _ _ _ _ _ _ _ _ _ _ _ _ _ _ _ _ _ _ _
      | exact ih1 _ _ _ _ _ _ _ _ _ _ _ _ _ _ _ _
      | exact ih2 _ _ _ _ _ _
      | exact impl_MirrorWalker.mono _ _ _ _ _ _ _
      | exact laws_eqWalker.mono _ _ _ _ _ _ _ _ _
      | exact laws_heldWalker.mono _ _ _ _ _ _
      | exact laws_markWalker.mono _ _ _ _ _ _
      | exact laws_toWalker.mono _ _ _ _ _
      | exact spec_MirrorWalker.mono _ _ _ _ _ _ _
      | exact LeO.none _
      | refine LeO.ite ?_ ?_
      | refine LeO.bind ?_ (fun _ => ?_)
    · intro y0 y1 y2 y3 y4 y5 y6 y7 y8 y9 y10 y11 y12 y13 y14 y15
      unfold laws_FnExactMirrorWalker.j1
      repeat' first
      | (with_reducible exact ih0 _ _ _ _ _ _ _ _ _ _ _ _ _ _ _ _ _ _ _ _ _)
      | (with_reducible exact ih1 _ _ _ _ _ _ _ _ _ _ _ _ _ _ _ _)
      | (with_reducible exact ih2 _ _ _ _ _ _)
      | (with_reducible exact impl_MirrorWalker.mono _ _ _ _ _ _ _)
      | (with_reducible exact laws_eqWalker.mono _ _ _ _ _ _ _ _ _)
      | (with_reducible exact laws_heldWalker.mono _ _ _ _ _ _)
      | (with_reducible exact laws_markWalker.mono _ _ _ _ _ _)
      | (with_reducible exact laws_toWalker.mono _ _ _ _ _)
      | (with_reducible exact spec_MirrorWalker.mono _ _ _ _ _ _ _)
      | (with_reducible exact LeO.refl _)
      | (with_reducible exact LeO.none _)
      | (with_reducible refine LeO.ite ?_ ?_)
      | (with_reducible refine LeO.bind ?_ (fun _ => ?_))
      | exact ih0 _ _ _ _ _ _ _ _ _ _ _ _ _ _ _ _ _ _ _ _ _
      | exact ih1 _ _ _ _ _ _ _ _ _ _ _ _ _ _ _ _
      | exact ih2 _ _ _ _ _ _
      | exact impl_MirrorWalker.mono _ _ _ _ _ _ _
      | exact laws_eqWalker.mono _ _ _ _ _ _ _ _ _
      | exact laws_heldWalker.mono _ _ _ _ _ _
      | exact laws_markWalker.mono _ _ _ _ _ _
      | exact laws_toWalker.mono _ _ _ _ _
      | exact spec_MirrorWalker.mono _ _ _ _ _ _ _
      | exact LeO.none _
      | refine LeO.ite ?_ ?_
      | refine LeO.bind ?_ (fun _ => ?_)
    · intro y0 y1 y2 y3 y4 y5
      unfold laws_FnExactMirrorWalker.j2
      repeat' first
      | (with_reducible exact ih0 _ _ _ _ _ _ _ _ _ _ _ _ _ _ _ _ _ _ _ _ _)
      | (with_reducible exact ih1 _ _ _ _ _ _ _ _ _ _ _ _ _ _ _ _)
      | (with_reducible exact ih2 _ _ _ _ _ _)
      | (with_reducible exact impl_MirrorWalker.mono _ _ _ _ _ _ _)
      | (with_reducible exact laws_eqWalker.mono _ _ _ _ _ _ _ _ _)
      | (with_reducible exact laws_heldWalker.mono _ _ _ _ _ _)
      | (with_reducible exact laws_markWalker.mono _ _ _ _ _ _)
      | (with_reducible exact laws_toWalker.mono _ _ _ _ _)
      | (with_reducible exact spec_MirrorWalker.mono _ _ _ _ _ _ _)
      | (with_reducible exact LeO.refl _)
      | (with_reducible exact LeO.none _)
      | (with_reducible refine LeO.ite ?_ ?_)
      | (with_reducible refine LeO.bind ?_ (fun _ => ?_))
      | exact ih0 _ _ _ _ _ _ _ _ _ _ _ _ _ _ _ _ _ _ _ _ _
      | exact ih1 _ _ _ _ _ _ _ _ _ _ _ _ _ _ _ _
      | exact ih2 _ _ _ _ _ _
      | exact impl_MirrorWalker.mono _ _ _ _ _ _ _
      | exact laws_eqWalker.mono _ _ _ _ _ _ _ _ _
      | exact laws_heldWalker.mono _ _ _ _ _ _
      | exact laws_markWalker.mono _ _ _ _ _ _
      | exact laws_toWalker.mono _ _ _ _ _
      | exact spec_MirrorWalker.mono _ _ _ _ _ _ _
      | exact LeO.none _
      | refine LeO.ite ?_ ?_
      | refine LeO.bind ?_ (fun _ => ?_)
theorem laws_FnExactMirrorWalker.mono : ∀ a0 a1 a2 a3 a4 a5 k, LeO (laws_FnExactMirrorWalker.f k a0 a1 a2 a3 a4 a5) (laws_FnExactMirrorWalker.f (k + 1) a0 a1 a2 a3 a4 a5) := by
  intro a0 a1 a2 a3 a4 a5 k
  obtain ⟨ih0, ih1, ih2⟩ := laws_FnExactMirrorWalker.mono_l k
  unfold laws_FnExactMirrorWalker.f
  repeat' first
      | (with_reducible exact ih0 _ _ _ _ _ _ _ _ _ _ _ _ _ _ _ _ _ _ _ _ _)
      | (with_reducible exact ih1 _ _ _ _ _ _ _ _ _ _ _ _ _ _ _ _)
      | (with_reducible exact ih2 _ _ _ _ _ _)
      | (with_reducible exact impl_MirrorWalker.mono _ _ _ _ _ _ _)
      | (with_reducible exact laws_eqWalker.mono _ _ _ _ _ _ _ _ _)
      | (with_reducible exact laws_heldWalker.mono _ _ _ _ _ _)
      | (with_reducible exact laws_markWalker.mono _ _ _ _ _ _)
      | (with_reducible exact laws_toWalker.mono _ _ _ _ _)
      | (with_reducible exact spec_MirrorWalker.mono _ _ _ _ _ _ _)
      | (with_reducible exact LeO.refl _)
      | (with_reducible exact LeO.none _)
      | (with_reducible refine LeO.ite ?_ ?_)
      | (with_reducible refine LeO.bind ?_ (fun _ => ?_))
      | exact ih0 _ _ _ _ _ _ _ _ _ _ _ _ _ _ _ _ _ _ _ _ _
      | exact ih1 _ _ _ _ _ _ _ _ _ _ _ _ _ _ _ _
      | exact ih2 _ _ _ _ _ _
      | exact impl_MirrorWalker.mono _ _ _ _ _ _ _
      | exact laws_eqWalker.mono _ _ _ _ _ _ _ _ _
      | exact laws_heldWalker.mono _ _ _ _ _ _
      | exact laws_markWalker.mono _ _ _ _ _ _
      | exact laws_toWalker.mono _ _ _ _ _
      | exact spec_MirrorWalker.mono _ _ _ _ _ _ _
      | exact LeO.none _
      | refine LeO.ite ?_ ?_
      | refine LeO.bind ?_ (fun _ => ?_)
def laws_FnExactMirrorWalker.T5 : Bool × List (List Nat × List Nat) := (true, [([], []), ([0], [0]), ([], []), ([2, 1], [2]), ([1, 3, 3], [1, 3]), ([4], [4]), ([5], [5]), ([5], [5]), ([], []), ([8, 6, 4, 0, 1, 2, 3, 4, 5, 6, 8], [6, 8]), ([7, 9, 0, 1, 2, 3, 4, 5, 6, 7, 8, 9], [7])])
def laws_FnExactMirrorWalker.B5 : List Nat := [0, 1, 0, 7, 15, 31, 63, 63, 0, 383, 1023]
theorem laws_FnExactMirrorWalker.tab5 : rtab .any (opsOf Try.f4 5) = laws_FnExactMirrorWalker.T5 := by kernel_rfl
theorem laws_FnExactMirrorWalker.bits5 : waitsOk laws_FnExactMirrorWalker.T5.2 laws_FnExactMirrorWalker.B5 = true := by kernel_rfl
def laws_FnExactMirrorWalker.T7 : Bool × List (List Nat × List Nat) := (true, [([], []), ([0], [0]), ([], []), ([1, 2, 1], [1, 2]), ([3], [3]), ([4], [4]), ([4], [4]), ([], []), ([7, 5, 3, 0, 1, 2, 3, 4, 5, 7], [5, 7]), ([6, 8, 0, 1, 2, 3, 4, 5, 6, 7, 8], [6])])
def laws_FnExactMirrorWalker.B7 : List Nat := [0, 1, 0, 7, 15, 31, 31, 0, 191, 511]
theorem laws_FnExactMirrorWalker.tab7 : rtab .any (opsOf Try.f4 7) = laws_FnExactMirrorWalker.T7 := by kernel_rfl
theorem laws_FnExactMirrorWalker.bits7 : waitsOk laws_FnExactMirrorWalker.T7.2 laws_FnExactMirrorWalker.B7 = true := by kernel_rfl
def laws_FnExactMirrorWalker.T24 : Bool × List (List Nat × List Nat) := (true, [([], []), ([0], [0]), ([], []), ([2, 1], [2]), ([1, 3, 3], [1, 3]), ([4], [4]), ([5], [5]), ([5], [5]), ([], []), ([8, 6, 4, 0, 1, 2, 3, 4, 5, 6, 8], [6, 8]), ([7, 9, 0, 1, 2, 3, 4, 5, 6, 7, 8, 9], [7])])
def laws_FnExactMirrorWalker.B24 : List Nat := [0, 1, 0, 7, 15, 31, 63, 63, 0, 383, 1023]
theorem laws_FnExactMirrorWalker.tab24 : rtab .any (opsOf Try.f4 24) = laws_FnExactMirrorWalker.T24 := by kernel_rfl
theorem laws_FnExactMirrorWalker.bits24 : waitsOk laws_FnExactMirrorWalker.T24.2 laws_FnExactMirrorWalker.B24 = true := by kernel_rfl
set_option maxHeartbeats 8000000 in
set_option maxRecDepth 100000 in
theorem laws_FnExactMirrorWalker.calls (k : Nat) (a0_0 : Int) (a0_1 : Bool) (a1_0 : Int) (a1_1 : Int) (a1_2 : Int) (A1_3 : Option Addr) (c1_3 : Nat) (l1_3 : List Int) (r : Bool) (hr_ : r = true) (w : World) (hr1_3 : Kd.C (Kd.int .i64) w A1_3 l1_3.length l1_3) (hc1_3 : l1_3.length ≤ c1_3) (h : laws_FnExactMirrorWalker.f k a0_0 a0_1 a1_0 a1_1 a1_2 l1_3 = some r) :
    Calls Try.prog 4 #[.agg #[.int .i64 a0_0, .bool a0_1], .agg #[.int .i64 a1_0, .int .i64 a1_1, .int .i64 a1_2, .slice A1_3 l1_3.length c1_3]] w fun e w' => e = .returned (.bool r) ∧ Below w.heap.size w w' := by
 have hu23 := Try.underlying23
 have hu26 := Try.underlying26
 have hu33 := Try.underlying33
 have HR1_3 := A_ hr1_3
 have HC1_3 := A_ hc1_3
 clear hr1_3 hc1_3
 have HB := A_ (Below.refl w.heap.size w)
 have H : ((laws_szWalker.f a1_0 a1_1 a1_2 l1_3 1048576).bind fun t195 => (if t195 < 0 then (some true) else ((laws_toRoad.f a0_0 a0_1).bind fun bt196 => ((laws_toWalker.f k a1_0 a1_1 a1_2 l1_3).bind fun bt198 => ((spec_MirrorWalker.f k bt196.1 bt196.2 bt198.1 bt198.2.1 bt198.2.2.1 bt198.2.2.2).bind fun bt204 => ((laws_toWalker.f k a1_0 a1_1 a1_2 l1_3).bind fun bt212 => ((laws_toRoad.f a0_0 a0_1).bind fun bt219 => ((impl_MirrorWalker.f k bt219.1 bt219.2 bt212.1 bt212.2.1 bt212.2.2.1 bt212.2.2.2).bind fun bt221 => ((laws_eqWalker.f k bt221.1 bt221.2.1 bt221.2.2.1 bt221.2.2.2.1 bt204.1 bt204.2.1 bt204.2.2.1 bt204.2.2.2.1).bind fun t229 => (if t229 = true then (laws_FnExactMirrorWalker.j0 k bt204.2.2.2.2 bt221.2.2.2.2 (bt221.2.2.2.2 != bt204.2.2.2.2) a0_0 a0_1 a1_0 a1_1 a1_2 l1_3 bt204.1 bt204.2.1 bt204.2.2.1 bt204.2.2.2.1 bt212.1 bt212.2.1 bt212.2.2.1 bt212.2.2.2 bt221.1 bt221.2.1 bt221.2.2.1 bt221.2.2.2.1) else (laws_FnExactMirrorWalker.j0 k bt204.2.2.2.2 bt221.2.2.2.2 true a0_0 a0_1 a1_0 a1_1 a1_2 l1_3 bt204.1 bt204.2.1 bt204.2.2.1 bt204.2.2.2.1 bt212.1 bt212.2.1 bt212.2.2.1 bt212.2.2.2 bt221.1 bt221.2.1 bt221.2.2.1 bt221.2.2.2.1))))))))))) = some r := h
 clear h
 replace H := Option.bind_eq_some_iff.mp H
 obtain ⟨t195, A30, H⟩ := H
 replace H : (if t195 < 0 then (some true) else ((laws_toRoad.f a0_0 a0_1).bind fun bt196 => ((laws_toWalker.f k a1_0 a1_1 a1_2 l1_3).bind fun bt198 => ((spec_MirrorWalker.f k bt196.1 bt196.2 bt198.1 bt198.2.1 bt198.2.2.1 bt198.2.2.2).bind fun bt204 => ((laws_toWalker.f k a1_0 a1_1 a1_2 l1_3).bind fun bt212 => ((laws_toRoad.f a0_0 a0_1).bind fun bt219 => ((impl_MirrorWalker.f k bt219.1 bt219.2 bt212.1 bt212.2.1 bt212.2.2.1 bt212.2.2.2).bind fun bt221 => ((laws_eqWalker.f k bt221.1 bt221.2.1 bt221.2.2.1 bt221.2.2.2.1 bt204.1 bt204.2.1 bt204.2.2.1 bt204.2.2.2.1).bind fun t229 => (if t229 = true then (laws_FnExactMirrorWalker.j0 k bt204.2.2.2.2 bt221.2.2.2.2 (bt221.2.2.2.2 != bt204.2.2.2.2) a0_0 a0_1 a1_0 a1_1 a1_2 l1_3 bt204.1 bt204.2.1 bt204.2.2.1 bt204.2.2.2.1 bt212.1 bt212.2.1 bt212.2.2.1 bt212.2.2.2 bt221.1 bt221.2.1 bt221.2.2.1 bt221.2.2.2.1) else (laws_FnExactMirrorWalker.j0 k bt204.2.2.2.2 bt221.2.2.2.2 true a0_0 a0_1 a1_0 a1_1 a1_2 l1_3 bt204.1 bt204.2.1 bt204.2.2.1 bt204.2.2.2.1 bt212.1 bt212.2.1 bt212.2.2.1 bt212.2.2.2 bt221.1 bt221.2.1 bt221.2.2.1 bt221.2.2.2.1)))))))))) = some r := H
 have A3 := A_ A30
 clear A30
 by_cases c4 : t195 < 0
 ·
  rw [if_pos c4] at H
  have c4b0 : decide (t195 < 0) = true := decide_eq_true c4
  clear c4
  obtain rfl := Option.some.inj H
  go_enter Try.func4, Try.ntmps4
  go_wp2_with (first | ((with_reducible refine gate_dst (N := 2) rfl ?_); refine box_event ?hg (N := 2) ?hd (cs := #[.int .i64 a0_0, .bool a0_1]) (t := 23) ?hr ?_; (case hd => rfl); (case hg => rfl); (case hr => first | (go_simp; done) | (go_simp; rfl)); intro gb193 hg w5 hbox hb; have n0_ := A_ (below_step (hq HB) hb); have n1_ := A_ (hbox); have n2_ := A_ ((by rw [hg]; exact (below_size (hq HB)) : w.heap.size ≤ gb193)); have n3_ := A_ ((by rw [hg]; exact (below_size (hq HB)) : w.heap.size ≤ gb193)); clear HB; have HB := n0_; have BK193 := n1_; have GW193 := n2_; have GE193 := n3_; clear n0_ n1_ n2_ n3_; clear hb hbox hg) | ((with_reducible refine gate_dst (N := 3) rfl ?_); refine box_event ?hg (N := 3) ?hd (cs := #[.int .i64 a1_0, .int .i64 a1_1, .int .i64 a1_2, .slice A1_3 l1_3.length c1_3]) (t := 26) ?hr ?_; (case hd => rfl); (case hg => rfl); (case hr => first | (go_simp; done) | (go_simp; rfl)); intro gb194 hg w6 hbox hb; have n0_ := A_ (blk_below (bq BK193) hb); have n1_ := A_ (below_step (hq HB) hb); have n2_ := A_ (hbox); have n3_ := A_ ((by rw [hg]; exact (below_size (hq HB)) : w.heap.size ≤ gb194)); have n4_ := A_ ((by rw [hg]; exact (below_size (hq HB)) : w.heap.size ≤ gb194)); have n5_ := A_ ((by rw [hg]; exact Nat.ne_of_lt (blk_lt (bq BK193)) : gb193 ≠ gb194)); have n6_ := A_ ((by rw [hg]; exact Nat.ne_of_gt (blk_lt (bq BK193)) : gb194 ≠ gb193)); clear BK193; clear HB; have BK193 := n0_; have HB := n1_; have BK194 := n2_; have GW194 := n3_; have GE194 := n4_; have NB193_194 := n5_; have NB194_193 := n6_; clear n0_ n1_ n2_ n3_ n4_ n5_ n6_; clear hb hbox hg; have hnb7 := NB194_193.out; have hnc7 := NB193_194.out; have hcz8_0 : w6.cell? ⟨gb194, 0, none⟩ = some (.int .i64 a1_0) := bc BK194 0; have hcz8_1 : w6.cell? ⟨gb194, 1, none⟩ = some (.int .i64 a1_1) := bc BK194 1; have hcz8_2 : w6.cell? ⟨gb194, 2, none⟩ = some (.int .i64 a1_2) := bc BK194 2; have hcz8_3 : w6.cell? ⟨gb194, 3, none⟩ = some (.slice A1_3 l1_3.length c1_3) := bc BK194 3; have hfz8_0 := blk_frozen BK194.out 0; have hfz8_1 := blk_frozen BK194.out 1; have hfz8_2 := blk_frozen BK194.out 2; have hfz8_3 := blk_frozen BK194.out 3) | ((with_reducible refine gate_callee (f := 10) rfl ?_); refine goesL_ (some 18) rfl rfl Try.func10 (by kernel_rfl) rfl #[.agg #[.int .i64 a1_0, .int .i64 a1_1, .int .i64 a1_2, .slice A1_3 l1_3.length c1_3], .int .i64 1048576] rfl gq ?_; (with_reducible refine (laws_szWalker.calls a1_0 a1_1 a1_2 _ _ l1_3 1048576 t195 _ ?side1 ?side2 A3.out).mono ?_); (case side1 => repeat (first | exact (Kd.C_below HR1_3.out HB.out) | (with_reducible refine Kd.C_alloc ?_ _) | (with_reducible refine Kd.C_drewN ?_ _) | (with_reducible refine Kd.C_drew ?_))); (case side2 => exact HC1_3.out); rintro e w9 ⟨rfl, hb⟩; refine ⟨_, rfl, ?_⟩; have n0_ := A_ (blk_below (bq BK193) hb); have n1_ := A_ (blk_below (bq BK194) hb); have n2_ := A_ (below_step (hq HB) hb); clear BK193; clear BK194; clear HB; have BK193 := n0_; have BK194 := n1_; have HB := n2_; clear n0_ n1_ n2_; (try clear hb); (try clear hb2); (try clear hk); (try clear hi)))
  go_ret
  exact ⟨by first | rfl | (simp [errW_none, errW_some] <;> rfl) | (simp [*, errW_none, errW_some] <;> rfl), by repeat (first | (with_reducible first | exact HB.out | apply below_alloc | apply pw_below_drewN | apply below_drew1 | refine below_set ?_ GE193.out | refine below_set ?_ GE194.out) | exact HB.out)⟩
 ·
  rw [if_neg c4] at H
  have c4b0 : decide (t195 < 0) = false := decide_eq_false c4
  clear c4
  replace H := Option.bind_eq_some_iff.mp H
  obtain ⟨⟨t196, t197⟩, A100, H⟩ := H
  replace H : ((laws_toWalker.f k a1_0 a1_1 a1_2 l1_3).bind fun bt198 => ((spec_MirrorWalker.f k t196 t197 bt198.1 bt198.2.1 bt198.2.2.1 bt198.2.2.2).bind fun bt204 => ((laws_toWalker.f k a1_0 a1_1 a1_2 l1_3).bind fun bt212 => ((laws_toRoad.f a0_0 a0_1).bind fun bt219 => ((impl_MirrorWalker.f k bt219.1 bt219.2 bt212.1 bt212.2.1 bt212.2.2.1 bt212.2.2.2).bind fun bt221 => ((laws_eqWalker.f k bt221.1 bt221.2.1 bt221.2.2.1 bt221.2.2.2.1 bt204.1 bt204.2.1 bt204.2.2.1 bt204.2.2.2.1).bind fun t229 => (if t229 = true then (laws_FnExactMirrorWalker.j0 k bt204.2.2.2.2 bt221.2.2.2.2 (bt221.2.2.2.2 != bt204.2.2.2.2) a0_0 a0_1 a1_0 a1_1 a1_2 l1_3 bt204.1 bt204.2.1 bt204.2.2.1 bt204.2.2.2.1 bt212.1 bt212.2.1 bt212.2.2.1 bt212.2.2.2 bt221.1 bt221.2.1 bt221.2.2.1 bt221.2.2.2.1) else (laws_FnExactMirrorWalker.j0 k bt204.2.2.2.2 bt221.2.2.2.2 true a0_0 a0_1 a1_0 a1_1 a1_2 l1_3 bt204.1 bt204.2.1 bt204.2.2.1 bt204.2.2.2.1 bt212.1 bt212.2.1 bt212.2.2.1 bt212.2.2.2 bt221.1 bt221.2.1 bt221.2.2.1 bt221.2.2.2.1)))))))) = some r := H
  have A10 := A_ A100
  clear A100
  replace H := Option.bind_eq_some_iff.mp H
  obtain ⟨⟨t198, t199, t200, t201⟩, A110, H⟩ := H
  replace H : ((spec_MirrorWalker.f k t196 t197 t198 t199 t200 t201).bind fun bt204 => ((laws_toWalker.f k a1_0 a1_1 a1_2 l1_3).bind fun bt212 => ((laws_toRoad.f a0_0 a0_1).bind fun bt219 => ((impl_MirrorWalker.f k bt219.1 bt219.2 bt212.1 bt212.2.1 bt212.2.2.1 bt212.2.2.2).bind fun bt221 => ((laws_eqWalker.f k bt221.1 bt221.2.1 bt221.2.2.1 bt221.2.2.2.1 bt204.1 bt204.2.1 bt204.2.2.1 bt204.2.2.2.1).bind fun t229 => (if t229 = true then (laws_FnExactMirrorWalker.j0 k bt204.2.2.2.2 bt221.2.2.2.2 (bt221.2.2.2.2 != bt204.2.2.2.2) a0_0 a0_1 a1_0 a1_1 a1_2 l1_3 bt204.1 bt204.2.1 bt204.2.2.1 bt204.2.2.2.1 bt212.1 bt212.2.1 bt212.2.2.1 bt212.2.2.2 bt221.1 bt221.2.1 bt221.2.2.1 bt221.2.2.2.1) else (laws_FnExactMirrorWalker.j0 k bt204.2.2.2.2 bt221.2.2.2.2 true a0_0 a0_1 a1_0 a1_1 a1_2 l1_3 bt204.1 bt204.2.1 bt204.2.2.1 bt204.2.2.2.1 bt212.1 bt212.2.1 bt212.2.2.1 bt212.2.2.2 bt221.1 bt221.2.1 bt221.2.2.1 bt221.2.2.2.1))))))) = some r := H
  have A11 := A_ A110
  clear A110
  replace H := Option.bind_eq_some_iff.mp H
  obtain ⟨⟨t204, t205, t206, t207, t210⟩, A120, H⟩ := H
  replace H : ((laws_toWalker.f k a1_0 a1_1 a1_2 l1_3).bind fun bt212 => ((laws_toRoad.f a0_0 a0_1).bind fun bt219 => ((impl_MirrorWalker.f k bt219.1 bt219.2 bt212.1 bt212.2.1 bt212.2.2.1 bt212.2.2.2).bind fun bt221 => ((laws_eqWalker.f k bt221.1 bt221.2.1 bt221.2.2.1 bt221.2.2.2.1 t204 t205 t206 t207).bind fun t229 => (if t229 = true then (laws_FnExactMirrorWalker.j0 k t210 bt221.2.2.2.2 (bt221.2.2.2.2 != t210) a0_0 a0_1 a1_0 a1_1 a1_2 l1_3 t204 t205 t206 t207 bt212.1 bt212.2.1 bt212.2.2.1 bt212.2.2.2 bt221.1 bt221.2.1 bt221.2.2.1 bt221.2.2.2.1) else (laws_FnExactMirrorWalker.j0 k t210 bt221.2.2.2.2 true a0_0 a0_1 a1_0 a1_1 a1_2 l1_3 t204 t205 t206 t207 bt212.1 bt212.2.1 bt212.2.2.1 bt212.2.2.2 bt221.1 bt221.2.1 bt221.2.2.1 bt221.2.2.2.1)))))) = some r := H
  have A12 := A_ A120
  clear A120
  replace H := Option.bind_eq_some_iff.mp H
  obtain ⟨⟨t212, t213, t214, t215⟩, A130, H⟩ := H
  replace H : ((laws_toRoad.f a0_0 a0_1).bind fun bt219 => ((impl_MirrorWalker.f k bt219.1 bt219.2 t212 t213 t214 t215).bind fun bt221 => ((laws_eqWalker.f k bt221.1 bt221.2.1 bt221.2.2.1 bt221.2.2.2.1 t204 t205 t206 t207).bind fun t229 => (if t229 = true then (laws_FnExactMirrorWalker.j0 k t210 bt221.2.2.2.2 (bt221.2.2.2.2 != t210) a0_0 a0_1 a1_0 a1_1 a1_2 l1_3 t204 t205 t206 t207 t212 t213 t214 t215 bt221.1 bt221.2.1 bt221.2.2.1 bt221.2.2.2.1) else (laws_FnExactMirrorWalker.j0 k t210 bt221.2.2.2.2 true a0_0 a0_1 a1_0 a1_1 a1_2 l1_3 t204 t205 t206 t207 t212 t213 t214 t215 bt221.1 bt221.2.1 bt221.2.2.1 bt221.2.2.2.1))))) = some r := H
  have A13 := A_ A130
  clear A130
  replace H := Option.bind_eq_some_iff.mp H
  obtain ⟨⟨t219, t220⟩, A140, H⟩ := H
  replace H : ((impl_MirrorWalker.f k t219 t220 t212 t213 t214 t215).bind fun bt221 => ((laws_eqWalker.f k bt221.1 bt221.2.1 bt221.2.2.1 bt221.2.2.2.1 t204 t205 t206 t207).bind fun t229 => (if t229 = true then (laws_FnExactMirrorWalker.j0 k t210 bt221.2.2.2.2 (bt221.2.2.2.2 != t210) a0_0 a0_1 a1_0 a1_1 a1_2 l1_3 t204 t205 t206 t207 t212 t213 t214 t215 bt221.1 bt221.2.1 bt221.2.2.1 bt221.2.2.2.1) else (laws_FnExactMirrorWalker.j0 k t210 bt221.2.2.2.2 true a0_0 a0_1 a1_0 a1_1 a1_2 l1_3 t204 t205 t206 t207 t212 t213 t214 t215 bt221.1 bt221.2.1 bt221.2.2.1 bt221.2.2.2.1)))) = some r := H
  have A14 := A_ A140
  clear A140
  replace H := Option.bind_eq_some_iff.mp H
  obtain ⟨⟨t221, t222, t223, t224, t227⟩, A150, H⟩ := H
  replace H : ((laws_eqWalker.f k t221 t222 t223 t224 t204 t205 t206 t207).bind fun t229 => (if t229 = true then (laws_FnExactMirrorWalker.j0 k t210 t227 (t227 != t210) a0_0 a0_1 a1_0 a1_1 a1_2 l1_3 t204 t205 t206 t207 t212 t213 t214 t215 t221 t222 t223 t224) else (laws_FnExactMirrorWalker.j0 k t210 t227 true a0_0 a0_1 a1_0 a1_1 a1_2 l1_3 t204 t205 t206 t207 t212 t213 t214 t215 t221 t222 t223 t224))) = some r := H
  have A15 := A_ A150
  clear A150
  have HC16 := A_ H
  clear H
  go_enter Try.func4, Try.ntmps4
  try go_wp2_with (first | ((with_reducible refine gate_dst (N := 2) rfl ?_); refine box_event ?hg (N := 2) ?hd (cs := #[.int .i64 a0_0, .bool a0_1]) (t := 23) ?hr ?_; (case hd => rfl); (case hg => rfl); (case hr => first | (go_simp; done) | (go_simp; rfl)); intro gb193 hg w17 hbox hb; have n0_ := A_ (below_step (hq HB) hb); have n1_ := A_ (hbox); have n2_ := A_ ((by rw [hg]; exact (below_size (hq HB)) : w.heap.size ≤ gb193)); have n3_ := A_ ((by rw [hg]; exact (below_size (hq HB)) : w.heap.size ≤ gb193)); clear HB; have HB := n0_; have BK193 := n1_; have GW193 := n2_; have GE193 := n3_; clear n0_ n1_ n2_ n3_; clear hb hbox hg) | ((with_reducible refine gate_dst (N := 3) rfl ?_); refine box_event ?hg (N := 3) ?hd (cs := #[.int .i64 a1_0, .int .i64 a1_1, .int .i64 a1_2, .slice A1_3 l1_3.length c1_3]) (t := 26) ?hr ?_; (case hd => rfl); (case hg => rfl); (case hr => first | (go_simp; done) | (go_simp; rfl)); intro gb194 hg w18 hbox hb; have n0_ := A_ (blk_below (bq BK193) hb); have n1_ := A_ (below_step (hq HB) hb); have n2_ := A_ (hbox); have n3_ := A_ ((by rw [hg]; exact (below_size (hq HB)) : w.heap.size ≤ gb194)); have n4_ := A_ ((by rw [hg]; exact (below_size (hq HB)) : w.heap.size ≤ gb194)); have n5_ := A_ ((by rw [hg]; exact Nat.ne_of_lt (blk_lt (bq BK193)) : gb193 ≠ gb194)); have n6_ := A_ ((by rw [hg]; exact Nat.ne_of_gt (blk_lt (bq BK193)) : gb194 ≠ gb193)); clear BK193; clear HB; have BK193 := n0_; have HB := n1_; have BK194 := n2_; have GW194 := n3_; have GE194 := n4_; have NB193_194 := n5_; have NB194_193 := n6_; clear n0_ n1_ n2_ n3_ n4_ n5_ n6_; clear hb hbox hg; have hnb19 := NB194_193.out; have hnc19 := NB193_194.out; have hcz20_0 : w18.cell? ⟨gb194, 0, none⟩ = some (.int .i64 a1_0) := bc BK194 0; have hcz20_1 : w18.cell? ⟨gb194, 1, none⟩ = some (.int .i64 a1_1) := bc BK194 1; have hcz20_2 : w18.cell? ⟨gb194, 2, none⟩ = some (.int .i64 a1_2) := bc BK194 2; have hcz20_3 : w18.cell? ⟨gb194, 3, none⟩ = some (.slice A1_3 l1_3.length c1_3) := bc BK194 3; have hfz20_0 := blk_frozen BK194.out 0; have hfz20_1 := blk_frozen BK194.out 1; have hfz20_2 := blk_frozen BK194.out 2; have hfz20_3 := blk_frozen BK194.out 3) | ((with_reducible refine gate_callee (f := 10) rfl ?_); refine goesL_ (some 18) rfl rfl Try.func10 (by kernel_rfl) rfl #[.agg #[.int .i64 a1_0, .int .i64 a1_1, .int .i64 a1_2, .slice A1_3 l1_3.length c1_3], .int .i64 1048576] rfl gq ?_; (with_reducible refine (laws_szWalker.calls a1_0 a1_1 a1_2 _ _ l1_3 1048576 t195 _ ?side1 ?side2 A3.out).mono ?_); (case side1 => repeat (first | exact (Kd.C_below HR1_3.out HB.out) | (with_reducible refine Kd.C_alloc ?_ _) | (with_reducible refine Kd.C_drewN ?_ _) | (with_reducible refine Kd.C_drew ?_))); (case side2 => exact HC1_3.out); rintro e w21 ⟨rfl, hb⟩; refine ⟨_, rfl, ?_⟩; have n0_ := A_ (blk_below (bq BK193) hb); have n1_ := A_ (blk_below (bq BK194) hb); have n2_ := A_ (below_step (hq HB) hb); clear BK193; clear BK194; clear HB; have BK193 := n0_; have BK194 := n1_; have HB := n2_; clear n0_ n1_ n2_; (try clear hb); (try clear hb2); (try clear hk); (try clear hi)))
  have n0_ := A_ (blk_drew BK193.out)
  have n1_ := A_ (blk_drew BK194.out)
  have n2_ := A_ (below_drew1 HB.out)
  clear BK193 BK194 HB; have BK193 := n0_; have BK194 := n1_; have HB := n2_; clear n0_ n1_ n2_
  refine start_ (n := 11) (S := fun w' => w'.cell? ⟨gb193, 0, none⟩ = some (.int .i64 a0_0) ∧ w'.cell? ⟨gb193, 1, none⟩ = some (.bool a0_1) ∧ w'.cell? ⟨gb194, 0, none⟩ = some (.int .i64 a1_0) ∧ w'.cell? ⟨gb194, 1, none⟩ = some (.int .i64 a1_1) ∧ w'.cell? ⟨gb194, 2, none⟩ = some (.int .i64 a1_2) ∧ w'.cell? ⟨gb194, 3, none⟩ = some (.slice A1_3 l1_3.length c1_3)) (ds := []) #[false, false, false, false, false, false, false, false, false, false, false] (by kernel_rfl) rfl rfl ⟨bc BK193 0, bc BK193 1, bc BK194 0, bc BK194 1, bc BK194 2, bc BK194 3⟩ (fun hHeld => ?_); refine with_tabW laws_FnExactMirrorWalker.tab5 laws_FnExactMirrorWalker.bits5 (fun HT_ HW_ => ?_)
  generalize w21.drew = w22 at BK193 BK194 HB hHeld ⊢
  refine take_ (i := 0) (N := some 22) (v := ?_) (a' := ?_) #[true, false, false, false, false, false, false, false, false, false, false] rfl rfl (take_ofW HT_.out HW_.out (by kernel_rfl)) (fun _ _ _ h => h) (Or.inl ⟨by rfl, ?_⟩) hHeld ?_ ?_
  rotate_left
  ·
   rintro w' ⟨s0, s1, s2, s3, s4, s5⟩
   go_simp
   with_reducible rfl
  rotate_left
  ·
   simp only [Act.put, List.setIfInBounds_toArray, List.set_cons_zero, List.set_cons_succ, i64_w, i32_w]
   rfl
  refine take_ (i := 2) (N := some 24) (v := ?_) (a' := ?_) #[true, false, true, false, false, false, false, false, false, false, false] rfl rfl (take_ofW HT_.out HW_.out (by kernel_rfl)) (fun _ _ _ h => h) (Or.inl ⟨by rfl, ?_⟩) hHeld ?_ ?_
  rotate_left
  ·
   rintro w' ⟨s0, s1, s2, s3, s4, s5⟩
   go_simp
   with_reducible rfl
  rotate_left
  ·
   simp only [Act.put, List.setIfInBounds_toArray, List.set_cons_zero, List.set_cons_succ, i64_w, i32_w]
   rfl
  refine join_ (σ := Value × Value × Nat) 2 #[true, true, true, true, true, true, true, true, true, false, false] (fun s_ => [(23, .agg #[.int .i64 t196, .bool t197]), (25, .agg #[.int .i64 t198, .int .i64 t199, .int .i64 t200, s_.1]), (26, .tuple #[.agg #[.int .i64 t204, .int .i64 t205, .int .i64 t206, s_.2.1], .bool t210]), (6, .pointer (some ⟨s_.2.2, 0, none⟩)), (21, .tuple #[.agg #[.int .i64 t204, .int .i64 t205, .int .i64 t206, s_.2.1], .bool t210]), (27, .agg #[.int .i64 t204, .int .i64 t205, .int .i64 t206, s_.2.1]), (28, .bool t210)]) (fun s_ w' => (w'.cell? ⟨gb193, 0, none⟩ = some (.int .i64 a0_0) ∧ w'.cell? ⟨gb193, 1, none⟩ = some (.bool a0_1) ∧ w'.cell? ⟨gb194, 0, none⟩ = some (.int .i64 a1_0) ∧ w'.cell? ⟨gb194, 1, none⟩ = some (.int .i64 a1_1) ∧ w'.cell? ⟨gb194, 2, none⟩ = some (.int .i64 a1_2) ∧ w'.cell? ⟨gb194, 3, none⟩ = some (.slice A1_3 l1_3.length c1_3)) ∧ (Kd.R (Kd.int .i64) 3 w' w.heap.size (fun k_ => some k_ ≠ (s_.2.1 : Value).ownBlock) s_.1 t201) ∧ (Kd.R (Kd.int .i64) 3 w' w.heap.size (fun k_ => some k_ ≠ (s_.1 : Value).ownBlock) s_.2.1 t207) ∧ (w'.heap[gb193]? = some (.cells #[.int .i64 a0_0, .bool a0_1] 23 (0, 0))) ∧ (w'.heap[gb194]? = some (.cells #[.int .i64 a1_0, .int .i64 a1_1, .int .i64 a1_2, .slice A1_3 l1_3.length c1_3] 26 (0, 0))) ∧ (w'.heap[s_.2.2]? = some (.cells #[.int .i64 0, .int .i64 0, .int .i64 0, .slice none 0 0] 33 (0, 0))) ∧ (w.heap.size ≤ s_.2.2) ∧ (w.heap.size ≤ s_.2.2) ∧ (gb193 ≠ s_.2.2) ∧ (s_.2.2 ≠ gb193) ∧ (gb194 ≠ s_.2.2) ∧ (s_.2.2 ≠ gb194) ∧ (Below w.heap.size w w')) ?_ ?_
  rotate_left
  ·
   intro hCont
   refine two_ (i := 1) (j := 8) (Ni := some 23) (Nj := some 6) #[true, true, true, false, false, false, false, false, false, false, false] #[true, false, true, false, false, false, false, false, true, false, false] rfl rfl rfl rfl (two_of HT_.out (by kernel_rfl)) (by decide) (by decide) (fun K hK => ?_) (fun K hK => ?_)
   ·
    refine goes_ Try.func12 (by kernel_rfl) rfl #[.agg #[.int .i64 a0_0, .bool a0_1]] (by rfl) rfl rfl gq ?_
    with_reducible refine (laws_toRoad.calls a0_0 a0_1 t196 t197 _ A10.out).mono ?_
    rintro e w23 ⟨rfl, hb⟩
    refine ⟨_, rfl, ?_⟩
    have n0_ := A_ (blk_below (bq BK193) hb)
    have n1_ := A_ (blk_below (bq BK194) hb)
    have n2_ := A_ (below_step (hq HB) hb)
    clear BK193 BK194 HB; have BK193 := n0_; have BK194 := n1_; have HB := n2_; clear n0_ n1_ n2_; (try clear hb); (try clear hb2); (try clear hk); (try clear hi)
    refine hK.out _ _ ⟨bc BK193 0, bc BK193 1, bc BK194 0, bc BK194 1, bc BK194 2, bc BK194 3⟩ (fun hHeld => ?_)
    clear hK K
    refine norm_ (a' := ?_) ?_ ?_
    rotate_left
    ·
     show Act.put _ (some 23) _ = _
     simp only [Act.put, List.setIfInBounds_toArray, List.set_cons_zero, List.set_cons_succ, i64_w, i32_w]
     rfl
    refine two_ (i := 3) (j := 8) (Ni := some 25) (Nj := some 6) #[true, true, true, true, false, false, false, false, false, false, false] #[true, true, true, false, false, false, false, false, true, false, false] rfl rfl rfl rfl (two_of HT_.out (by kernel_rfl)) (by decide) (by decide) (fun K hK => ?_) (fun K hK => ?_)
    ·
     refine goes_ Try.func13 (by kernel_rfl) rfl #[.agg #[.int .i64 a1_0, .int .i64 a1_1, .int .i64 a1_2, .slice A1_3 l1_3.length c1_3]] (by rfl) rfl rfl gq ?_
     with_reducible refine (laws_toWalker.calls k a1_0 a1_1 a1_2 _ _ l1_3 t198 t199 t200 t201 _ ?side1 ?side2 A11.out).mono ?_
     (case side1 => repeat (first | exact (Kd.C_below HR1_3.out HB.out) | (with_reducible refine Kd.C_alloc ?_ _) | (with_reducible refine Kd.C_drewN ?_ _) | (with_reducible refine Kd.C_drew ?_)))
     (case side2 => exact HC1_3.out)
     rintro e w24 ⟨v202, rfl, ho0, hb⟩
     refine ⟨_, rfl, ?_⟩
     have n0_ := A_ (Kd.R_lower ho0 (below_size (hq HB)))
     have n1_ := A_ (blk_below (bq BK193) hb)
     have n2_ := A_ (blk_below (bq BK194) hb)
     have n3_ := A_ (below_step (hq HB) hb)
     clear BK193 BK194 HB; have HO203 := n0_; have BK193 := n1_; have BK194 := n2_; have HB := n3_; clear n0_ n1_ n2_ n3_; (try clear hb); (try clear hb2); (try clear hk); (try clear hi); (try clear ho0)
     obtain ⟨Ao25, co25, eo25⟩ := Kd.R_slice HO203.out
     (first | subst eo25 | (injection eo25 with f1_ f2_ f3_; have f4_ := f1_.symm; have f5_ := f3_.symm; clear f1_ f2_ f3_; subst f4_; subst f5_))
     refine hK.out _ _ ⟨bc BK193 0, bc BK193 1, bc BK194 0, bc BK194 1, bc BK194 2, bc BK194 3⟩ (fun hHeld => ?_)
     clear hK K
     refine norm_ (a' := ?_) ?_ ?_
     rotate_left
     ·
      show Act.put _ (some 25) _ = _
      simp only [Act.put, List.setIfInBounds_toArray, List.set_cons_zero, List.set_cons_succ, i64_w, i32_w]
      rfl
     refine two_ (i := 4) (j := 8) (Ni := some 26) (Nj := some 6) #[true, true, true, true, true, false, false, false, false, false, false] #[true, true, true, true, false, false, false, false, true, false, false] rfl rfl rfl rfl (two_of HT_.out (by kernel_rfl)) (by decide) (by decide) (fun K hK => ?_) (fun K hK => ?_)
     ·
      refine goes_ Try.func20 (by kernel_rfl) rfl #[.agg #[.int .i64 t196, .bool t197], .agg #[.int .i64 t198, .int .i64 t199, .int .i64 t200, .slice Ao25 t201.length co25]] (by rfl) rfl rfl gq ?_
      with_reducible refine (spec_MirrorWalker.calls k t196 t197 t198 t199 t200 _ _ t201 t204 t205 t206 t207 t210 _ ?side1 ?side2 A12.out).mono ?_
      (case side1 => repeat (first | exact (Kd.R_reads' HO203.out).2.2 | (with_reducible refine Kd.C_alloc ?_ _) | (with_reducible refine Kd.C_drewN ?_ _) | (with_reducible refine Kd.C_drew ?_)))
      (case side2 => exact (Kd.R_reads' HO203.out).2.1)
      rintro e w26 ⟨v208, rfl, ho0, hb⟩
      refine ⟨_, rfl, ?_⟩
      have n0_ := A_ (Kd.R_elder' (rq HO203) (Kd.R_base ho0) hb)
      have n1_ := A_ (Kd.R_lower (Kd.R_new' ho0 (Kd.R_lt (rq HO203))) (below_size (hq HB)))
      have n2_ := A_ (blk_below (bq BK193) hb)
      have n3_ := A_ (blk_below (bq BK194) hb)
      have n4_ := A_ (below_step (hq HB) hb)
      clear HO203 BK193 BK194 HB; have HO203 := n0_; have HO209 := n1_; have BK193 := n2_; have BK194 := n3_; have HB := n4_; clear n0_ n1_ n2_ n3_ n4_; (try clear hb); (try clear hb2); (try clear hk); (try clear hi); (try clear ho0)
      refine hK.out _ _ ⟨bc BK193 0, bc BK193 1, bc BK194 0, bc BK194 1, bc BK194 2, bc BK194 3⟩ (fun hHeld => ?_)
      clear hK K
      refine norm_ (a' := ?_) ?_ ?_
      rotate_left
      ·
       show Act.put _ (some 26) _ = _
       simp only [Act.put, List.setIfInBounds_toArray, List.set_cons_zero, List.set_cons_succ, i64_w, i32_w]
       rfl
      refine pure_ (i := 5) (N := some 21) (v := ?_) (a' := ?_) #[true, true, true, true, true, true, false, false, false, false, false] rfl rfl (any_of HT_.out (by kernel_rfl)) (fun _ _ _ h => h) (Or.inl ⟨by rfl, ?_⟩) ?_ ?_
      rotate_left
      ·
       intro w'
       go_simp
       with_reducible rfl
      rotate_left
      ·
       simp only [Act.put, List.setIfInBounds_toArray, List.set_cons_zero, List.set_cons_succ, i64_w, i32_w]
       rfl
      refine pure_ (i := 6) (N := some 27) (v := ?_) (a' := ?_) #[true, true, true, true, true, true, true, false, false, false, false] rfl rfl (any_of HT_.out (by kernel_rfl)) (fun _ _ _ h => h) (Or.inl ⟨by rfl, ?_⟩) ?_ ?_
      rotate_left
      ·
       intro w'
       go_simp
       with_reducible rfl
      rotate_left
      ·
       simp only [Act.put, List.setIfInBounds_toArray, List.set_cons_zero, List.set_cons_succ, i64_w, i32_w]
       rfl
      refine pure_ (i := 7) (N := some 28) (v := ?_) (a' := ?_) #[true, true, true, true, true, true, true, true, false, false, false] rfl rfl (any_of HT_.out (by kernel_rfl)) (fun _ _ _ h => h) (Or.inl ⟨by rfl, ?_⟩) ?_ ?_
      rotate_left
      ·
       intro w'
       go_simp
       with_reducible rfl
      rotate_left
      ·
       simp only [Act.put, List.setIfInBounds_toArray, List.set_cons_zero, List.set_cons_succ, i64_w, i32_w]
       rfl
      refine one_ (i := 8) (N := some 6) #[true, true, true, true, true, true, true, true, true, false, false] rfl rfl (one_of HT_.out (by kernel_rfl)) (by decide) (fun K hK => ?_)
      refine box_step ?hg (N := 6) ?hd (cs := #[.int .i64 0, .int .i64 0, .int .i64 0, .slice none 0 0]) (t := 33) ?hr ?_; (case hd => rfl); (case hg => rfl); (case hr => first | (go_simp; done) | (go_simp; rfl))
      intro gb211 hg w27 hbox hb
      have n0_ := A_ (Kd.R_below (rq HO203) hb)
      have n1_ := A_ (Kd.R_below (rq HO209) hb)
      have n2_ := A_ (blk_below (bq BK193) hb)
      have n3_ := A_ (blk_below (bq BK194) hb)
      have n4_ := A_ (below_step (hq HB) hb)
      have n5_ := A_ (hbox)
      have n6_ := A_ ((by rw [hg]; exact (below_size (hq HB)) : w.heap.size ≤ gb211))
      have n7_ := A_ ((by rw [hg]; exact (below_size (hq HB)) : w.heap.size ≤ gb211))
      have n8_ := A_ ((by rw [hg]; exact Nat.ne_of_lt (blk_lt (bq BK193)) : gb193 ≠ gb211))
      have n9_ := A_ ((by rw [hg]; exact Nat.ne_of_gt (blk_lt (bq BK193)) : gb211 ≠ gb193))
      have n10_ := A_ ((by rw [hg]; exact Nat.ne_of_lt (blk_lt (bq BK194)) : gb194 ≠ gb211))
      have n11_ := A_ ((by rw [hg]; exact Nat.ne_of_gt (blk_lt (bq BK194)) : gb211 ≠ gb194))
      clear HO203 HO209 BK193 BK194 HB; have HO203 := n0_; have HO209 := n1_; have BK193 := n2_; have BK194 := n3_; have HB := n4_; have BK211 := n5_; have GW211 := n6_; have GE211 := n7_; have NB193_211 := n8_; have NB211_193 := n9_; have NB194_211 := n10_; have NB211_194 := n11_; clear n0_ n1_ n2_ n3_ n4_ n5_ n6_ n7_ n8_ n9_ n10_ n11_ hb hbox hg
      refine hK.out _ _ ⟨bc BK193 0, bc BK193 1, bc BK194 0, bc BK194 1, bc BK194 2, bc BK194 3⟩ (fun hHeld => ?_)
      clear hK K
      refine norm_ (a' := ?_) ?_ ?_
      rotate_left
      ·
       show Act.put _ (some 6) _ = _
       simp only [Act.put, List.setIfInBounds_toArray, List.set_cons_zero, List.set_cons_succ, i64_w, i32_w]
       rfl
      exact norm_ (by simp only [putAll, Act.put, List.setIfInBounds_toArray, List.set_cons_zero, List.set_cons_succ]) (hCont (.slice Ao25 t201.length co25, v208, gb211) _ ⟨hHeld, (by (with_reducible repeat (first | apply Kd.R_alloc | apply Kd.R_drewN | apply Kd.R_drew)); exact Kd.R_mono HO203.out (fun _ => cj)), (by (with_reducible repeat (first | apply Kd.R_alloc | apply Kd.R_drewN | apply Kd.R_drew)); exact Kd.R_mono HO209.out (fun _ => cj)), (bq BK193), (bq BK194), (bq BK211), GW211.out, GE211.out, NB193_211.out, NB211_193.out, NB194_211.out, NB211_194.out, (hq HB)⟩)
     ·
      refine box_step ?hg (N := 6) ?hd (cs := #[.int .i64 0, .int .i64 0, .int .i64 0, .slice none 0 0]) (t := 33) ?hr ?_; (case hd => rfl); (case hg => rfl); (case hr => first | (go_simp; done) | (go_simp; rfl))
      intro gb211 hg w25 hbox hb
      have n0_ := A_ (Kd.R_below (rq HO203) hb)
      have n1_ := A_ (blk_below (bq BK193) hb)
      have n2_ := A_ (blk_below (bq BK194) hb)
      have n3_ := A_ (below_step (hq HB) hb)
      have n4_ := A_ (hbox)
      have n5_ := A_ ((by rw [hg]; exact (below_size (hq HB)) : w.heap.size ≤ gb211))
      have n6_ := A_ ((by rw [hg]; exact (below_size (hq HB)) : w.heap.size ≤ gb211))
      have n7_ := A_ ((by rw [hg]; exact Nat.ne_of_lt (blk_lt (bq BK193)) : gb193 ≠ gb211))
      have n8_ := A_ ((by rw [hg]; exact Nat.ne_of_gt (blk_lt (bq BK193)) : gb211 ≠ gb193))
      have n9_ := A_ ((by rw [hg]; exact Nat.ne_of_lt (blk_lt (bq BK194)) : gb194 ≠ gb211))
      have n10_ := A_ ((by rw [hg]; exact Nat.ne_of_gt (blk_lt (bq BK194)) : gb211 ≠ gb194))
      clear HO203 BK193 BK194 HB; have HO203 := n0_; have BK193 := n1_; have BK194 := n2_; have HB := n3_; have BK211 := n4_; have GW211 := n5_; have GE211 := n6_; have NB193_211 := n7_; have NB211_193 := n8_; have NB194_211 := n9_; have NB211_194 := n10_; clear n0_ n1_ n2_ n3_ n4_ n5_ n6_ n7_ n8_ n9_ n10_ hb hbox hg
      obtain ⟨Ao26, co26, eo26⟩ := Kd.R_slice HO203.out
      (first | subst eo26 | (injection eo26 with f1_ f2_ f3_; have f4_ := f1_.symm; have f5_ := f3_.symm; clear f1_ f2_ f3_; subst f4_; subst f5_))
      refine hK.out _ _ ⟨bc BK193 0, bc BK193 1, bc BK194 0, bc BK194 1, bc BK194 2, bc BK194 3⟩ (fun hHeld => ?_)
      clear hK K
      refine norm_ (a' := ?_) ?_ ?_
      rotate_left
      ·
       show Act.put _ (some 6) _ = _
       simp only [Act.put, List.setIfInBounds_toArray, List.set_cons_zero, List.set_cons_succ, i64_w, i32_w]
       rfl
      refine one_ (i := 4) (N := some 26) #[true, true, true, true, true, false, false, false, true, false, false] rfl rfl (one_of HT_.out (by kernel_rfl)) (by decide) (fun K hK => ?_)
      refine goes_ Try.func20 (by kernel_rfl) rfl #[.agg #[.int .i64 t196, .bool t197], .agg #[.int .i64 t198, .int .i64 t199, .int .i64 t200, .slice Ao26 t201.length co26]] (by rfl) rfl rfl gq ?_
      with_reducible refine (spec_MirrorWalker.calls k t196 t197 t198 t199 t200 _ _ t201 t204 t205 t206 t207 t210 _ ?side1 ?side2 A12.out).mono ?_
      (case side1 => repeat (first | exact (Kd.R_reads' HO203.out).2.2 | (with_reducible refine Kd.C_alloc ?_ _) | (with_reducible refine Kd.C_drewN ?_ _) | (with_reducible refine Kd.C_drew ?_)))
      (case side2 => exact (Kd.R_reads' HO203.out).2.1)
      rintro e w27 ⟨v208, rfl, ho0, hb⟩
      refine ⟨_, rfl, ?_⟩
      have n0_ := A_ (Kd.R_elder' (rq HO203) (Kd.R_base ho0) hb)
      have n1_ := A_ (Kd.R_lower (Kd.R_new' ho0 (Kd.R_lt (rq HO203))) (below_size (hq HB)))
      have n2_ := A_ (blk_below (bq BK193) hb)
      have n3_ := A_ (blk_below (bq BK194) hb)
      have n4_ := A_ (blk_below (bq BK211) hb)
      have n5_ := A_ (below_step (hq HB) hb)
      clear HO203 BK193 BK194 BK211 HB; have HO203 := n0_; have HO209 := n1_; have BK193 := n2_; have BK194 := n3_; have BK211 := n4_; have HB := n5_; clear n0_ n1_ n2_ n3_ n4_ n5_; (try clear hb); (try clear hb2); (try clear hk); (try clear hi); (try clear ho0)
      refine hK.out _ _ ⟨bc BK193 0, bc BK193 1, bc BK194 0, bc BK194 1, bc BK194 2, bc BK194 3⟩ (fun hHeld => ?_)
      clear hK K
      refine norm_ (a' := ?_) ?_ ?_
      rotate_left
      ·
       show Act.put _ (some 26) _ = _
       simp only [Act.put, List.setIfInBounds_toArray, List.set_cons_zero, List.set_cons_succ, i64_w, i32_w]
       rfl
      refine pure_ (i := 5) (N := some 21) (v := ?_) (a' := ?_) #[true, true, true, true, true, true, false, false, true, false, false] rfl rfl (any_of HT_.out (by kernel_rfl)) (fun _ _ _ h => h) (Or.inl ⟨by rfl, ?_⟩) ?_ ?_
      rotate_left
      ·
       intro w'
       go_simp
       with_reducible rfl
      rotate_left
      ·
       simp only [Act.put, List.setIfInBounds_toArray, List.set_cons_zero, List.set_cons_succ, i64_w, i32_w]
       rfl
      refine pure_ (i := 6) (N := some 27) (v := ?_) (a' := ?_) #[true, true, true, true, true, true, true, false, true, false, false] rfl rfl (any_of HT_.out (by kernel_rfl)) (fun _ _ _ h => h) (Or.inl ⟨by rfl, ?_⟩) ?_ ?_
      rotate_left
      ·
       intro w'
       go_simp
       with_reducible rfl
      rotate_left
      ·
       simp only [Act.put, List.setIfInBounds_toArray, List.set_cons_zero, List.set_cons_succ, i64_w, i32_w]
       rfl
      refine pure_ (i := 7) (N := some 28) (v := ?_) (a' := ?_) #[true, true, true, true, true, true, true, true, true, false, false] rfl rfl (any_of HT_.out (by kernel_rfl)) (fun _ _ _ h => h) (Or.inl ⟨by rfl, ?_⟩) ?_ ?_
      rotate_left
      ·
       intro w'
       go_simp
       with_reducible rfl
      rotate_left
      ·
       simp only [Act.put, List.setIfInBounds_toArray, List.set_cons_zero, List.set_cons_succ, i64_w, i32_w]
       rfl
      exact norm_ (by simp only [putAll, Act.put, List.setIfInBounds_toArray, List.set_cons_zero, List.set_cons_succ]) (hCont (.slice Ao26 t201.length co26, v208, gb211) _ ⟨hHeld, (by (with_reducible repeat (first | apply Kd.R_alloc | apply Kd.R_drewN | apply Kd.R_drew)); exact Kd.R_mono HO203.out (fun _ => cj)), (by (with_reducible repeat (first | apply Kd.R_alloc | apply Kd.R_drewN | apply Kd.R_drew)); exact Kd.R_mono HO209.out (fun _ => cj)), (bq BK193), (bq BK194), (bq BK211), GW211.out, GE211.out, NB193_211.out, NB211_193.out, NB194_211.out, NB211_194.out, (hq HB)⟩)
    ·
     refine box_step ?hg (N := 6) ?hd (cs := #[.int .i64 0, .int .i64 0, .int .i64 0, .slice none 0 0]) (t := 33) ?hr ?_; (case hd => rfl); (case hg => rfl); (case hr => first | (go_simp; done) | (go_simp; rfl))
     intro gb211 hg w24 hbox hb
     have n0_ := A_ (blk_below (bq BK193) hb)
     have n1_ := A_ (blk_below (bq BK194) hb)
     have n2_ := A_ (below_step (hq HB) hb)
     have n3_ := A_ (hbox)
     have n4_ := A_ ((by rw [hg]; exact (below_size (hq HB)) : w.heap.size ≤ gb211))
     have n5_ := A_ ((by rw [hg]; exact (below_size (hq HB)) : w.heap.size ≤ gb211))
     have n6_ := A_ ((by rw [hg]; exact Nat.ne_of_lt (blk_lt (bq BK193)) : gb193 ≠ gb211))
     have n7_ := A_ ((by rw [hg]; exact Nat.ne_of_gt (blk_lt (bq BK193)) : gb211 ≠ gb193))
     have n8_ := A_ ((by rw [hg]; exact Nat.ne_of_lt (blk_lt (bq BK194)) : gb194 ≠ gb211))
     have n9_ := A_ ((by rw [hg]; exact Nat.ne_of_gt (blk_lt (bq BK194)) : gb211 ≠ gb194))
     clear BK193 BK194 HB; have BK193 := n0_; have BK194 := n1_; have HB := n2_; have BK211 := n3_; have GW211 := n4_; have GE211 := n5_; have NB193_211 := n6_; have NB211_193 := n7_; have NB194_211 := n8_; have NB211_194 := n9_; clear n0_ n1_ n2_ n3_ n4_ n5_ n6_ n7_ n8_ n9_ hb hbox hg
     refine hK.out _ _ ⟨bc BK193 0, bc BK193 1, bc BK194 0, bc BK194 1, bc BK194 2, bc BK194 3⟩ (fun hHeld => ?_)
     clear hK K
     refine norm_ (a' := ?_) ?_ ?_
     rotate_left
     ·
      show Act.put _ (some 6) _ = _
      simp only [Act.put, List.setIfInBounds_toArray, List.set_cons_zero, List.set_cons_succ, i64_w, i32_w]
      rfl
     refine one_ (i := 3) (N := some 25) #[true, true, true, true, false, false, false, false, true, false, false] rfl rfl (one_of HT_.out (by kernel_rfl)) (by decide) (fun K hK => ?_)
     refine goes_ Try.func13 (by kernel_rfl) rfl #[.agg #[.int .i64 a1_0, .int .i64 a1_1, .int .i64 a1_2, .slice A1_3 l1_3.length c1_3]] (by rfl) rfl rfl gq ?_
     with_reducible refine (laws_toWalker.calls k a1_0 a1_1 a1_2 _ _ l1_3 t198 t199 t200 t201 _ ?side1 ?side2 A11.out).mono ?_
     (case side1 => repeat (first | exact (Kd.C_below HR1_3.out HB.out) | (with_reducible refine Kd.C_alloc ?_ _) | (with_reducible refine Kd.C_drewN ?_ _) | (with_reducible refine Kd.C_drew ?_)))
     (case side2 => exact HC1_3.out)
     rintro e w25 ⟨v202, rfl, ho0, hb⟩
     refine ⟨_, rfl, ?_⟩
     have n0_ := A_ (Kd.R_lower ho0 (below_size (hq HB)))
     have n1_ := A_ (blk_below (bq BK193) hb)
     have n2_ := A_ (blk_below (bq BK194) hb)
     have n3_ := A_ (blk_below (bq BK211) hb)
     have n4_ := A_ (below_step (hq HB) hb)
     clear BK193 BK194 BK211 HB; have HO203 := n0_; have BK193 := n1_; have BK194 := n2_; have BK211 := n3_; have HB := n4_; clear n0_ n1_ n2_ n3_ n4_; (try clear hb); (try clear hb2); (try clear hk); (try clear hi); (try clear ho0)
     obtain ⟨Ao26, co26, eo26⟩ := Kd.R_slice HO203.out
     (first | subst eo26 | (injection eo26 with f1_ f2_ f3_; have f4_ := f1_.symm; have f5_ := f3_.symm; clear f1_ f2_ f3_; subst f4_; subst f5_))
     refine hK.out _ _ ⟨bc BK193 0, bc BK193 1, bc BK194 0, bc BK194 1, bc BK194 2, bc BK194 3⟩ (fun hHeld => ?_)
     clear hK K
     refine norm_ (a' := ?_) ?_ ?_
     rotate_left
     ·
      show Act.put _ (some 25) _ = _
      simp only [Act.put, List.setIfInBounds_toArray, List.set_cons_zero, List.set_cons_succ, i64_w, i32_w]
      rfl
     refine one_ (i := 4) (N := some 26) #[true, true, true, true, true, false, false, false, true, false, false] rfl rfl (one_of HT_.out (by kernel_rfl)) (by decide) (fun K hK => ?_)
     refine goes_ Try.func20 (by kernel_rfl) rfl #[.agg #[.int .i64 t196, .bool t197], .agg #[.int .i64 t198, .int .i64 t199, .int .i64 t200, .slice Ao26 t201.length co26]] (by rfl) rfl rfl gq ?_
     with_reducible refine (spec_MirrorWalker.calls k t196 t197 t198 t199 t200 _ _ t201 t204 t205 t206 t207 t210 _ ?side1 ?side2 A12.out).mono ?_
     (case side1 => repeat (first | exact (Kd.R_reads' HO203.out).2.2 | (with_reducible refine Kd.C_alloc ?_ _) | (with_reducible refine Kd.C_drewN ?_ _) | (with_reducible refine Kd.C_drew ?_)))
     (case side2 => exact (Kd.R_reads' HO203.out).2.1)
     rintro e w27 ⟨v208, rfl, ho0, hb⟩
     refine ⟨_, rfl, ?_⟩
     have n0_ := A_ (Kd.R_elder' (rq HO203) (Kd.R_base ho0) hb)
     have n1_ := A_ (Kd.R_lower (Kd.R_new' ho0 (Kd.R_lt (rq HO203))) (below_size (hq HB)))
     have n2_ := A_ (blk_below (bq BK193) hb)
     have n3_ := A_ (blk_below (bq BK194) hb)
     have n4_ := A_ (blk_below (bq BK211) hb)
     have n5_ := A_ (below_step (hq HB) hb)
     clear HO203 BK193 BK194 BK211 HB; have HO203 := n0_; have HO209 := n1_; have BK193 := n2_; have BK194 := n3_; have BK211 := n4_; have HB := n5_; clear n0_ n1_ n2_ n3_ n4_ n5_; (try clear hb); (try clear hb2); (try clear hk); (try clear hi); (try clear ho0)
     refine hK.out _ _ ⟨bc BK193 0, bc BK193 1, bc BK194 0, bc BK194 1, bc BK194 2, bc BK194 3⟩ (fun hHeld => ?_)
     clear hK K
     refine norm_ (a' := ?_) ?_ ?_
     rotate_left
     ·
      show Act.put _ (some 26) _ = _
      simp only [Act.put, List.setIfInBounds_toArray, List.set_cons_zero, List.set_cons_succ, i64_w, i32_w]
      rfl
     refine pure_ (i := 5) (N := some 21) (v := ?_) (a' := ?_) #[true, true, true, true, true, true, false, false, true, false, false] rfl rfl (any_of HT_.out (by kernel_rfl)) (fun _ _ _ h => h) (Or.inl ⟨by rfl, ?_⟩) ?_ ?_
     rotate_left
     ·
      intro w'
      go_simp
      with_reducible rfl
     rotate_left
     ·
      simp only [Act.put, List.setIfInBounds_toArray, List.set_cons_zero, List.set_cons_succ, i64_w, i32_w]
      rfl
     refine pure_ (i := 6) (N := some 27) (v := ?_) (a' := ?_) #[true, true, true, true, true, true, true, false, true, false, false] rfl rfl (any_of HT_.out (by kernel_rfl)) (fun _ _ _ h => h) (Or.inl ⟨by rfl, ?_⟩) ?_ ?_
     rotate_left
     ·
      intro w'
      go_simp
      with_reducible rfl
     rotate_left
     ·
      simp only [Act.put, List.setIfInBounds_toArray, List.set_cons_zero, List.set_cons_succ, i64_w, i32_w]
      rfl
     refine pure_ (i := 7) (N := some 28) (v := ?_) (a' := ?_) #[true, true, true, true, true, true, true, true, true, false, false] rfl rfl (any_of HT_.out (by kernel_rfl)) (fun _ _ _ h => h) (Or.inl ⟨by rfl, ?_⟩) ?_ ?_
     rotate_left
     ·
      intro w'
      go_simp
      with_reducible rfl
     rotate_left
     ·
      simp only [Act.put, List.setIfInBounds_toArray, List.set_cons_zero, List.set_cons_succ, i64_w, i32_w]
      rfl
     exact norm_ (by simp only [putAll, Act.put, List.setIfInBounds_toArray, List.set_cons_zero, List.set_cons_succ]) (hCont (.slice Ao26 t201.length co26, v208, gb211) _ ⟨hHeld, (by (with_reducible repeat (first | apply Kd.R_alloc | apply Kd.R_drewN | apply Kd.R_drew)); exact Kd.R_mono HO203.out (fun _ => cj)), (by (with_reducible repeat (first | apply Kd.R_alloc | apply Kd.R_drewN | apply Kd.R_drew)); exact Kd.R_mono HO209.out (fun _ => cj)), (bq BK193), (bq BK194), (bq BK211), GW211.out, GE211.out, NB193_211.out, NB211_193.out, NB194_211.out, NB211_194.out, (hq HB)⟩)
   ·
    refine box_step ?hg (N := 6) ?hd (cs := #[.int .i64 0, .int .i64 0, .int .i64 0, .slice none 0 0]) (t := 33) ?hr ?_; (case hd => rfl); (case hg => rfl); (case hr => first | (go_simp; done) | (go_simp; rfl))
    intro gb211 hg w23 hbox hb
    have n0_ := A_ (blk_below (bq BK193) hb)
    have n1_ := A_ (blk_below (bq BK194) hb)
    have n2_ := A_ (below_step (hq HB) hb)
    have n3_ := A_ (hbox)
    have n4_ := A_ ((by rw [hg]; exact (below_size (hq HB)) : w.heap.size ≤ gb211))
    have n5_ := A_ ((by rw [hg]; exact (below_size (hq HB)) : w.heap.size ≤ gb211))
    have n6_ := A_ ((by rw [hg]; exact Nat.ne_of_lt (blk_lt (bq BK193)) : gb193 ≠ gb211))
    have n7_ := A_ ((by rw [hg]; exact Nat.ne_of_gt (blk_lt (bq BK193)) : gb211 ≠ gb193))
    have n8_ := A_ ((by rw [hg]; exact Nat.ne_of_lt (blk_lt (bq BK194)) : gb194 ≠ gb211))
    have n9_ := A_ ((by rw [hg]; exact Nat.ne_of_gt (blk_lt (bq BK194)) : gb211 ≠ gb194))
    clear BK193 BK194 HB; have BK193 := n0_; have BK194 := n1_; have HB := n2_; have BK211 := n3_; have GW211 := n4_; have GE211 := n5_; have NB193_211 := n6_; have NB211_193 := n7_; have NB194_211 := n8_; have NB211_194 := n9_; clear n0_ n1_ n2_ n3_ n4_ n5_ n6_ n7_ n8_ n9_ hb hbox hg
    refine hK.out _ _ ⟨bc BK193 0, bc BK193 1, bc BK194 0, bc BK194 1, bc BK194 2, bc BK194 3⟩ (fun hHeld => ?_)
    clear hK K
    refine norm_ (a' := ?_) ?_ ?_
    rotate_left
    ·
     show Act.put _ (some 6) _ = _
     simp only [Act.put, List.setIfInBounds_toArray, List.set_cons_zero, List.set_cons_succ, i64_w, i32_w]
     rfl
    refine one_ (i := 1) (N := some 23) #[true, true, true, false, false, false, false, false, true, false, false] rfl rfl (one_of HT_.out (by kernel_rfl)) (by decide) (fun K hK => ?_)
    refine goes_ Try.func12 (by kernel_rfl) rfl #[.agg #[.int .i64 a0_0, .bool a0_1]] (by rfl) rfl rfl gq ?_
    with_reducible refine (laws_toRoad.calls a0_0 a0_1 t196 t197 _ A10.out).mono ?_
    rintro e w24 ⟨rfl, hb⟩
    refine ⟨_, rfl, ?_⟩
    have n0_ := A_ (blk_below (bq BK193) hb)
    have n1_ := A_ (blk_below (bq BK194) hb)
    have n2_ := A_ (blk_below (bq BK211) hb)
    have n3_ := A_ (below_step (hq HB) hb)
    clear BK193 BK194 BK211 HB; have BK193 := n0_; have BK194 := n1_; have BK211 := n2_; have HB := n3_; clear n0_ n1_ n2_ n3_; (try clear hb); (try clear hb2); (try clear hk); (try clear hi)
    refine hK.out _ _ ⟨bc BK193 0, bc BK193 1, bc BK194 0, bc BK194 1, bc BK194 2, bc BK194 3⟩ (fun hHeld => ?_)
    clear hK K
    refine norm_ (a' := ?_) ?_ ?_
    rotate_left
    ·
     show Act.put _ (some 23) _ = _
     simp only [Act.put, List.setIfInBounds_toArray, List.set_cons_zero, List.set_cons_succ, i64_w, i32_w]
     rfl
    refine one_ (i := 3) (N := some 25) #[true, true, true, true, false, false, false, false, true, false, false] rfl rfl (one_of HT_.out (by kernel_rfl)) (by decide) (fun K hK => ?_)
    refine goes_ Try.func13 (by kernel_rfl) rfl #[.agg #[.int .i64 a1_0, .int .i64 a1_1, .int .i64 a1_2, .slice A1_3 l1_3.length c1_3]] (by rfl) rfl rfl gq ?_
    with_reducible refine (laws_toWalker.calls k a1_0 a1_1 a1_2 _ _ l1_3 t198 t199 t200 t201 _ ?side1 ?side2 A11.out).mono ?_
    (case side1 => repeat (first | exact (Kd.C_below HR1_3.out HB.out) | (with_reducible refine Kd.C_alloc ?_ _) | (with_reducible refine Kd.C_drewN ?_ _) | (with_reducible refine Kd.C_drew ?_)))
    (case side2 => exact HC1_3.out)
    rintro e w25 ⟨v202, rfl, ho0, hb⟩
    refine ⟨_, rfl, ?_⟩
    have n0_ := A_ (Kd.R_lower ho0 (below_size (hq HB)))
    have n1_ := A_ (blk_below (bq BK193) hb)
    have n2_ := A_ (blk_below (bq BK194) hb)
    have n3_ := A_ (blk_below (bq BK211) hb)
    have n4_ := A_ (below_step (hq HB) hb)
    clear BK193 BK194 BK211 HB; have HO203 := n0_; have BK193 := n1_; have BK194 := n2_; have BK211 := n3_; have HB := n4_; clear n0_ n1_ n2_ n3_ n4_; (try clear hb); (try clear hb2); (try clear hk); (try clear hi); (try clear ho0)
    obtain ⟨Ao26, co26, eo26⟩ := Kd.R_slice HO203.out
    (first | subst eo26 | (injection eo26 with f1_ f2_ f3_; have f4_ := f1_.symm; have f5_ := f3_.symm; clear f1_ f2_ f3_; subst f4_; subst f5_))
    refine hK.out _ _ ⟨bc BK193 0, bc BK193 1, bc BK194 0, bc BK194 1, bc BK194 2, bc BK194 3⟩ (fun hHeld => ?_)
    clear hK K
    refine norm_ (a' := ?_) ?_ ?_
    rotate_left
    ·
     show Act.put _ (some 25) _ = _
     simp only [Act.put, List.setIfInBounds_toArray, List.set_cons_zero, List.set_cons_succ, i64_w, i32_w]
     rfl
    refine one_ (i := 4) (N := some 26) #[true, true, true, true, true, false, false, false, true, false, false] rfl rfl (one_of HT_.out (by kernel_rfl)) (by decide) (fun K hK => ?_)
    refine goes_ Try.func20 (by kernel_rfl) rfl #[.agg #[.int .i64 t196, .bool t197], .agg #[.int .i64 t198, .int .i64 t199, .int .i64 t200, .slice Ao26 t201.length co26]] (by rfl) rfl rfl gq ?_
    with_reducible refine (spec_MirrorWalker.calls k t196 t197 t198 t199 t200 _ _ t201 t204 t205 t206 t207 t210 _ ?side1 ?side2 A12.out).mono ?_
    (case side1 => repeat (first | exact (Kd.R_reads' HO203.out).2.2 | (with_reducible refine Kd.C_alloc ?_ _) | (with_reducible refine Kd.C_drewN ?_ _) | (with_reducible refine Kd.C_drew ?_)))
    (case side2 => exact (Kd.R_reads' HO203.out).2.1)
    rintro e w27 ⟨v208, rfl, ho0, hb⟩
    refine ⟨_, rfl, ?_⟩
    have n0_ := A_ (Kd.R_elder' (rq HO203) (Kd.R_base ho0) hb)
    have n1_ := A_ (Kd.R_lower (Kd.R_new' ho0 (Kd.R_lt (rq HO203))) (below_size (hq HB)))
    have n2_ := A_ (blk_below (bq BK193) hb)
    have n3_ := A_ (blk_below (bq BK194) hb)
    have n4_ := A_ (blk_below (bq BK211) hb)
    have n5_ := A_ (below_step (hq HB) hb)
    clear HO203 BK193 BK194 BK211 HB; have HO203 := n0_; have HO209 := n1_; have BK193 := n2_; have BK194 := n3_; have BK211 := n4_; have HB := n5_; clear n0_ n1_ n2_ n3_ n4_ n5_; (try clear hb); (try clear hb2); (try clear hk); (try clear hi); (try clear ho0)
    refine hK.out _ _ ⟨bc BK193 0, bc BK193 1, bc BK194 0, bc BK194 1, bc BK194 2, bc BK194 3⟩ (fun hHeld => ?_)
    clear hK K
    refine norm_ (a' := ?_) ?_ ?_
    rotate_left
    ·
     show Act.put _ (some 26) _ = _
     simp only [Act.put, List.setIfInBounds_toArray, List.set_cons_zero, List.set_cons_succ, i64_w, i32_w]
     rfl
    refine pure_ (i := 5) (N := some 21) (v := ?_) (a' := ?_) #[true, true, true, true, true, true, false, false, true, false, false] rfl rfl (any_of HT_.out (by kernel_rfl)) (fun _ _ _ h => h) (Or.inl ⟨by rfl, ?_⟩) ?_ ?_
    rotate_left
    ·
     intro w'
     go_simp
     with_reducible rfl
    rotate_left
    ·
     simp only [Act.put, List.setIfInBounds_toArray, List.set_cons_zero, List.set_cons_succ, i64_w, i32_w]
     rfl
    refine pure_ (i := 6) (N := some 27) (v := ?_) (a' := ?_) #[true, true, true, true, true, true, true, false, true, false, false] rfl rfl (any_of HT_.out (by kernel_rfl)) (fun _ _ _ h => h) (Or.inl ⟨by rfl, ?_⟩) ?_ ?_
    rotate_left
    ·
     intro w'
     go_simp
     with_reducible rfl
    rotate_left
    ·
     simp only [Act.put, List.setIfInBounds_toArray, List.set_cons_zero, List.set_cons_succ, i64_w, i32_w]
     rfl
    refine pure_ (i := 7) (N := some 28) (v := ?_) (a' := ?_) #[true, true, true, true, true, true, true, true, true, false, false] rfl rfl (any_of HT_.out (by kernel_rfl)) (fun _ _ _ h => h) (Or.inl ⟨by rfl, ?_⟩) ?_ ?_
    rotate_left
    ·
     intro w'
     go_simp
     with_reducible rfl
    rotate_left
    ·
     simp only [Act.put, List.setIfInBounds_toArray, List.set_cons_zero, List.set_cons_succ, i64_w, i32_w]
     rfl
    exact norm_ (by simp only [putAll, Act.put, List.setIfInBounds_toArray, List.set_cons_zero, List.set_cons_succ]) (hCont (.slice Ao26 t201.length co26, v208, gb211) _ ⟨hHeld, (by (with_reducible repeat (first | apply Kd.R_alloc | apply Kd.R_drewN | apply Kd.R_drew)); exact Kd.R_mono HO203.out (fun _ => cj)), (by (with_reducible repeat (first | apply Kd.R_alloc | apply Kd.R_drewN | apply Kd.R_drew)); exact Kd.R_mono HO209.out (fun _ => cj)), (bq BK193), (bq BK194), (bq BK211), GW211.out, GE211.out, NB193_211.out, NB211_193.out, NB194_211.out, NB211_194.out, (hq HB)⟩)
  rintro ⟨v202, v208, gb211⟩ w28 ⟨hS_, h0_, h1_, h2_, h3_, h4_, h5_, h6_, h7_, h8_, h9_, h10_, h11_⟩
  have n0_ : Aside0 (Kd.R (Kd.int .i64) 3 w28 w.heap.size (fun k_ => some k_ ≠ (v208 : Value).ownBlock) v202 t201) := ⟨h0_⟩
  have n1_ : Aside0 (Kd.R (Kd.int .i64) 3 w28 w.heap.size (fun k_ => some k_ ≠ (v202 : Value).ownBlock) v208 t207) := ⟨h1_⟩
  have n2_ : Aside0 (w28.heap[gb193]? = some (.cells #[.int .i64 a0_0, .bool a0_1] 23 (0, 0))) := ⟨h2_⟩
  have n3_ : Aside0 (w28.heap[gb194]? = some (.cells #[.int .i64 a1_0, .int .i64 a1_1, .int .i64 a1_2, .slice A1_3 l1_3.length c1_3] 26 (0, 0))) := ⟨h3_⟩
  have n4_ : Aside0 (w28.heap[gb211]? = some (.cells #[.int .i64 0, .int .i64 0, .int .i64 0, .slice none 0 0] 33 (0, 0))) := ⟨h4_⟩
  have n5_ : Aside0 (w.heap.size ≤ gb211) := ⟨h5_⟩
  have n6_ : Aside0 (w.heap.size ≤ gb211) := ⟨h6_⟩
  have n7_ : Aside0 (gb193 ≠ gb211) := ⟨h7_⟩
  have n8_ : Aside0 (gb211 ≠ gb193) := ⟨h8_⟩
  have n9_ : Aside0 (gb194 ≠ gb211) := ⟨h9_⟩
  have n10_ : Aside0 (gb211 ≠ gb194) := ⟨h10_⟩
  have n11_ : Aside0 (Below w.heap.size w w28) := ⟨h11_⟩
  clear BK193 BK194 HB h0_ h1_ h2_ h3_ h4_ h5_ h6_ h7_ h8_ h9_ h10_ h11_; have HO203 := n0_; have HO209 := n1_; have BK193 := n2_; have BK194 := n3_; have BK211 := n4_; have GW211 := n5_; have GE211 := n6_; have NB193_211 := n7_; have NB211_193 := n8_; have NB194_211 := n9_; have NB211_194 := n10_; have HB := n11_; clear n0_ n1_ n2_ n3_ n4_ n5_ n6_ n7_ n8_ n9_ n10_ n11_
  have hHeld : w28.cell? ⟨gb193, 0, none⟩ = some (.int .i64 a0_0) ∧ w28.cell? ⟨gb193, 1, none⟩ = some (.bool a0_1) ∧ w28.cell? ⟨gb194, 0, none⟩ = some (.int .i64 a1_0) ∧ w28.cell? ⟨gb194, 1, none⟩ = some (.int .i64 a1_1) ∧ w28.cell? ⟨gb194, 2, none⟩ = some (.int .i64 a1_2) ∧ w28.cell? ⟨gb194, 3, none⟩ = some (.slice A1_3 l1_3.length c1_3) := hS_
  obtain ⟨Ao32, co32, eo32⟩ := Kd.R_slice HO209.out
  (first | subst eo32 | (injection eo32 with f1_ f2_ f3_; have f4_ := f1_.symm; have f5_ := f3_.symm; clear f1_ f2_ f3_; subst f4_; subst f5_))
  refine norm_ (a' := ?_) ?_ ?_
  rotate_left
  ·
   simp only [putAll, Act.put, List.setIfInBounds_toArray, List.set_cons_zero, List.set_cons_succ]
   rfl
  refine one_ (i := 9) (N := none) #[true, true, true, true, true, true, true, true, true, true, false] rfl rfl (one_of HT_.out (by kernel_rfl)) (by decide) (fun K hK => ?_)
  have hs29 : w28.cell? ⟨gb211, 0, none⟩ = some (.int .i64 0) := bc BK211 0
  have hfs29 := blk_frozen BK211.out 0
  have hns29_0 := NB193_211.out
  have hns29_1 := NB194_211.out
  have hms29_0 := NB211_193.out
  have hms29_1 := NB211_194.out
  have hs30 : w28.cell? ⟨gb211, 1, none⟩ = some (.int .i64 0) := bc BK211 1
  have hfs30 := blk_frozen BK211.out 1
  have hns30_0 := NB193_211.out
  have hns30_1 := NB194_211.out
  have hms30_0 := NB211_193.out
  have hms30_1 := NB211_194.out
  have hs31 : w28.cell? ⟨gb211, 2, none⟩ = some (.int .i64 0) := bc BK211 2
  have hfs31 := blk_frozen BK211.out 2
  have hns31_0 := NB193_211.out
  have hns31_1 := NB194_211.out
  have hms31_0 := NB211_193.out
  have hms31_1 := NB211_194.out
  have hs33 : w28.cell? ⟨gb211, 3, none⟩ = some (.slice none 0 0) := bc BK211 3
  have hfs33 := blk_frozen BK211.out 3
  have hns33_0 := NB193_211.out
  have hns33_1 := NB194_211.out
  have hms33_0 := NB211_193.out
  have hms33_1 := NB211_194.out
  refine skip_ (w1 := ?_) (by rfl) rfl ?_ ?_
  rotate_left
  ·
   go_simp
   rfl
  refine hK.out _ _ ⟨((cell_far (p := ⟨gb211, _, none⟩) NB193_211.out _).trans (((cell_far (p := ⟨gb211, _, none⟩) NB193_211.out _).trans (((cell_far (p := ⟨gb211, _, none⟩) NB193_211.out _).trans (((cell_far (p := ⟨gb211, _, none⟩) NB193_211.out _).trans (hHeld.1)))))))), ((cell_far (p := ⟨gb211, _, none⟩) NB193_211.out _).trans (((cell_far (p := ⟨gb211, _, none⟩) NB193_211.out _).trans (((cell_far (p := ⟨gb211, _, none⟩) NB193_211.out _).trans (((cell_far (p := ⟨gb211, _, none⟩) NB193_211.out _).trans (hHeld.2.1)))))))), ((cell_far (p := ⟨gb211, _, none⟩) NB194_211.out _).trans (((cell_far (p := ⟨gb211, _, none⟩) NB194_211.out _).trans (((cell_far (p := ⟨gb211, _, none⟩) NB194_211.out _).trans (((cell_far (p := ⟨gb211, _, none⟩) NB194_211.out _).trans (hHeld.2.2.1)))))))), ((cell_far (p := ⟨gb211, _, none⟩) NB194_211.out _).trans (((cell_far (p := ⟨gb211, _, none⟩) NB194_211.out _).trans (((cell_far (p := ⟨gb211, _, none⟩) NB194_211.out _).trans (((cell_far (p := ⟨gb211, _, none⟩) NB194_211.out _).trans (hHeld.2.2.2.1)))))))), ((cell_far (p := ⟨gb211, _, none⟩) NB194_211.out _).trans (((cell_far (p := ⟨gb211, _, none⟩) NB194_211.out _).trans (((cell_far (p := ⟨gb211, _, none⟩) NB194_211.out _).trans (((cell_far (p := ⟨gb211, _, none⟩) NB194_211.out _).trans (hHeld.2.2.2.2.1)))))))), ((cell_far (p := ⟨gb211, _, none⟩) NB194_211.out _).trans (((cell_far (p := ⟨gb211, _, none⟩) NB194_211.out _).trans (((cell_far (p := ⟨gb211, _, none⟩) NB194_211.out _).trans (((cell_far (p := ⟨gb211, _, none⟩) NB194_211.out _).trans (hHeld.2.2.2.2.2))))))))⟩ (fun hHeld => ?_)
  clear hK K
  refine pure_ (i := 10) (N := some 7) (v := ?_) (a' := ?_) #[true, true, true, true, true, true, true, true, true, true, true] rfl rfl (any_of HT_.out (by kernel_rfl)) (fun _ _ _ h => h) (Or.inl ⟨by rfl, ?_⟩) ?_ ?_
  rotate_left
  ·
   intro w'
   go_simp
   with_reducible rfl
  rotate_left
  ·
   simp only [Act.put, List.setIfInBounds_toArray, List.set_cons_zero, List.set_cons_succ, i64_w, i32_w]
   rfl
  refine done_ (done_of HT_.out (by kernel_rfl)) ?_
  have hnb34 := NB194_211.out
  have hnc34 := NB211_194.out
  have hcz35_0 : w28.cell? ⟨gb194, 0, none⟩ = some (.int .i64 a1_0) := bc BK194 0
  have hcz35_1 : w28.cell? ⟨gb194, 1, none⟩ = some (.int .i64 a1_1) := bc BK194 1
  have hcz35_2 : w28.cell? ⟨gb194, 2, none⟩ = some (.int .i64 a1_2) := bc BK194 2
  have hcz35_3 : w28.cell? ⟨gb194, 3, none⟩ = some (.slice A1_3 l1_3.length c1_3) := bc BK194 3
  have hfz35_0 := blk_frozen BK194.out 0
  have hfz35_1 := blk_frozen BK194.out 1
  have hfz35_2 := blk_frozen BK194.out 2
  have hfz35_3 := blk_frozen BK194.out 3
  try go_wp2_with (first | ((with_reducible refine gate_callee (f := 13) rfl ?_); refine goesL_ (some 30) rfl rfl Try.func13 (by kernel_rfl) rfl #[.agg #[.int .i64 a1_0, .int .i64 a1_1, .int .i64 a1_2, .slice A1_3 l1_3.length c1_3]] rfl gq ?_; (with_reducible refine (laws_toWalker.calls k a1_0 a1_1 a1_2 _ _ l1_3 t212 t213 t214 t215 _ ?side1 ?side2 A13.out).mono ?_); (case side1 => exact Kd.C_below HR1_3.out (hq HB)); (case side2 => exact HC1_3.out); rintro e w36 ⟨v216, rfl, ho0, hb⟩; refine ⟨_, rfl, ?_⟩; have n0_ := A_ (Kd.R_elder' (by (with_reducible repeat (first | apply Kd.R_alloc | apply Kd.R_drewN | apply Kd.R_drew)); exact (Kd.R_mono (Kd.R_far (p := ⟨gb211, 3, none⟩) (Kd.R_far (p := ⟨gb211, 2, none⟩) (Kd.R_far (p := ⟨gb211, 1, none⟩) (Kd.R_far (p := ⟨gb211, 0, none⟩) (Kd.R_types HO203.out BK211.out (by decide)) (fun _ => cj) (.int .i64 t204)) (fun _ => cj) (.int .i64 t205)) (fun _ => cj) (.int .i64 t206)) (fun _ => cj) (.slice Ao32 t207.length co32)) (fun _ h_ => h_.1))) (Kd.R_base ho0) hb); have n1_ := A_ (Kd.R_elder' (by (with_reducible repeat (first | apply Kd.R_alloc | apply Kd.R_drewN | apply Kd.R_drew)); exact (Kd.R_mono (Kd.R_far (p := ⟨gb211, 3, none⟩) (Kd.R_far (p := ⟨gb211, 2, none⟩) (Kd.R_far (p := ⟨gb211, 1, none⟩) (Kd.R_far (p := ⟨gb211, 0, none⟩) (Kd.R_types HO209.out BK211.out (by decide)) (fun _ => cj) (.int .i64 t204)) (fun _ => cj) (.int .i64 t205)) (fun _ => cj) (.int .i64 t206)) (fun _ => cj) (.slice Ao32 t207.length co32)) (fun _ h_ => h_.1))) (Kd.R_base ho0) hb); have n2_ := A_ (Kd.R_lower (Kd.R_new' (Kd.R_new' ho0 (Kd.R_lt (by (with_reducible repeat (first | apply Kd.R_alloc | apply Kd.R_drewN | apply Kd.R_drew)); exact (Kd.R_mono (Kd.R_far (p := ⟨gb211, 3, none⟩) (Kd.R_far (p := ⟨gb211, 2, none⟩) (Kd.R_far (p := ⟨gb211, 1, none⟩) (Kd.R_far (p := ⟨gb211, 0, none⟩) (Kd.R_types HO203.out BK211.out (by decide)) (fun _ => cj) (.int .i64 t204)) (fun _ => cj) (.int .i64 t205)) (fun _ => cj) (.int .i64 t206)) (fun _ => cj) (.slice Ao32 t207.length co32)) (fun _ h_ => h_.1))))) (Kd.R_lt (by (with_reducible repeat (first | apply Kd.R_alloc | apply Kd.R_drewN | apply Kd.R_drew)); exact (Kd.R_mono (Kd.R_far (p := ⟨gb211, 3, none⟩) (Kd.R_far (p := ⟨gb211, 2, none⟩) (Kd.R_far (p := ⟨gb211, 1, none⟩) (Kd.R_far (p := ⟨gb211, 0, none⟩) (Kd.R_types HO209.out BK211.out (by decide)) (fun _ => cj) (.int .i64 t204)) (fun _ => cj) (.int .i64 t205)) (fun _ => cj) (.int .i64 t206)) (fun _ => cj) (.slice Ao32 t207.length co32)) (fun _ h_ => h_.1))))) (below_size (hq HB))); have n3_ := A_ (blk_below (g := gb193) (o := .cells #[.int .i64 a0_0, .bool a0_1] 23 (0, 0)) (by (with_reducible repeat (first | refine blk_drewN ?_ _ | refine blk_drew ?_ | refine blk_alloc ?_ _)); refine blk_far ?_ NB193_211.out _; (with_reducible repeat (first | refine blk_drewN ?_ _ | refine blk_drew ?_ | refine blk_alloc ?_ _)); refine blk_far ?_ NB193_211.out _; (with_reducible repeat (first | refine blk_drewN ?_ _ | refine blk_drew ?_ | refine blk_alloc ?_ _)); refine blk_far ?_ NB193_211.out _; (with_reducible repeat (first | refine blk_drewN ?_ _ | refine blk_drew ?_ | refine blk_alloc ?_ _)); refine blk_far ?_ NB193_211.out _; (with_reducible repeat (first | refine blk_drewN ?_ _ | refine blk_drew ?_ | refine blk_alloc ?_ _)); exact BK193.out) hb); have n4_ := A_ (blk_below (g := gb194) (o := .cells #[.int .i64 a1_0, .int .i64 a1_1, .int .i64 a1_2, .slice A1_3 l1_3.length c1_3] 26 (0, 0)) (by (with_reducible repeat (first | refine blk_drewN ?_ _ | refine blk_drew ?_ | refine blk_alloc ?_ _)); refine blk_far ?_ NB194_211.out _; (with_reducible repeat (first | refine blk_drewN ?_ _ | refine blk_drew ?_ | refine blk_alloc ?_ _)); refine blk_far ?_ NB194_211.out _; (with_reducible repeat (first | refine blk_drewN ?_ _ | refine blk_drew ?_ | refine blk_alloc ?_ _)); refine blk_far ?_ NB194_211.out _; (with_reducible repeat (first | refine blk_drewN ?_ _ | refine blk_drew ?_ | refine blk_alloc ?_ _)); refine blk_far ?_ NB194_211.out _; (with_reducible repeat (first | refine blk_drewN ?_ _ | refine blk_drew ?_ | refine blk_alloc ?_ _)); exact BK194.out) hb); have n5_ := A_ (blk_below (g := gb211) (o := .cells #[.int .i64 t204, .int .i64 t205, .int .i64 t206, .slice Ao32 t207.length co32] 33 (0, 0)) (by (with_reducible repeat (first | refine blk_drewN ?_ _ | refine blk_drew ?_ | refine blk_alloc ?_ _)); refine blk_put (cs := #[.int .i64 t204, .int .i64 t205, .int .i64 t206, .slice none 0 0]) ?_ 3 _ rfl; (with_reducible repeat (first | refine blk_drewN ?_ _ | refine blk_drew ?_ | refine blk_alloc ?_ _)); refine blk_put (cs := #[.int .i64 t204, .int .i64 t205, .int .i64 0, .slice none 0 0]) ?_ 2 _ rfl; (with_reducible repeat (first | refine blk_drewN ?_ _ | refine blk_drew ?_ | refine blk_alloc ?_ _)); refine blk_put (cs := #[.int .i64 t204, .int .i64 0, .int .i64 0, .slice none 0 0]) ?_ 1 _ rfl; (with_reducible repeat (first | refine blk_drewN ?_ _ | refine blk_drew ?_ | refine blk_alloc ?_ _)); refine blk_put (cs := #[.int .i64 0, .int .i64 0, .int .i64 0, .slice none 0 0]) ?_ 0 _ rfl; (with_reducible repeat (first | refine blk_drewN ?_ _ | refine blk_drew ?_ | refine blk_alloc ?_ _)); exact BK211.out) hb); have n6_ := A_ (below_step (hq HB) hb); clear HO203; clear HO209; clear BK193; clear BK194; clear BK211; clear HB; have HO203 := n0_; have HO209 := n1_; have HO217 := n2_; have BK193 := n3_; have BK194 := n4_; have BK211 := n5_; have HB := n6_; clear n0_ n1_ n2_ n3_ n4_ n5_ n6_; (try clear hb); (try clear hb2); (try clear hk); (try clear hi); (try clear ho0)) | ((with_reducible refine gate_dst (N := 8) rfl ?_); refine box_event ?hg (N := 8) ?hd (cs := #[.int .i64 0, .int .i64 0, .int .i64 0, .slice none 0 0]) (t := 33) ?hr ?_; (case hd => rfl); (case hg => rfl); (case hr => first | (go_simp; done) | (go_simp; rfl)); intro gb218 hg w37 hbox hb; have n0_ := A_ (Kd.R_below (rq HO203) hb); have n1_ := A_ (Kd.R_below (rq HO209) hb); have n2_ := A_ (Kd.R_below (rq HO217) hb); have n3_ := A_ (blk_below (bq BK193) hb); have n4_ := A_ (blk_below (bq BK194) hb); have n5_ := A_ (blk_below (bq BK211) hb); have n6_ := A_ (below_step (hq HB) hb); have n7_ := A_ (hbox); have n8_ := A_ ((by rw [hg]; exact (below_size (hq HB)) : w.heap.size ≤ gb218)); have n9_ := A_ ((by rw [hg]; exact (below_size (hq HB)) : w.heap.size ≤ gb218)); have n10_ := A_ ((by rw [hg]; exact Nat.ne_of_lt (blk_lt (bq BK193)) : gb193 ≠ gb218)); have n11_ := A_ ((by rw [hg]; exact Nat.ne_of_gt (blk_lt (bq BK193)) : gb218 ≠ gb193)); have n12_ := A_ ((by rw [hg]; exact Nat.ne_of_lt (blk_lt (bq BK194)) : gb194 ≠ gb218)); have n13_ := A_ ((by rw [hg]; exact Nat.ne_of_gt (blk_lt (bq BK194)) : gb218 ≠ gb194)); have n14_ := A_ ((by rw [hg]; exact Nat.ne_of_lt (blk_lt (bq BK211)) : gb211 ≠ gb218)); have n15_ := A_ ((by rw [hg]; exact Nat.ne_of_gt (blk_lt (bq BK211)) : gb218 ≠ gb211)); clear HO203; clear HO209; clear HO217; clear BK193; clear BK194; clear BK211; clear HB; have HO203 := n0_; have HO209 := n1_; have HO217 := n2_; have BK193 := n3_; have BK194 := n4_; have BK211 := n5_; have HB := n6_; have BK218 := n7_; have GW218 := n8_; have GE218 := n9_; have NB193_218 := n10_; have NB218_193 := n11_; have NB194_218 := n12_; have NB218_194 := n13_; have NB211_218 := n14_; have NB218_211 := n15_; clear n0_ n1_ n2_ n3_ n4_ n5_ n6_ n7_ n8_ n9_ n10_ n11_ n12_ n13_ n14_ n15_; clear hb hbox hg; have hnb38 := NB218_193.out; have hnc38 := NB193_218.out; have hnb39 := NB218_194.out; have hnc39 := NB194_218.out; have hnb40 := NB218_211.out; have hnc40 := NB211_218.out; have hcz41_0 : w37.cell? ⟨gb218, 0, none⟩ = some (.int .i64 0) := bc BK218 0; have hcz41_1 : w37.cell? ⟨gb218, 1, none⟩ = some (.int .i64 0) := bc BK218 1; have hcz41_2 : w37.cell? ⟨gb218, 2, none⟩ = some (.int .i64 0) := bc BK218 2; have hcz41_3 : w37.cell? ⟨gb218, 3, none⟩ = some (.slice none 0 0) := bc BK218 3; have hfz41_0 := blk_frozen BK218.out 0; have hfz41_1 := blk_frozen BK218.out 1; have hfz41_2 := blk_frozen BK218.out 2; have hfz41_3 := blk_frozen BK218.out 3; obtain ⟨Ao42, co42, eo42⟩ := Kd.R_slice HO217.out; subst eo42))
  have n0_ : Aside0 (Kd.R (Kd.int .i64) 3 ((((w37.setCell ⟨gb218, 0, none⟩ (.int .i64 t212)).setCell ⟨gb218, 1, none⟩ (.int .i64 t213)).setCell ⟨gb218, 2, none⟩ (.int .i64 t214)).setCell ⟨gb218, 3, none⟩ (.slice Ao42 t215.length co42)) w.heap.size (fun k_ => some k_ ≠ (.slice Ao32 t207.length co32 : Value).ownBlock ∧ some k_ ≠ (.slice Ao42 t215.length co42 : Value).ownBlock) v202 t201) := ⟨by (with_reducible repeat (first | apply Kd.R_alloc | apply Kd.R_drewN | apply Kd.R_drew)); exact Kd.R_mono (Kd.R_far (p := ⟨gb218, 3, none⟩) (Kd.R_far (p := ⟨gb218, 2, none⟩) (Kd.R_far (p := ⟨gb218, 1, none⟩) (Kd.R_far (p := ⟨gb218, 0, none⟩) (Kd.R_types HO203.out BK218.out (by decide)) (fun _ => cj) (.int .i64 t212)) (fun _ => cj) (.int .i64 t213)) (fun _ => cj) (.int .i64 t214)) (fun _ => cj) (.slice Ao42 t215.length co42)) (fun _ => cj)⟩
  have n1_ : Aside0 (Kd.R (Kd.int .i64) 3 ((((w37.setCell ⟨gb218, 0, none⟩ (.int .i64 t212)).setCell ⟨gb218, 1, none⟩ (.int .i64 t213)).setCell ⟨gb218, 2, none⟩ (.int .i64 t214)).setCell ⟨gb218, 3, none⟩ (.slice Ao42 t215.length co42)) w.heap.size (fun k_ => some k_ ≠ (v202 : Value).ownBlock ∧ some k_ ≠ (.slice Ao42 t215.length co42 : Value).ownBlock) (.slice Ao32 t207.length co32) t207) := ⟨by (with_reducible repeat (first | apply Kd.R_alloc | apply Kd.R_drewN | apply Kd.R_drew)); exact Kd.R_mono (Kd.R_far (p := ⟨gb218, 3, none⟩) (Kd.R_far (p := ⟨gb218, 2, none⟩) (Kd.R_far (p := ⟨gb218, 1, none⟩) (Kd.R_far (p := ⟨gb218, 0, none⟩) (Kd.R_types HO209.out BK218.out (by decide)) (fun _ => cj) (.int .i64 t212)) (fun _ => cj) (.int .i64 t213)) (fun _ => cj) (.int .i64 t214)) (fun _ => cj) (.slice Ao42 t215.length co42)) (fun _ => cj)⟩
  have n2_ : Aside0 (Kd.R (Kd.int .i64) 3 ((((w37.setCell ⟨gb218, 0, none⟩ (.int .i64 t212)).setCell ⟨gb218, 1, none⟩ (.int .i64 t213)).setCell ⟨gb218, 2, none⟩ (.int .i64 t214)).setCell ⟨gb218, 3, none⟩ (.slice Ao42 t215.length co42)) w.heap.size (fun k_ => some k_ ≠ (v202 : Value).ownBlock ∧ some k_ ≠ (.slice Ao32 t207.length co32 : Value).ownBlock) (.slice Ao42 t215.length co42) t215) := ⟨by (with_reducible repeat (first | apply Kd.R_alloc | apply Kd.R_drewN | apply Kd.R_drew)); exact Kd.R_mono (Kd.R_far (p := ⟨gb218, 3, none⟩) (Kd.R_far (p := ⟨gb218, 2, none⟩) (Kd.R_far (p := ⟨gb218, 1, none⟩) (Kd.R_far (p := ⟨gb218, 0, none⟩) (Kd.R_types HO217.out BK218.out (by decide)) (fun _ => cj) (.int .i64 t212)) (fun _ => cj) (.int .i64 t213)) (fun _ => cj) (.int .i64 t214)) (fun _ => cj) (.slice Ao42 t215.length co42)) (fun _ => cj)⟩
  have n3_ : Aside0 (((((w37.setCell ⟨gb218, 0, none⟩ (.int .i64 t212)).setCell ⟨gb218, 1, none⟩ (.int .i64 t213)).setCell ⟨gb218, 2, none⟩ (.int .i64 t214)).setCell ⟨gb218, 3, none⟩ (.slice Ao42 t215.length co42)).heap[gb193]? = some (.cells #[.int .i64 a0_0, .bool a0_1] 23 (0, 0))) := ⟨by (with_reducible repeat (first | refine blk_drewN ?_ _ | refine blk_drew ?_ | refine blk_alloc ?_ _)); refine blk_far ?_ NB193_218.out _; (with_reducible repeat (first | refine blk_drewN ?_ _ | refine blk_drew ?_ | refine blk_alloc ?_ _)); refine blk_far ?_ NB193_218.out _; (with_reducible repeat (first | refine blk_drewN ?_ _ | refine blk_drew ?_ | refine blk_alloc ?_ _)); refine blk_far ?_ NB193_218.out _; (with_reducible repeat (first | refine blk_drewN ?_ _ | refine blk_drew ?_ | refine blk_alloc ?_ _)); refine blk_far ?_ NB193_218.out _; (with_reducible repeat (first | refine blk_drewN ?_ _ | refine blk_drew ?_ | refine blk_alloc ?_ _)); exact BK193.out⟩
  have n4_ : Aside0 (((((w37.setCell ⟨gb218, 0, none⟩ (.int .i64 t212)).setCell ⟨gb218, 1, none⟩ (.int .i64 t213)).setCell ⟨gb218, 2, none⟩ (.int .i64 t214)).setCell ⟨gb218, 3, none⟩ (.slice Ao42 t215.length co42)).heap[gb194]? = some (.cells #[.int .i64 a1_0, .int .i64 a1_1, .int .i64 a1_2, .slice A1_3 l1_3.length c1_3] 26 (0, 0))) := ⟨by (with_reducible repeat (first | refine blk_drewN ?_ _ | refine blk_drew ?_ | refine blk_alloc ?_ _)); refine blk_far ?_ NB194_218.out _; (with_reducible repeat (first | refine blk_drewN ?_ _ | refine blk_drew ?_ | refine blk_alloc ?_ _)); refine blk_far ?_ NB194_218.out _; (with_reducible repeat (first | refine blk_drewN ?_ _ | refine blk_drew ?_ | refine blk_alloc ?_ _)); refine blk_far ?_ NB194_218.out _; (with_reducible repeat (first | refine blk_drewN ?_ _ | refine blk_drew ?_ | refine blk_alloc ?_ _)); refine blk_far ?_ NB194_218.out _; (with_reducible repeat (first | refine blk_drewN ?_ _ | refine blk_drew ?_ | refine blk_alloc ?_ _)); exact BK194.out⟩
  have n5_ : Aside0 (((((w37.setCell ⟨gb218, 0, none⟩ (.int .i64 t212)).setCell ⟨gb218, 1, none⟩ (.int .i64 t213)).setCell ⟨gb218, 2, none⟩ (.int .i64 t214)).setCell ⟨gb218, 3, none⟩ (.slice Ao42 t215.length co42)).heap[gb211]? = some (.cells #[.int .i64 t204, .int .i64 t205, .int .i64 t206, .slice Ao32 t207.length co32] 33 (0, 0))) := ⟨by (with_reducible repeat (first | refine blk_drewN ?_ _ | refine blk_drew ?_ | refine blk_alloc ?_ _)); refine blk_far ?_ NB211_218.out _; (with_reducible repeat (first | refine blk_drewN ?_ _ | refine blk_drew ?_ | refine blk_alloc ?_ _)); refine blk_far ?_ NB211_218.out _; (with_reducible repeat (first | refine blk_drewN ?_ _ | refine blk_drew ?_ | refine blk_alloc ?_ _)); refine blk_far ?_ NB211_218.out _; (with_reducible repeat (first | refine blk_drewN ?_ _ | refine blk_drew ?_ | refine blk_alloc ?_ _)); refine blk_far ?_ NB211_218.out _; (with_reducible repeat (first | refine blk_drewN ?_ _ | refine blk_drew ?_ | refine blk_alloc ?_ _)); exact BK211.out⟩
  have n6_ : Aside0 (((((w37.setCell ⟨gb218, 0, none⟩ (.int .i64 t212)).setCell ⟨gb218, 1, none⟩ (.int .i64 t213)).setCell ⟨gb218, 2, none⟩ (.int .i64 t214)).setCell ⟨gb218, 3, none⟩ (.slice Ao42 t215.length co42)).heap[gb218]? = some (.cells #[.int .i64 t212, .int .i64 t213, .int .i64 t214, .slice Ao42 t215.length co42] 33 (0, 0))) := ⟨by (with_reducible repeat (first | refine blk_drewN ?_ _ | refine blk_drew ?_ | refine blk_alloc ?_ _)); refine blk_put (cs := #[.int .i64 t212, .int .i64 t213, .int .i64 t214, .slice none 0 0]) ?_ 3 _ rfl; (with_reducible repeat (first | refine blk_drewN ?_ _ | refine blk_drew ?_ | refine blk_alloc ?_ _)); refine blk_put (cs := #[.int .i64 t212, .int .i64 t213, .int .i64 0, .slice none 0 0]) ?_ 2 _ rfl; (with_reducible repeat (first | refine blk_drewN ?_ _ | refine blk_drew ?_ | refine blk_alloc ?_ _)); refine blk_put (cs := #[.int .i64 t212, .int .i64 0, .int .i64 0, .slice none 0 0]) ?_ 1 _ rfl; (with_reducible repeat (first | refine blk_drewN ?_ _ | refine blk_drew ?_ | refine blk_alloc ?_ _)); refine blk_put (cs := #[.int .i64 0, .int .i64 0, .int .i64 0, .slice none 0 0]) ?_ 0 _ rfl; (with_reducible repeat (first | refine blk_drewN ?_ _ | refine blk_drew ?_ | refine blk_alloc ?_ _)); exact BK218.out⟩
  have n7_ : Aside0 (Below w.heap.size w ((((w37.setCell ⟨gb218, 0, none⟩ (.int .i64 t212)).setCell ⟨gb218, 1, none⟩ (.int .i64 t213)).setCell ⟨gb218, 2, none⟩ (.int .i64 t214)).setCell ⟨gb218, 3, none⟩ (.slice Ao42 t215.length co42))) := ⟨by repeat (first | (with_reducible first | exact HB.out | apply below_alloc | apply pw_below_drewN | apply below_drew1 | refine below_set ?_ GE193.out | refine below_set ?_ GE194.out | refine below_set ?_ GE211.out | refine below_set ?_ GE218.out) | exact HB.out)⟩
  (try clear HO203); (try clear HO209); (try clear HO217); (try clear BK193); (try clear BK194); (try clear BK211); (try clear BK218); (try clear HB)
  generalize ((((w37.setCell ⟨gb218, 0, none⟩ (.int .i64 t212)).setCell ⟨gb218, 1, none⟩ (.int .i64 t213)).setCell ⟨gb218, 2, none⟩ (.int .i64 t214)).setCell ⟨gb218, 3, none⟩ (.slice Ao42 t215.length co42)) = w43 at n0_ n1_ n2_ n3_ n4_ n5_ n6_ n7_ ⊢
  have HO203 := n0_; have HO209 := n1_; have HO217 := n2_; have BK193 := n3_; have BK194 := n4_; have BK211 := n5_; have BK218 := n6_; have HB := n7_; clear n0_ n1_ n2_ n3_ n4_ n5_ n6_ n7_
  have n0_ := A_ (Kd.R_drew HO203.out)
  have n1_ := A_ (Kd.R_drew HO209.out)
  have n2_ := A_ (Kd.R_drew HO217.out)
  have n3_ := A_ (blk_drew BK193.out)
  have n4_ := A_ (blk_drew BK194.out)
  have n5_ := A_ (blk_drew BK211.out)
  have n6_ := A_ (blk_drew BK218.out)
  have n7_ := A_ (below_drew1 HB.out)
  clear HO203 HO209 HO217 BK193 BK194 BK211 BK218 HB; have HO203 := n0_; have HO209 := n1_; have HO217 := n2_; have BK193 := n3_; have BK194 := n4_; have BK211 := n5_; have BK218 := n6_; have HB := n7_; clear n0_ n1_ n2_ n3_ n4_ n5_ n6_ n7_
  refine start_ (n := 10) (S := fun w' => w'.cell? ⟨gb193, 0, none⟩ = some (.int .i64 a0_0) ∧ w'.cell? ⟨gb193, 1, none⟩ = some (.bool a0_1) ∧ w'.cell? ⟨gb218, 0, none⟩ = some (.int .i64 t212) ∧ w'.cell? ⟨gb218, 1, none⟩ = some (.int .i64 t213) ∧ w'.cell? ⟨gb218, 2, none⟩ = some (.int .i64 t214) ∧ w'.cell? ⟨gb218, 3, none⟩ = some (.slice Ao42 t215.length co42)) (ds := []) #[false, false, false, false, false, false, false, false, false, false] (by kernel_rfl) rfl rfl ⟨bc BK193 0, bc BK193 1, bc BK218 0, bc BK218 1, bc BK218 2, bc BK218 3⟩ (fun hHeld => ?_); refine with_tabW laws_FnExactMirrorWalker.tab7 laws_FnExactMirrorWalker.bits7 (fun HT_ HW_ => ?_)
  generalize w43.drew = w44 at HO203 HO209 HO217 BK193 BK194 BK211 BK218 HB hHeld ⊢
  refine take_ (i := 0) (N := some 32) (v := ?_) (a' := ?_) #[true, false, false, false, false, false, false, false, false, false] rfl rfl (take_ofW HT_.out HW_.out (by kernel_rfl)) (fun _ _ _ h => h) (Or.inl ⟨by rfl, ?_⟩) hHeld ?_ ?_
  rotate_left
  ·
   rintro w' ⟨s0, s1, s2, s3, s4, s5⟩
   go_simp
   with_reducible rfl
  rotate_left
  ·
   simp only [Act.put, List.setIfInBounds_toArray, List.set_cons_zero, List.set_cons_succ, i64_w, i32_w]
   rfl
  refine take_ (i := 2) (N := some 34) (v := ?_) (a' := ?_) #[true, false, true, false, false, false, false, false, false, false] rfl rfl (take_ofW HT_.out HW_.out (by kernel_rfl)) (fun _ _ _ h => h) (Or.inl ⟨by rfl, ?_⟩) hHeld ?_ ?_
  rotate_left
  ·
   rintro w' ⟨s0, s1, s2, s3, s4, s5⟩
   go_simp
   with_reducible rfl
  rotate_left
  ·
   simp only [Act.put, List.setIfInBounds_toArray, List.set_cons_zero, List.set_cons_succ, i64_w, i32_w]
   rfl
  refine join_ (σ := Value × Nat) 2 #[true, true, true, true, true, true, true, true, false, false] (fun s_ => [(33, .agg #[.int .i64 t219, .bool t220]), (35, .tuple #[.agg #[.int .i64 t221, .int .i64 t222, .int .i64 t223, s_.1], .bool t227]), (9, .pointer (some ⟨s_.2, 0, none⟩)), (31, .tuple #[.agg #[.int .i64 t221, .int .i64 t222, .int .i64 t223, s_.1], .bool t227]), (36, .agg #[.int .i64 t221, .int .i64 t222, .int .i64 t223, s_.1]), (37, .bool t227)]) (fun s_ w' => (w'.cell? ⟨gb193, 0, none⟩ = some (.int .i64 a0_0) ∧ w'.cell? ⟨gb193, 1, none⟩ = some (.bool a0_1) ∧ w'.cell? ⟨gb218, 0, none⟩ = some (.int .i64 t212) ∧ w'.cell? ⟨gb218, 1, none⟩ = some (.int .i64 t213) ∧ w'.cell? ⟨gb218, 2, none⟩ = some (.int .i64 t214) ∧ w'.cell? ⟨gb218, 3, none⟩ = some (.slice Ao42 t215.length co42)) ∧ (Kd.R (Kd.int .i64) 3 w' w.heap.size (fun k_ => some k_ ≠ (.slice Ao32 t207.length co32 : Value).ownBlock ∧ some k_ ≠ (.slice Ao42 t215.length co42 : Value).ownBlock ∧ some k_ ≠ (s_.1 : Value).ownBlock) v202 t201) ∧ (Kd.R (Kd.int .i64) 3 w' w.heap.size (fun k_ => some k_ ≠ (v202 : Value).ownBlock ∧ some k_ ≠ (.slice Ao42 t215.length co42 : Value).ownBlock ∧ some k_ ≠ (s_.1 : Value).ownBlock) (.slice Ao32 t207.length co32) t207) ∧ (Kd.R (Kd.int .i64) 3 w' w.heap.size (fun k_ => some k_ ≠ (v202 : Value).ownBlock ∧ some k_ ≠ (.slice Ao32 t207.length co32 : Value).ownBlock ∧ some k_ ≠ (s_.1 : Value).ownBlock) (.slice Ao42 t215.length co42) t215) ∧ (Kd.R (Kd.int .i64) 3 w' w.heap.size (fun k_ => some k_ ≠ (v202 : Value).ownBlock ∧ some k_ ≠ (.slice Ao32 t207.length co32 : Value).ownBlock ∧ some k_ ≠ (.slice Ao42 t215.length co42 : Value).ownBlock) s_.1 t224) ∧ (w'.heap[gb193]? = some (.cells #[.int .i64 a0_0, .bool a0_1] 23 (0, 0))) ∧ (w'.heap[gb194]? = some (.cells #[.int .i64 a1_0, .int .i64 a1_1, .int .i64 a1_2, .slice A1_3 l1_3.length c1_3] 26 (0, 0))) ∧ (w'.heap[gb211]? = some (.cells #[.int .i64 t204, .int .i64 t205, .int .i64 t206, .slice Ao32 t207.length co32] 33 (0, 0))) ∧ (w'.heap[gb218]? = some (.cells #[.int .i64 t212, .int .i64 t213, .int .i64 t214, .slice Ao42 t215.length co42] 33 (0, 0))) ∧ (w'.heap[s_.2]? = some (.cells #[.int .i64 0, .int .i64 0, .int .i64 0, .slice none 0 0] 33 (0, 0))) ∧ (w.heap.size ≤ s_.2) ∧ (w.heap.size ≤ s_.2) ∧ (gb193 ≠ s_.2) ∧ (s_.2 ≠ gb193) ∧ (gb194 ≠ s_.2) ∧ (s_.2 ≠ gb194) ∧ (gb211 ≠ s_.2) ∧ (s_.2 ≠ gb211) ∧ (gb218 ≠ s_.2) ∧ (s_.2 ≠ gb218) ∧ (Below w.heap.size w w')) ?_ ?_
  rotate_left
  ·
   intro hCont
   refine two_ (i := 1) (j := 7) (Ni := some 33) (Nj := some 9) #[true, true, true, false, false, false, false, false, false, false] #[true, false, true, false, false, false, false, true, false, false] rfl rfl rfl rfl (two_of HT_.out (by kernel_rfl)) (by decide) (by decide) (fun K hK => ?_) (fun K hK => ?_)
   ·
    refine goes_ Try.func12 (by kernel_rfl) rfl #[.agg #[.int .i64 a0_0, .bool a0_1]] (by rfl) rfl rfl gq ?_
    with_reducible refine (laws_toRoad.calls a0_0 a0_1 t219 t220 _ A14.out).mono ?_
    rintro e w45 ⟨rfl, hb⟩
    refine ⟨_, rfl, ?_⟩
    have n0_ := A_ (Kd.R_below (rq HO203) hb)
    have n1_ := A_ (Kd.R_below (rq HO209) hb)
    have n2_ := A_ (Kd.R_below (rq HO217) hb)
    have n3_ := A_ (blk_below (bq BK193) hb)
    have n4_ := A_ (blk_below (bq BK194) hb)
    have n5_ := A_ (blk_below (bq BK211) hb)
    have n6_ := A_ (blk_below (bq BK218) hb)
    have n7_ := A_ (below_step (hq HB) hb)
    clear HO203 HO209 HO217 BK193 BK194 BK211 BK218 HB; have HO203 := n0_; have HO209 := n1_; have HO217 := n2_; have BK193 := n3_; have BK194 := n4_; have BK211 := n5_; have BK218 := n6_; have HB := n7_; clear n0_ n1_ n2_ n3_ n4_ n5_ n6_ n7_; (try clear hb); (try clear hb2); (try clear hk); (try clear hi)
    refine hK.out _ _ ⟨bc BK193 0, bc BK193 1, bc BK218 0, bc BK218 1, bc BK218 2, bc BK218 3⟩ (fun hHeld => ?_)
    clear hK K
    refine norm_ (a' := ?_) ?_ ?_
    rotate_left
    ·
     show Act.put _ (some 33) _ = _
     simp only [Act.put, List.setIfInBounds_toArray, List.set_cons_zero, List.set_cons_succ, i64_w, i32_w]
     rfl
    refine two_ (i := 3) (j := 7) (Ni := some 35) (Nj := some 9) #[true, true, true, true, false, false, false, false, false, false] #[true, true, true, false, false, false, false, true, false, false] rfl rfl rfl rfl (two_of HT_.out (by kernel_rfl)) (by decide) (by decide) (fun K hK => ?_) (fun K hK => ?_)
    ·
     refine goes_ Try.func21 (by kernel_rfl) rfl #[.agg #[.int .i64 t219, .bool t220], .agg #[.int .i64 t212, .int .i64 t213, .int .i64 t214, .slice Ao42 t215.length co42]] (by rfl) rfl rfl gq ?_
     with_reducible refine (impl_MirrorWalker.calls k t219 t220 t212 t213 t214 _ _ t215 t221 t222 t223 t224 t227 _ ?side1 ?side2 A15.out).mono ?_
     (case side1 => repeat (first | exact (Kd.R_reads' HO217.out).2.2 | (with_reducible refine Kd.C_alloc ?_ _) | (with_reducible refine Kd.C_drewN ?_ _) | (with_reducible refine Kd.C_drew ?_)))
     (case side2 => exact (Kd.R_reads' HO217.out).2.1)
     rintro e w46 ⟨v225, rfl, ho0, hb⟩
     refine ⟨_, rfl, ?_⟩
     have n0_ := A_ (Kd.R_elder' (rq HO203) (Kd.R_base ho0) hb)
     have n1_ := A_ (Kd.R_elder' (rq HO209) (Kd.R_base ho0) hb)
     have n2_ := A_ (Kd.R_elder' (rq HO217) (Kd.R_base ho0) hb)
     have n3_ := A_ (Kd.R_lower (Kd.R_new' (Kd.R_new' (Kd.R_new' ho0 (Kd.R_lt (rq HO203))) (Kd.R_lt (rq HO209))) (Kd.R_lt (rq HO217))) (below_size (hq HB)))
     have n4_ := A_ (blk_below (bq BK193) hb)
     have n5_ := A_ (blk_below (bq BK194) hb)
     have n6_ := A_ (blk_below (bq BK211) hb)
     have n7_ := A_ (blk_below (bq BK218) hb)
     have n8_ := A_ (below_step (hq HB) hb)
     clear HO203 HO209 HO217 BK193 BK194 BK211 BK218 HB; have HO203 := n0_; have HO209 := n1_; have HO217 := n2_; have HO226 := n3_; have BK193 := n4_; have BK194 := n5_; have BK211 := n6_; have BK218 := n7_; have HB := n8_; clear n0_ n1_ n2_ n3_ n4_ n5_ n6_ n7_ n8_; (try clear hb); (try clear hb2); (try clear hk); (try clear hi); (try clear ho0)
     refine hK.out _ _ ⟨bc BK193 0, bc BK193 1, bc BK218 0, bc BK218 1, bc BK218 2, bc BK218 3⟩ (fun hHeld => ?_)
     clear hK K
     refine norm_ (a' := ?_) ?_ ?_
     rotate_left
     ·
      show Act.put _ (some 35) _ = _
      simp only [Act.put, List.setIfInBounds_toArray, List.set_cons_zero, List.set_cons_succ, i64_w, i32_w]
      rfl
     refine pure_ (i := 4) (N := some 31) (v := ?_) (a' := ?_) #[true, true, true, true, true, false, false, false, false, false] rfl rfl (any_of HT_.out (by kernel_rfl)) (fun _ _ _ h => h) (Or.inl ⟨by rfl, ?_⟩) ?_ ?_
     rotate_left
     ·
      intro w'
      go_simp
      with_reducible rfl
     rotate_left
     ·
      simp only [Act.put, List.setIfInBounds_toArray, List.set_cons_zero, List.set_cons_succ, i64_w, i32_w]
      rfl
     refine pure_ (i := 5) (N := some 36) (v := ?_) (a' := ?_) #[true, true, true, true, true, true, false, false, false, false] rfl rfl (any_of HT_.out (by kernel_rfl)) (fun _ _ _ h => h) (Or.inl ⟨by rfl, ?_⟩) ?_ ?_
     rotate_left
     ·
      intro w'
      go_simp
      with_reducible rfl
     rotate_left
     ·
      simp only [Act.put, List.setIfInBounds_toArray, List.set_cons_zero, List.set_cons_succ, i64_w, i32_w]
      rfl
     refine pure_ (i := 6) (N := some 37) (v := ?_) (a' := ?_) #[true, true, true, true, true, true, true, false, false, false] rfl rfl (any_of HT_.out (by kernel_rfl)) (fun _ _ _ h => h) (Or.inl ⟨by rfl, ?_⟩) ?_ ?_
     rotate_left
     ·
      intro w'
      go_simp
      with_reducible rfl
     rotate_left
     ·
      simp only [Act.put, List.setIfInBounds_toArray, List.set_cons_zero, List.set_cons_succ, i64_w, i32_w]
      rfl
     refine one_ (i := 7) (N := some 9) #[true, true, true, true, true, true, true, true, false, false] rfl rfl (one_of HT_.out (by kernel_rfl)) (by decide) (fun K hK => ?_)
     refine box_step ?hg (N := 9) ?hd (cs := #[.int .i64 0, .int .i64 0, .int .i64 0, .slice none 0 0]) (t := 33) ?hr ?_; (case hd => rfl); (case hg => rfl); (case hr => first | (go_simp; done) | (go_simp; rfl))
     intro gb228 hg w47 hbox hb
     have n0_ := A_ (Kd.R_below (rq HO203) hb)
     have n1_ := A_ (Kd.R_below (rq HO209) hb)
     have n2_ := A_ (Kd.R_below (rq HO217) hb)
     have n3_ := A_ (Kd.R_below (rq HO226) hb)
     have n4_ := A_ (blk_below (bq BK193) hb)
     have n5_ := A_ (blk_below (bq BK194) hb)
     have n6_ := A_ (blk_below (bq BK211) hb)
     have n7_ := A_ (blk_below (bq BK218) hb)
     have n8_ := A_ (below_step (hq HB) hb)
     have n9_ := A_ (hbox)
     have n10_ := A_ ((by rw [hg]; exact (below_size (hq HB)) : w.heap.size ≤ gb228))
     have n11_ := A_ ((by rw [hg]; exact (below_size (hq HB)) : w.heap.size ≤ gb228))
     have n12_ := A_ ((by rw [hg]; exact Nat.ne_of_lt (blk_lt (bq BK193)) : gb193 ≠ gb228))
     have n13_ := A_ ((by rw [hg]; exact Nat.ne_of_gt (blk_lt (bq BK193)) : gb228 ≠ gb193))
     have n14_ := A_ ((by rw [hg]; exact Nat.ne_of_lt (blk_lt (bq BK194)) : gb194 ≠ gb228))
     have n15_ := A_ ((by rw [hg]; exact Nat.ne_of_gt (blk_lt (bq BK194)) : gb228 ≠ gb194))
     have n16_ := A_ ((by rw [hg]; exact Nat.ne_of_lt (blk_lt (bq BK211)) : gb211 ≠ gb228))
     have n17_ := A_ ((by rw [hg]; exact Nat.ne_of_gt (blk_lt (bq BK211)) : gb228 ≠ gb211))
     have n18_ := A_ ((by rw [hg]; exact Nat.ne_of_lt (blk_lt (bq BK218)) : gb218 ≠ gb228))
     have n19_ := A_ ((by rw [hg]; exact Nat.ne_of_gt (blk_lt (bq BK218)) : gb228 ≠ gb218))
     clear HO203 HO209 HO217 HO226 BK193 BK194 BK211 BK218 HB; have HO203 := n0_; have HO209 := n1_; have HO217 := n2_; have HO226 := n3_; have BK193 := n4_; have BK194 := n5_; have BK211 := n6_; have BK218 := n7_; have HB := n8_; have BK228 := n9_; have GW228 := n10_; have GE228 := n11_; have NB193_228 := n12_; have NB228_193 := n13_; have NB194_228 := n14_; have NB228_194 := n15_; have NB211_228 := n16_; have NB228_211 := n17_; have NB218_228 := n18_; have NB228_218 := n19_; clear n0_ n1_ n2_ n3_ n4_ n5_ n6_ n7_ n8_ n9_ n10_ n11_ n12_ n13_ n14_ n15_ n16_ n17_ n18_ n19_ hb hbox hg
     refine hK.out _ _ ⟨bc BK193 0, bc BK193 1, bc BK218 0, bc BK218 1, bc BK218 2, bc BK218 3⟩ (fun hHeld => ?_)
     clear hK K
     refine norm_ (a' := ?_) ?_ ?_
     rotate_left
     ·
      show Act.put _ (some 9) _ = _
      simp only [Act.put, List.setIfInBounds_toArray, List.set_cons_zero, List.set_cons_succ, i64_w, i32_w]
      rfl
     exact norm_ (by simp only [putAll, Act.put, List.setIfInBounds_toArray, List.set_cons_zero, List.set_cons_succ]) (hCont (v225, gb228) _ ⟨hHeld, (by (with_reducible repeat (first | apply Kd.R_alloc | apply Kd.R_drewN | apply Kd.R_drew)); exact Kd.R_mono HO203.out (fun _ hk => ⟨hk.1.1, ⟨hk.1.2, hk.2⟩⟩)), (by (with_reducible repeat (first | apply Kd.R_alloc | apply Kd.R_drewN | apply Kd.R_drew)); exact Kd.R_mono HO209.out (fun _ hk => ⟨hk.1.1, ⟨hk.1.2, hk.2⟩⟩)), (by (with_reducible repeat (first | apply Kd.R_alloc | apply Kd.R_drewN | apply Kd.R_drew)); exact Kd.R_mono HO217.out (fun _ hk => ⟨hk.1.1, ⟨hk.1.2, hk.2⟩⟩)), (by (with_reducible repeat (first | apply Kd.R_alloc | apply Kd.R_drewN | apply Kd.R_drew)); exact Kd.R_mono HO226.out (fun _ hk => ⟨hk.1.1.2, ⟨hk.1.2, hk.2⟩⟩)), (bq BK193), (bq BK194), (bq BK211), (bq BK218), (bq BK228), GW228.out, GE228.out, NB193_228.out, NB228_193.out, NB194_228.out, NB228_194.out, NB211_228.out, NB228_211.out, NB218_228.out, NB228_218.out, (hq HB)⟩)
    ·
     refine box_step ?hg (N := 9) ?hd (cs := #[.int .i64 0, .int .i64 0, .int .i64 0, .slice none 0 0]) (t := 33) ?hr ?_; (case hd => rfl); (case hg => rfl); (case hr => first | (go_simp; done) | (go_simp; rfl))
     intro gb228 hg w46 hbox hb
     have n0_ := A_ (Kd.R_below (rq HO203) hb)
     have n1_ := A_ (Kd.R_below (rq HO209) hb)
     have n2_ := A_ (Kd.R_below (rq HO217) hb)
     have n3_ := A_ (blk_below (bq BK193) hb)
     have n4_ := A_ (blk_below (bq BK194) hb)
     have n5_ := A_ (blk_below (bq BK211) hb)
     have n6_ := A_ (blk_below (bq BK218) hb)
     have n7_ := A_ (below_step (hq HB) hb)
     have n8_ := A_ (hbox)
     have n9_ := A_ ((by rw [hg]; exact (below_size (hq HB)) : w.heap.size ≤ gb228))
     have n10_ := A_ ((by rw [hg]; exact (below_size (hq HB)) : w.heap.size ≤ gb228))
     have n11_ := A_ ((by rw [hg]; exact Nat.ne_of_lt (blk_lt (bq BK193)) : gb193 ≠ gb228))
     have n12_ := A_ ((by rw [hg]; exact Nat.ne_of_gt (blk_lt (bq BK193)) : gb228 ≠ gb193))
     have n13_ := A_ ((by rw [hg]; exact Nat.ne_of_lt (blk_lt (bq BK194)) : gb194 ≠ gb228))
     have n14_ := A_ ((by rw [hg]; exact Nat.ne_of_gt (blk_lt (bq BK194)) : gb228 ≠ gb194))
     have n15_ := A_ ((by rw [hg]; exact Nat.ne_of_lt (blk_lt (bq BK211)) : gb211 ≠ gb228))
     have n16_ := A_ ((by rw [hg]; exact Nat.ne_of_gt (blk_lt (bq BK211)) : gb228 ≠ gb211))
     have n17_ := A_ ((by rw [hg]; exact Nat.ne_of_lt (blk_lt (bq BK218)) : gb218 ≠ gb228))
     have n18_ := A_ ((by rw [hg]; exact Nat.ne_of_gt (blk_lt (bq BK218)) : gb228 ≠ gb218))
     clear HO203 HO209 HO217 BK193 BK194 BK211 BK218 HB; have HO203 := n0_; have HO209 := n1_; have HO217 := n2_; have BK193 := n3_; have BK194 := n4_; have BK211 := n5_; have BK218 := n6_; have HB := n7_; have BK228 := n8_; have GW228 := n9_; have GE228 := n10_; have NB193_228 := n11_; have NB228_193 := n12_; have NB194_228 := n13_; have NB228_194 := n14_; have NB211_228 := n15_; have NB228_211 := n16_; have NB218_228 := n17_; have NB228_218 := n18_; clear n0_ n1_ n2_ n3_ n4_ n5_ n6_ n7_ n8_ n9_ n10_ n11_ n12_ n13_ n14_ n15_ n16_ n17_ n18_ hb hbox hg
     refine hK.out _ _ ⟨bc BK193 0, bc BK193 1, bc BK218 0, bc BK218 1, bc BK218 2, bc BK218 3⟩ (fun hHeld => ?_)
     clear hK K
     refine norm_ (a' := ?_) ?_ ?_
     rotate_left
     ·
      show Act.put _ (some 9) _ = _
      simp only [Act.put, List.setIfInBounds_toArray, List.set_cons_zero, List.set_cons_succ, i64_w, i32_w]
      rfl
     refine one_ (i := 3) (N := some 35) #[true, true, true, true, false, false, false, true, false, false] rfl rfl (one_of HT_.out (by kernel_rfl)) (by decide) (fun K hK => ?_)
     refine goes_ Try.func21 (by kernel_rfl) rfl #[.agg #[.int .i64 t219, .bool t220], .agg #[.int .i64 t212, .int .i64 t213, .int .i64 t214, .slice Ao42 t215.length co42]] (by rfl) rfl rfl gq ?_
     with_reducible refine (impl_MirrorWalker.calls k t219 t220 t212 t213 t214 _ _ t215 t221 t222 t223 t224 t227 _ ?side1 ?side2 A15.out).mono ?_
     (case side1 => repeat (first | exact (Kd.R_reads' HO217.out).2.2 | (with_reducible refine Kd.C_alloc ?_ _) | (with_reducible refine Kd.C_drewN ?_ _) | (with_reducible refine Kd.C_drew ?_)))
     (case side2 => exact (Kd.R_reads' HO217.out).2.1)
     rintro e w47 ⟨v225, rfl, ho0, hb⟩
     refine ⟨_, rfl, ?_⟩
     have n0_ := A_ (Kd.R_elder' (rq HO203) (Kd.R_base ho0) hb)
     have n1_ := A_ (Kd.R_elder' (rq HO209) (Kd.R_base ho0) hb)
     have n2_ := A_ (Kd.R_elder' (rq HO217) (Kd.R_base ho0) hb)
     have n3_ := A_ (Kd.R_lower (Kd.R_new' (Kd.R_new' (Kd.R_new' ho0 (Kd.R_lt (rq HO203))) (Kd.R_lt (rq HO209))) (Kd.R_lt (rq HO217))) (below_size (hq HB)))
     have n4_ := A_ (blk_below (bq BK193) hb)
     have n5_ := A_ (blk_below (bq BK194) hb)
     have n6_ := A_ (blk_below (bq BK211) hb)
     have n7_ := A_ (blk_below (bq BK218) hb)
     have n8_ := A_ (blk_below (bq BK228) hb)
     have n9_ := A_ (below_step (hq HB) hb)
     clear HO203 HO209 HO217 BK193 BK194 BK211 BK218 BK228 HB; have HO203 := n0_; have HO209 := n1_; have HO217 := n2_; have HO226 := n3_; have BK193 := n4_; have BK194 := n5_; have BK211 := n6_; have BK218 := n7_; have BK228 := n8_; have HB := n9_; clear n0_ n1_ n2_ n3_ n4_ n5_ n6_ n7_ n8_ n9_; (try clear hb); (try clear hb2); (try clear hk); (try clear hi); (try clear ho0)
     refine hK.out _ _ ⟨bc BK193 0, bc BK193 1, bc BK218 0, bc BK218 1, bc BK218 2, bc BK218 3⟩ (fun hHeld => ?_)
     clear hK K
     refine norm_ (a' := ?_) ?_ ?_
     rotate_left
     ·
      show Act.put _ (some 35) _ = _
      simp only [Act.put, List.setIfInBounds_toArray, List.set_cons_zero, List.set_cons_succ, i64_w, i32_w]
      rfl
     refine pure_ (i := 4) (N := some 31) (v := ?_) (a' := ?_) #[true, true, true, true, true, false, false, true, false, false] rfl rfl (any_of HT_.out (by kernel_rfl)) (fun _ _ _ h => h) (Or.inl ⟨by rfl, ?_⟩) ?_ ?_
     rotate_left
     ·
      intro w'
      go_simp
      with_reducible rfl
     rotate_left
     ·
      simp only [Act.put, List.setIfInBounds_toArray, List.set_cons_zero, List.set_cons_succ, i64_w, i32_w]
      rfl
     refine pure_ (i := 5) (N := some 36) (v := ?_) (a' := ?_) #[true, true, true, true, true, true, false, true, false, false] rfl rfl (any_of HT_.out (by kernel_rfl)) (fun _ _ _ h => h) (Or.inl ⟨by rfl, ?_⟩) ?_ ?_
     rotate_left
     ·
      intro w'
      go_simp
      with_reducible rfl
     rotate_left
     ·
      simp only [Act.put, List.setIfInBounds_toArray, List.set_cons_zero, List.set_cons_succ, i64_w, i32_w]
      rfl
     refine pure_ (i := 6) (N := some 37) (v := ?_) (a' := ?_) #[true, true, true, true, true, true, true, true, false, false] rfl rfl (any_of HT_.out (by kernel_rfl)) (fun _ _ _ h => h) (Or.inl ⟨by rfl, ?_⟩) ?_ ?_
     rotate_left
     ·
      intro w'
      go_simp
      with_reducible rfl
     rotate_left
     ·
      simp only [Act.put, List.setIfInBounds_toArray, List.set_cons_zero, List.set_cons_succ, i64_w, i32_w]
      rfl
     exact norm_ (by simp only [putAll, Act.put, List.setIfInBounds_toArray, List.set_cons_zero, List.set_cons_succ]) (hCont (v225, gb228) _ ⟨hHeld, (by (with_reducible repeat (first | apply Kd.R_alloc | apply Kd.R_drewN | apply Kd.R_drew)); exact Kd.R_mono HO203.out (fun _ hk => ⟨hk.1.1, ⟨hk.1.2, hk.2⟩⟩)), (by (with_reducible repeat (first | apply Kd.R_alloc | apply Kd.R_drewN | apply Kd.R_drew)); exact Kd.R_mono HO209.out (fun _ hk => ⟨hk.1.1, ⟨hk.1.2, hk.2⟩⟩)), (by (with_reducible repeat (first | apply Kd.R_alloc | apply Kd.R_drewN | apply Kd.R_drew)); exact Kd.R_mono HO217.out (fun _ hk => ⟨hk.1.1, ⟨hk.1.2, hk.2⟩⟩)), (by (with_reducible repeat (first | apply Kd.R_alloc | apply Kd.R_drewN | apply Kd.R_drew)); exact Kd.R_mono HO226.out (fun _ hk => ⟨hk.1.1.2, ⟨hk.1.2, hk.2⟩⟩)), (bq BK193), (bq BK194), (bq BK211), (bq BK218), (bq BK228), GW228.out, GE228.out, NB193_228.out, NB228_193.out, NB194_228.out, NB228_194.out, NB211_228.out, NB228_211.out, NB218_228.out, NB228_218.out, (hq HB)⟩)
   ·
    refine box_step ?hg (N := 9) ?hd (cs := #[.int .i64 0, .int .i64 0, .int .i64 0, .slice none 0 0]) (t := 33) ?hr ?_; (case hd => rfl); (case hg => rfl); (case hr => first | (go_simp; done) | (go_simp; rfl))
    intro gb228 hg w45 hbox hb
    have n0_ := A_ (Kd.R_below (rq HO203) hb)
    have n1_ := A_ (Kd.R_below (rq HO209) hb)
    have n2_ := A_ (Kd.R_below (rq HO217) hb)
    have n3_ := A_ (blk_below (bq BK193) hb)
    have n4_ := A_ (blk_below (bq BK194) hb)
    have n5_ := A_ (blk_below (bq BK211) hb)
    have n6_ := A_ (blk_below (bq BK218) hb)
    have n7_ := A_ (below_step (hq HB) hb)
    have n8_ := A_ (hbox)
    have n9_ := A_ ((by rw [hg]; exact (below_size (hq HB)) : w.heap.size ≤ gb228))
    have n10_ := A_ ((by rw [hg]; exact (below_size (hq HB)) : w.heap.size ≤ gb228))
    have n11_ := A_ ((by rw [hg]; exact Nat.ne_of_lt (blk_lt (bq BK193)) : gb193 ≠ gb228))
    have n12_ := A_ ((by rw [hg]; exact Nat.ne_of_gt (blk_lt (bq BK193)) : gb228 ≠ gb193))
    have n13_ := A_ ((by rw [hg]; exact Nat.ne_of_lt (blk_lt (bq BK194)) : gb194 ≠ gb228))
    have n14_ := A_ ((by rw [hg]; exact Nat.ne_of_gt (blk_lt (bq BK194)) : gb228 ≠ gb194))
    have n15_ := A_ ((by rw [hg]; exact Nat.ne_of_lt (blk_lt (bq BK211)) : gb211 ≠ gb228))
    have n16_ := A_ ((by rw [hg]; exact Nat.ne_of_gt (blk_lt (bq BK211)) : gb228 ≠ gb211))
    have n17_ := A_ ((by rw [hg]; exact Nat.ne_of_lt (blk_lt (bq BK218)) : gb218 ≠ gb228))
    have n18_ := A_ ((by rw [hg]; exact Nat.ne_of_gt (blk_lt (bq BK218)) : gb228 ≠ gb218))
    clear HO203 HO209 HO217 BK193 BK194 BK211 BK218 HB; have HO203 := n0_; have HO209 := n1_; have HO217 := n2_; have BK193 := n3_; have BK194 := n4_; have BK211 := n5_; have BK218 := n6_; have HB := n7_; have BK228 := n8_; have GW228 := n9_; have GE228 := n10_; have NB193_228 := n11_; have NB228_193 := n12_; have NB194_228 := n13_; have NB228_194 := n14_; have NB211_228 := n15_; have NB228_211 := n16_; have NB218_228 := n17_; have NB228_218 := n18_; clear n0_ n1_ n2_ n3_ n4_ n5_ n6_ n7_ n8_ n9_ n10_ n11_ n12_ n13_ n14_ n15_ n16_ n17_ n18_ hb hbox hg
    refine hK.out _ _ ⟨bc BK193 0, bc BK193 1, bc BK218 0, bc BK218 1, bc BK218 2, bc BK218 3⟩ (fun hHeld => ?_)
    clear hK K
    refine norm_ (a' := ?_) ?_ ?_
    rotate_left
    ·
     show Act.put _ (some 9) _ = _
     simp only [Act.put, List.setIfInBounds_toArray, List.set_cons_zero, List.set_cons_succ, i64_w, i32_w]
     rfl
    refine one_ (i := 1) (N := some 33) #[true, true, true, false, false, false, false, true, false, false] rfl rfl (one_of HT_.out (by kernel_rfl)) (by decide) (fun K hK => ?_)
    refine goes_ Try.func12 (by kernel_rfl) rfl #[.agg #[.int .i64 a0_0, .bool a0_1]] (by rfl) rfl rfl gq ?_
    with_reducible refine (laws_toRoad.calls a0_0 a0_1 t219 t220 _ A14.out).mono ?_
    rintro e w46 ⟨rfl, hb⟩
    refine ⟨_, rfl, ?_⟩
    have n0_ := A_ (Kd.R_below (rq HO203) hb)
    have n1_ := A_ (Kd.R_below (rq HO209) hb)
    have n2_ := A_ (Kd.R_below (rq HO217) hb)
    have n3_ := A_ (blk_below (bq BK193) hb)
    have n4_ := A_ (blk_below (bq BK194) hb)
    have n5_ := A_ (blk_below (bq BK211) hb)
    have n6_ := A_ (blk_below (bq BK218) hb)
    have n7_ := A_ (blk_below (bq BK228) hb)
    have n8_ := A_ (below_step (hq HB) hb)
    clear HO203 HO209 HO217 BK193 BK194 BK211 BK218 BK228 HB; have HO203 := n0_; have HO209 := n1_; have HO217 := n2_; have BK193 := n3_; have BK194 := n4_; have BK211 := n5_; have BK218 := n6_; have BK228 := n7_; have HB := n8_; clear n0_ n1_ n2_ n3_ n4_ n5_ n6_ n7_ n8_; (try clear hb); (try clear hb2); (try clear hk); (try clear hi)
    refine hK.out _ _ ⟨bc BK193 0, bc BK193 1, bc BK218 0, bc BK218 1, bc BK218 2, bc BK218 3⟩ (fun hHeld => ?_)
    clear hK K
    refine norm_ (a' := ?_) ?_ ?_
    rotate_left
    ·
     show Act.put _ (some 33) _ = _
     simp only [Act.put, List.setIfInBounds_toArray, List.set_cons_zero, List.set_cons_succ, i64_w, i32_w]
     rfl
    refine one_ (i := 3) (N := some 35) #[true, true, true, true, false, false, false, true, false, false] rfl rfl (one_of HT_.out (by kernel_rfl)) (by decide) (fun K hK => ?_)
    refine goes_ Try.func21 (by kernel_rfl) rfl #[.agg #[.int .i64 t219, .bool t220], .agg #[.int .i64 t212, .int .i64 t213, .int .i64 t214, .slice Ao42 t215.length co42]] (by rfl) rfl rfl gq ?_
    with_reducible refine (impl_MirrorWalker.calls k t219 t220 t212 t213 t214 _ _ t215 t221 t222 t223 t224 t227 _ ?side1 ?side2 A15.out).mono ?_
    (case side1 => repeat (first | exact (Kd.R_reads' HO217.out).2.2 | (with_reducible refine Kd.C_alloc ?_ _) | (with_reducible refine Kd.C_drewN ?_ _) | (with_reducible refine Kd.C_drew ?_)))
    (case side2 => exact (Kd.R_reads' HO217.out).2.1)
    rintro e w47 ⟨v225, rfl, ho0, hb⟩
    refine ⟨_, rfl, ?_⟩
    have n0_ := A_ (Kd.R_elder' (rq HO203) (Kd.R_base ho0) hb)
    have n1_ := A_ (Kd.R_elder' (rq HO209) (Kd.R_base ho0) hb)
    have n2_ := A_ (Kd.R_elder' (rq HO217) (Kd.R_base ho0) hb)
    have n3_ := A_ (Kd.R_lower (Kd.R_new' (Kd.R_new' (Kd.R_new' ho0 (Kd.R_lt (rq HO203))) (Kd.R_lt (rq HO209))) (Kd.R_lt (rq HO217))) (below_size (hq HB)))
    have n4_ := A_ (blk_below (bq BK193) hb)
    have n5_ := A_ (blk_below (bq BK194) hb)
    have n6_ := A_ (blk_below (bq BK211) hb)
    have n7_ := A_ (blk_below (bq BK218) hb)
    have n8_ := A_ (blk_below (bq BK228) hb)
    have n9_ := A_ (below_step (hq HB) hb)
    clear HO203 HO209 HO217 BK193 BK194 BK211 BK218 BK228 HB; have HO203 := n0_; have HO209 := n1_; have HO217 := n2_; have HO226 := n3_; have BK193 := n4_; have BK194 := n5_; have BK211 := n6_; have BK218 := n7_; have BK228 := n8_; have HB := n9_; clear n0_ n1_ n2_ n3_ n4_ n5_ n6_ n7_ n8_ n9_; (try clear hb); (try clear hb2); (try clear hk); (try clear hi); (try clear ho0)
    refine hK.out _ _ ⟨bc BK193 0, bc BK193 1, bc BK218 0, bc BK218 1, bc BK218 2, bc BK218 3⟩ (fun hHeld => ?_)
    clear hK K
    refine norm_ (a' := ?_) ?_ ?_
    rotate_left
    ·
     show Act.put _ (some 35) _ = _
     simp only [Act.put, List.setIfInBounds_toArray, List.set_cons_zero, List.set_cons_succ, i64_w, i32_w]
     rfl
    refine pure_ (i := 4) (N := some 31) (v := ?_) (a' := ?_) #[true, true, true, true, true, false, false, true, false, false] rfl rfl (any_of HT_.out (by kernel_rfl)) (fun _ _ _ h => h) (Or.inl ⟨by rfl, ?_⟩) ?_ ?_
    rotate_left
    ·
     intro w'
     go_simp
     with_reducible rfl
    rotate_left
    ·
     simp only [Act.put, List.setIfInBounds_toArray, List.set_cons_zero, List.set_cons_succ, i64_w, i32_w]
     rfl
    refine pure_ (i := 5) (N := some 36) (v := ?_) (a' := ?_) #[true, true, true, true, true, true, false, true, false, false] rfl rfl (any_of HT_.out (by kernel_rfl)) (fun _ _ _ h => h) (Or.inl ⟨by rfl, ?_⟩) ?_ ?_
    rotate_left
    ·
     intro w'
     go_simp
     with_reducible rfl
    rotate_left
    ·
     simp only [Act.put, List.setIfInBounds_toArray, List.set_cons_zero, List.set_cons_succ, i64_w, i32_w]
     rfl
    refine pure_ (i := 6) (N := some 37) (v := ?_) (a' := ?_) #[true, true, true, true, true, true, true, true, false, false] rfl rfl (any_of HT_.out (by kernel_rfl)) (fun _ _ _ h => h) (Or.inl ⟨by rfl, ?_⟩) ?_ ?_
    rotate_left
    ·
     intro w'
     go_simp
     with_reducible rfl
    rotate_left
    ·
     simp only [Act.put, List.setIfInBounds_toArray, List.set_cons_zero, List.set_cons_succ, i64_w, i32_w]
     rfl
    exact norm_ (by simp only [putAll, Act.put, List.setIfInBounds_toArray, List.set_cons_zero, List.set_cons_succ]) (hCont (v225, gb228) _ ⟨hHeld, (by (with_reducible repeat (first | apply Kd.R_alloc | apply Kd.R_drewN | apply Kd.R_drew)); exact Kd.R_mono HO203.out (fun _ hk => ⟨hk.1.1, ⟨hk.1.2, hk.2⟩⟩)), (by (with_reducible repeat (first | apply Kd.R_alloc | apply Kd.R_drewN | apply Kd.R_drew)); exact Kd.R_mono HO209.out (fun _ hk => ⟨hk.1.1, ⟨hk.1.2, hk.2⟩⟩)), (by (with_reducible repeat (first | apply Kd.R_alloc | apply Kd.R_drewN | apply Kd.R_drew)); exact Kd.R_mono HO217.out (fun _ hk => ⟨hk.1.1, ⟨hk.1.2, hk.2⟩⟩)), (by (with_reducible repeat (first | apply Kd.R_alloc | apply Kd.R_drewN | apply Kd.R_drew)); exact Kd.R_mono HO226.out (fun _ hk => ⟨hk.1.1.2, ⟨hk.1.2, hk.2⟩⟩)), (bq BK193), (bq BK194), (bq BK211), (bq BK218), (bq BK228), GW228.out, GE228.out, NB193_228.out, NB228_193.out, NB194_228.out, NB228_194.out, NB211_228.out, NB228_211.out, NB218_228.out, NB228_218.out, (hq HB)⟩)
  rintro ⟨v225, gb228⟩ w48 ⟨hS_, h0_, h1_, h2_, h3_, h4_, h5_, h6_, h7_, h8_, h9_, h10_, h11_, h12_, h13_, h14_, h15_, h16_, h17_, h18_, h19_⟩
  have n0_ : Aside0 (Kd.R (Kd.int .i64) 3 w48 w.heap.size (fun k_ => some k_ ≠ (.slice Ao32 t207.length co32 : Value).ownBlock ∧ some k_ ≠ (.slice Ao42 t215.length co42 : Value).ownBlock ∧ some k_ ≠ (v225 : Value).ownBlock) v202 t201) := ⟨h0_⟩
  have n1_ : Aside0 (Kd.R (Kd.int .i64) 3 w48 w.heap.size (fun k_ => some k_ ≠ (v202 : Value).ownBlock ∧ some k_ ≠ (.slice Ao42 t215.length co42 : Value).ownBlock ∧ some k_ ≠ (v225 : Value).ownBlock) (.slice Ao32 t207.length co32) t207) := ⟨h1_⟩
  have n2_ : Aside0 (Kd.R (Kd.int .i64) 3 w48 w.heap.size (fun k_ => some k_ ≠ (v202 : Value).ownBlock ∧ some k_ ≠ (.slice Ao32 t207.length co32 : Value).ownBlock ∧ some k_ ≠ (v225 : Value).ownBlock) (.slice Ao42 t215.length co42) t215) := ⟨h2_⟩
  have n3_ : Aside0 (Kd.R (Kd.int .i64) 3 w48 w.heap.size (fun k_ => some k_ ≠ (v202 : Value).ownBlock ∧ some k_ ≠ (.slice Ao32 t207.length co32 : Value).ownBlock ∧ some k_ ≠ (.slice Ao42 t215.length co42 : Value).ownBlock) v225 t224) := ⟨h3_⟩
  have n4_ : Aside0 (w48.heap[gb193]? = some (.cells #[.int .i64 a0_0, .bool a0_1] 23 (0, 0))) := ⟨h4_⟩
  have n5_ : Aside0 (w48.heap[gb194]? = some (.cells #[.int .i64 a1_0, .int .i64 a1_1, .int .i64 a1_2, .slice A1_3 l1_3.length c1_3] 26 (0, 0))) := ⟨h5_⟩
  have n6_ : Aside0 (w48.heap[gb211]? = some (.cells #[.int .i64 t204, .int .i64 t205, .int .i64 t206, .slice Ao32 t207.length co32] 33 (0, 0))) := ⟨h6_⟩
  have n7_ : Aside0 (w48.heap[gb218]? = some (.cells #[.int .i64 t212, .int .i64 t213, .int .i64 t214, .slice Ao42 t215.length co42] 33 (0, 0))) := ⟨h7_⟩
  have n8_ : Aside0 (w48.heap[gb228]? = some (.cells #[.int .i64 0, .int .i64 0, .int .i64 0, .slice none 0 0] 33 (0, 0))) := ⟨h8_⟩
  have n9_ : Aside0 (w.heap.size ≤ gb228) := ⟨h9_⟩
  have n10_ : Aside0 (w.heap.size ≤ gb228) := ⟨h10_⟩
  have n11_ : Aside0 (gb193 ≠ gb228) := ⟨h11_⟩
  have n12_ : Aside0 (gb228 ≠ gb193) := ⟨h12_⟩
  have n13_ : Aside0 (gb194 ≠ gb228) := ⟨h13_⟩
  have n14_ : Aside0 (gb228 ≠ gb194) := ⟨h14_⟩
  have n15_ : Aside0 (gb211 ≠ gb228) := ⟨h15_⟩
  have n16_ : Aside0 (gb228 ≠ gb211) := ⟨h16_⟩
  have n17_ : Aside0 (gb218 ≠ gb228) := ⟨h17_⟩
  have n18_ : Aside0 (gb228 ≠ gb218) := ⟨h18_⟩
  have n19_ : Aside0 (Below w.heap.size w w48) := ⟨h19_⟩
  clear HO203 HO209 HO217 BK193 BK194 BK211 BK218 HB h0_ h1_ h2_ h3_ h4_ h5_ h6_ h7_ h8_ h9_ h10_ h11_ h12_ h13_ h14_ h15_ h16_ h17_ h18_ h19_; have HO203 := n0_; have HO209 := n1_; have HO217 := n2_; have HO226 := n3_; have BK193 := n4_; have BK194 := n5_; have BK211 := n6_; have BK218 := n7_; have BK228 := n8_; have GW228 := n9_; have GE228 := n10_; have NB193_228 := n11_; have NB228_193 := n12_; have NB194_228 := n13_; have NB228_194 := n14_; have NB211_228 := n15_; have NB228_211 := n16_; have NB218_228 := n17_; have NB228_218 := n18_; have HB := n19_; clear n0_ n1_ n2_ n3_ n4_ n5_ n6_ n7_ n8_ n9_ n10_ n11_ n12_ n13_ n14_ n15_ n16_ n17_ n18_ n19_
  have hHeld : w48.cell? ⟨gb193, 0, none⟩ = some (.int .i64 a0_0) ∧ w48.cell? ⟨gb193, 1, none⟩ = some (.bool a0_1) ∧ w48.cell? ⟨gb218, 0, none⟩ = some (.int .i64 t212) ∧ w48.cell? ⟨gb218, 1, none⟩ = some (.int .i64 t213) ∧ w48.cell? ⟨gb218, 2, none⟩ = some (.int .i64 t214) ∧ w48.cell? ⟨gb218, 3, none⟩ = some (.slice Ao42 t215.length co42) := hS_
  obtain ⟨Ao52, co52, eo52⟩ := Kd.R_slice HO226.out
  (first | subst eo52 | (injection eo52 with f1_ f2_ f3_; have f4_ := f1_.symm; have f5_ := f3_.symm; clear f1_ f2_ f3_; subst f4_; subst f5_))
  refine norm_ (a' := ?_) ?_ ?_
  rotate_left
  ·
   simp only [putAll, Act.put, List.setIfInBounds_toArray, List.set_cons_zero, List.set_cons_succ]
   rfl
  refine one_ (i := 8) (N := none) #[true, true, true, true, true, true, true, true, true, false] rfl rfl (one_of HT_.out (by kernel_rfl)) (by decide) (fun K hK => ?_)
  have hs49 : w48.cell? ⟨gb228, 0, none⟩ = some (.int .i64 0) := bc BK228 0
  have hfs49 := blk_frozen BK228.out 0
  have hns49_0 := NB193_228.out
  have hns49_1 := NB194_228.out
  have hns49_2 := NB211_228.out
  have hns49_3 := NB218_228.out
  have hms49_0 := NB228_193.out
  have hms49_1 := NB228_194.out
  have hms49_2 := NB228_211.out
  have hms49_3 := NB228_218.out
  have hs50 : w48.cell? ⟨gb228, 1, none⟩ = some (.int .i64 0) := bc BK228 1
  have hfs50 := blk_frozen BK228.out 1
  have hns50_0 := NB193_228.out
  have hns50_1 := NB194_228.out
  have hns50_2 := NB211_228.out
  have hns50_3 := NB218_228.out
  have hms50_0 := NB228_193.out
  have hms50_1 := NB228_194.out
  have hms50_2 := NB228_211.out
  have hms50_3 := NB228_218.out
  have hs51 : w48.cell? ⟨gb228, 2, none⟩ = some (.int .i64 0) := bc BK228 2
  have hfs51 := blk_frozen BK228.out 2
  have hns51_0 := NB193_228.out
  have hns51_1 := NB194_228.out
  have hns51_2 := NB211_228.out
  have hns51_3 := NB218_228.out
  have hms51_0 := NB228_193.out
  have hms51_1 := NB228_194.out
  have hms51_2 := NB228_211.out
  have hms51_3 := NB228_218.out
  have hs53 : w48.cell? ⟨gb228, 3, none⟩ = some (.slice none 0 0) := bc BK228 3
  have hfs53 := blk_frozen BK228.out 3
  have hns53_0 := NB193_228.out
  have hns53_1 := NB194_228.out
  have hns53_2 := NB211_228.out
  have hns53_3 := NB218_228.out
  have hms53_0 := NB228_193.out
  have hms53_1 := NB228_194.out
  have hms53_2 := NB228_211.out
  have hms53_3 := NB228_218.out
  refine skip_ (w1 := ?_) (by rfl) rfl ?_ ?_
  rotate_left
  ·
   go_simp
   rfl
  refine hK.out _ _ ⟨((cell_far (p := ⟨gb228, _, none⟩) NB193_228.out _).trans (((cell_far (p := ⟨gb228, _, none⟩) NB193_228.out _).trans (((cell_far (p := ⟨gb228, _, none⟩) NB193_228.out _).trans (((cell_far (p := ⟨gb228, _, none⟩) NB193_228.out _).trans (hHeld.1)))))))), ((cell_far (p := ⟨gb228, _, none⟩) NB193_228.out _).trans (((cell_far (p := ⟨gb228, _, none⟩) NB193_228.out _).trans (((cell_far (p := ⟨gb228, _, none⟩) NB193_228.out _).trans (((cell_far (p := ⟨gb228, _, none⟩) NB193_228.out _).trans (hHeld.2.1)))))))), ((cell_far (p := ⟨gb228, _, none⟩) NB218_228.out _).trans (((cell_far (p := ⟨gb228, _, none⟩) NB218_228.out _).trans (((cell_far (p := ⟨gb228, _, none⟩) NB218_228.out _).trans (((cell_far (p := ⟨gb228, _, none⟩) NB218_228.out _).trans (hHeld.2.2.1)))))))), ((cell_far (p := ⟨gb228, _, none⟩) NB218_228.out _).trans (((cell_far (p := ⟨gb228, _, none⟩) NB218_228.out _).trans (((cell_far (p := ⟨gb228, _, none⟩) NB218_228.out _).trans (((cell_far (p := ⟨gb228, _, none⟩) NB218_228.out _).trans (hHeld.2.2.2.1)))))))), ((cell_far (p := ⟨gb228, _, none⟩) NB218_228.out _).trans (((cell_far (p := ⟨gb228, _, none⟩) NB218_228.out _).trans (((cell_far (p := ⟨gb228, _, none⟩) NB218_228.out _).trans (((cell_far (p := ⟨gb228, _, none⟩) NB218_228.out _).trans (hHeld.2.2.2.2.1)))))))), ((cell_far (p := ⟨gb228, _, none⟩) NB218_228.out _).trans (((cell_far (p := ⟨gb228, _, none⟩) NB218_228.out _).trans (((cell_far (p := ⟨gb228, _, none⟩) NB218_228.out _).trans (((cell_far (p := ⟨gb228, _, none⟩) NB218_228.out _).trans (hHeld.2.2.2.2.2))))))))⟩ (fun hHeld => ?_)
  clear hK K
  refine pure_ (i := 9) (N := some 10) (v := ?_) (a' := ?_) #[true, true, true, true, true, true, true, true, true, true] rfl rfl (any_of HT_.out (by kernel_rfl)) (fun _ _ _ h => h) (Or.inl ⟨by rfl, ?_⟩) ?_ ?_
  rotate_left
  ·
   intro w'
   go_simp
   with_reducible rfl
  rotate_left
  ·
   simp only [Act.put, List.setIfInBounds_toArray, List.set_cons_zero, List.set_cons_succ, i64_w, i32_w]
   rfl
  refine done_ (done_of HT_.out (by kernel_rfl)) ?_
  go_upto_region 8 with (fail)
  go_cut [46] (fun v46 wc => ∃ (kq : Nat) (x46_15 : Bool), v46 = .bool x46_15 ∧ Aside0 (laws_FnExactMirrorWalker.j0 kq t210 t227 x46_15 a0_0 a0_1 a1_0 a1_1 a1_2 l1_3 t204 t205 t206 t207 t212 t213 t214 t215 t221 t222 t223 t224 = some r) ∧ Aside0 (kq ≤ k) ∧ Aside0 (Kd.R (Kd.int .i64) 3 wc w.heap.size (fun k_ => some k_ ≠ ((.slice Ao42 t215.length co42) : Value).ownBlock ∧ some k_ ≠ ((.slice Ao52 t224.length co52) : Value).ownBlock) (.slice Ao32 t207.length co32) t207) ∧ Aside0 (Kd.R (Kd.int .i64) 3 wc w.heap.size (fun k_ => some k_ ≠ ((.slice Ao32 t207.length co32) : Value).ownBlock ∧ some k_ ≠ ((.slice Ao52 t224.length co52) : Value).ownBlock) (.slice Ao42 t215.length co42) t215) ∧ Aside0 (Kd.R (Kd.int .i64) 3 wc w.heap.size (fun k_ => some k_ ≠ ((.slice Ao32 t207.length co32) : Value).ownBlock ∧ some k_ ≠ ((.slice Ao42 t215.length co42) : Value).ownBlock) (.slice Ao52 t224.length co52) t224) ∧ Aside0 (wc.heap[gb193]? = some (.cells #[.int .i64 a0_0, .bool a0_1] 23 (0, 0))) ∧ Aside0 (wc.heap[gb194]? = some (.cells #[.int .i64 a1_0, .int .i64 a1_1, .int .i64 a1_2, (.slice A1_3 l1_3.length c1_3)] 26 (0, 0))) ∧ Aside0 (wc.heap[gb211]? = some (.cells #[.int .i64 t204, .int .i64 t205, .int .i64 t206, (.slice Ao32 t207.length co32)] 33 (0, 0))) ∧ Aside0 (wc.heap[gb218]? = some (.cells #[.int .i64 t212, .int .i64 t213, .int .i64 t214, (.slice Ao42 t215.length co42)] 33 (0, 0))) ∧ Aside0 (wc.heap[gb228]? = some (.cells #[.int .i64 t221, .int .i64 t222, .int .i64 t223, (.slice Ao52 t224.length co52)] 33 (0, 0))) ∧ Aside0 (Below w.heap.size w wc))
  case first =>
   have H := HC16.out
   clear HC16
   replace H := Option.bind_eq_some_iff.mp H
   obtain ⟨t229, A540, H⟩ := H
   replace H : (if t229 = true then (laws_FnExactMirrorWalker.j0 k t210 t227 (t227 != t210) a0_0 a0_1 a1_0 a1_1 a1_2 l1_3 t204 t205 t206 t207 t212 t213 t214 t215 t221 t222 t223 t224) else (laws_FnExactMirrorWalker.j0 k t210 t227 true a0_0 a0_1 a1_0 a1_1 a1_2 l1_3 t204 t205 t206 t207 t212 t213 t214 t215 t221 t222 t223 t224)) = some r := H
   have A54 := A_ A540
   clear A540
   by_cases c55 : t229 = true
   ·
    subst c55
    have H1 : (laws_FnExactMirrorWalker.j0 k t210 t227 (t227 != t210) a0_0 a0_1 a1_0 a1_1 a1_2 l1_3 t204 t205 t206 t207 t212 t213 t214 t215 t221 t222 t223 t224) = some r := by rw [if_pos rfl] at H; exact H
    clear H
    have H := H1
    clear H1
    have H' := A_ H
    clear H
    have hnb56 := NB228_193.out
    have hnc56 := NB193_228.out
    have hnb57 := NB228_194.out
    have hnc57 := NB194_228.out
    have hnb58 := NB228_211.out
    have hnc58 := NB211_228.out
    have hnb59 := NB228_218.out
    have hnc59 := NB218_228.out
    have hcz60_0 : w48.cell? ⟨gb228, 0, none⟩ = some (.int .i64 0) := bc BK228 0
    have hcz60_1 : w48.cell? ⟨gb228, 1, none⟩ = some (.int .i64 0) := bc BK228 1
    have hcz60_2 : w48.cell? ⟨gb228, 2, none⟩ = some (.int .i64 0) := bc BK228 2
    have hcz60_3 : w48.cell? ⟨gb228, 3, none⟩ = some (.slice none 0 0) := bc BK228 3
    have hfz60_0 := blk_frozen BK228.out 0
    have hfz60_1 := blk_frozen BK228.out 1
    have hfz60_2 := blk_frozen BK228.out 2
    have hfz60_3 := blk_frozen BK228.out 3
    have hnb61 := NB211_193.out
    have hnc61 := NB193_211.out
    have hnb62 := NB211_194.out
    have hnc62 := NB194_211.out
    have hnb63 := NB211_218.out
    have hnc63 := NB218_211.out
    have hcz64_0 : w48.cell? ⟨gb211, 0, none⟩ = some (.int .i64 t204) := bc BK211 0
    have hcz64_1 : w48.cell? ⟨gb211, 1, none⟩ = some (.int .i64 t205) := bc BK211 1
    have hcz64_2 : w48.cell? ⟨gb211, 2, none⟩ = some (.int .i64 t206) := bc BK211 2
    have hcz64_3 : w48.cell? ⟨gb211, 3, none⟩ = some (.slice Ao32 t207.length co32) := bc BK211 3
    have hfz64_0 := blk_frozen BK211.out 0
    have hfz64_1 := blk_frozen BK211.out 1
    have hfz64_2 := blk_frozen BK211.out 2
    have hfz64_3 := blk_frozen BK211.out 3
    go_wp2_with (first | ((with_reducible refine gate_callee (f := 16) rfl ?_); refine goesL_ (some 40) rfl rfl Try.func16 (by kernel_rfl) rfl #[.agg #[.int .i64 t221, .int .i64 t222, .int .i64 t223, .slice Ao52 t224.length co52], .agg #[.int .i64 t204, .int .i64 t205, .int .i64 t206, .slice Ao32 t207.length co32]] rfl gq ?_; (with_reducible refine (laws_eqWalker.calls k t221 t222 t223 _ _ t224 t204 t205 t206 _ _ t207 true _ ?side1 ?side2 ?side3 ?side4 A54.out).mono ?_); (case side1 => refine (Kd.R_reads' (e := 3) (base := w.heap.size) (ok := fun k_ => (some k_ ≠ (v202 : Value).ownBlock ∧ (some k_ ≠ (.slice Ao32 t207.length co32 : Value).ownBlock ∧ some k_ ≠ (.slice Ao42 t215.length co42 : Value).ownBlock))) (n := t224.length) (c := co52) ?_).2.2; exact (by (with_reducible repeat (first | apply Kd.R_alloc | apply Kd.R_drewN | apply Kd.R_drew)); exact (Kd.R_mono (Kd.R_far (p := ⟨gb228, 3, none⟩) (Kd.R_far (p := ⟨gb228, 2, none⟩) (Kd.R_far (p := ⟨gb228, 1, none⟩) (Kd.R_far (p := ⟨gb228, 0, none⟩) (Kd.R_types HO226.out BK228.out (by decide)) (fun _ => cj) (.int .i64 t221)) (fun _ => cj) (.int .i64 t222)) (fun _ => cj) (.int .i64 t223)) (fun _ => cj) (.slice Ao52 t224.length co52)) (fun _ h_ => h_.1)))); (case side2 => exact (Kd.R_reads' HO226.out).2.1); (case side3 => refine (Kd.R_reads' (e := 3) (base := w.heap.size) (ok := fun k_ => (some k_ ≠ (v202 : Value).ownBlock ∧ (some k_ ≠ (.slice Ao42 t215.length co42 : Value).ownBlock ∧ some k_ ≠ (.slice Ao52 t224.length co52 : Value).ownBlock))) (n := t207.length) (c := co32) ?_).2.2; exact (by (with_reducible repeat (first | apply Kd.R_alloc | apply Kd.R_drewN | apply Kd.R_drew)); exact (Kd.R_mono (Kd.R_far (p := ⟨gb228, 3, none⟩) (Kd.R_far (p := ⟨gb228, 2, none⟩) (Kd.R_far (p := ⟨gb228, 1, none⟩) (Kd.R_far (p := ⟨gb228, 0, none⟩) (Kd.R_types HO209.out BK228.out (by decide)) (fun _ => cj) (.int .i64 t221)) (fun _ => cj) (.int .i64 t222)) (fun _ => cj) (.int .i64 t223)) (fun _ => cj) (.slice Ao52 t224.length co52)) (fun _ h_ => h_.1)))); (case side4 => exact (Kd.R_reads' HO209.out).2.1); rintro e w65 ⟨rfl, hb⟩; refine ⟨_, rfl, ?_⟩; have n0_ := A_ (Kd.R_below (by (with_reducible repeat (first | apply Kd.R_alloc | apply Kd.R_drewN | apply Kd.R_drew)); exact (Kd.R_mono (Kd.R_far (p := ⟨gb228, 3, none⟩) (Kd.R_far (p := ⟨gb228, 2, none⟩) (Kd.R_far (p := ⟨gb228, 1, none⟩) (Kd.R_far (p := ⟨gb228, 0, none⟩) (Kd.R_types HO203.out BK228.out (by decide)) (fun _ => cj) (.int .i64 t221)) (fun _ => cj) (.int .i64 t222)) (fun _ => cj) (.int .i64 t223)) (fun _ => cj) (.slice Ao52 t224.length co52)) (fun _ h_ => h_.1))) hb); have n1_ := A_ (Kd.R_below (by (with_reducible repeat (first | apply Kd.R_alloc | apply Kd.R_drewN | apply Kd.R_drew)); exact (Kd.R_mono (Kd.R_far (p := ⟨gb228, 3, none⟩) (Kd.R_far (p := ⟨gb228, 2, none⟩) (Kd.R_far (p := ⟨gb228, 1, none⟩) (Kd.R_far (p := ⟨gb228, 0, none⟩) (Kd.R_types HO209.out BK228.out (by decide)) (fun _ => cj) (.int .i64 t221)) (fun _ => cj) (.int .i64 t222)) (fun _ => cj) (.int .i64 t223)) (fun _ => cj) (.slice Ao52 t224.length co52)) (fun _ h_ => h_.1))) hb); have n2_ := A_ (Kd.R_below (by (with_reducible repeat (first | apply Kd.R_alloc | apply Kd.R_drewN | apply Kd.R_drew)); exact (Kd.R_mono (Kd.R_far (p := ⟨gb228, 3, none⟩) (Kd.R_far (p := ⟨gb228, 2, none⟩) (Kd.R_far (p := ⟨gb228, 1, none⟩) (Kd.R_far (p := ⟨gb228, 0, none⟩) (Kd.R_types HO217.out BK228.out (by decide)) (fun _ => cj) (.int .i64 t221)) (fun _ => cj) (.int .i64 t222)) (fun _ => cj) (.int .i64 t223)) (fun _ => cj) (.slice Ao52 t224.length co52)) (fun _ h_ => h_.1))) hb); have n3_ := A_ (Kd.R_below (by (with_reducible repeat (first | apply Kd.R_alloc | apply Kd.R_drewN | apply Kd.R_drew)); exact (Kd.R_mono (Kd.R_far (p := ⟨gb228, 3, none⟩) (Kd.R_far (p := ⟨gb228, 2, none⟩) (Kd.R_far (p := ⟨gb228, 1, none⟩) (Kd.R_far (p := ⟨gb228, 0, none⟩) (Kd.R_types HO226.out BK228.out (by decide)) (fun _ => cj) (.int .i64 t221)) (fun _ => cj) (.int .i64 t222)) (fun _ => cj) (.int .i64 t223)) (fun _ => cj) (.slice Ao52 t224.length co52)) (fun _ h_ => h_.1))) hb); have n4_ := A_ (blk_below (g := gb193) (o := .cells #[.int .i64 a0_0, .bool a0_1] 23 (0, 0)) (by (with_reducible repeat (first | refine blk_drewN ?_ _ | refine blk_drew ?_ | refine blk_alloc ?_ _)); refine blk_far ?_ NB193_228.out _; (with_reducible repeat (first | refine blk_drewN ?_ _ | refine blk_drew ?_ | refine blk_alloc ?_ _)); refine blk_far ?_ NB193_228.out _; (with_reducible repeat (first | refine blk_drewN ?_ _ | refine blk_drew ?_ | refine blk_alloc ?_ _)); refine blk_far ?_ NB193_228.out _; (with_reducible repeat (first | refine blk_drewN ?_ _ | refine blk_drew ?_ | refine blk_alloc ?_ _)); refine blk_far ?_ NB193_228.out _; (with_reducible repeat (first | refine blk_drewN ?_ _ | refine blk_drew ?_ | refine blk_alloc ?_ _)); exact BK193.out) hb); have n5_ := A_ (blk_below (g := gb194) (o := .cells #[.int .i64 a1_0, .int .i64 a1_1, .int .i64 a1_2, .slice A1_3 l1_3.length c1_3] 26 (0, 0)) (by (with_reducible repeat (first | refine blk_drewN ?_ _ | refine blk_drew ?_ | refine blk_alloc ?_ _)); refine blk_far ?_ NB194_228.out _; (with_reducible repeat (first | refine blk_drewN ?_ _ | refine blk_drew ?_ | refine blk_alloc ?_ _)); refine blk_far ?_ NB194_228.out _; (with_reducible repeat (first | refine blk_drewN ?_ _ | refine blk_drew ?_ | refine blk_alloc ?_ _)); refine blk_far ?_ NB194_228.out _; (with_reducible repeat (first | refine blk_drewN ?_ _ | refine blk_drew ?_ | refine blk_alloc ?_ _)); refine blk_far ?_ NB194_228.out _; (with_reducible repeat (first | refine blk_drewN ?_ _ | refine blk_drew ?_ | refine blk_alloc ?_ _)); exact BK194.out) hb); have n6_ := A_ (blk_below (g := gb211) (o := .cells #[.int .i64 t204, .int .i64 t205, .int .i64 t206, .slice Ao32 t207.length co32] 33 (0, 0)) (by (with_reducible repeat (first | refine blk_drewN ?_ _ | refine blk_drew ?_ | refine blk_alloc ?_ _)); refine blk_far ?_ NB211_228.out _; (with_reducible repeat (first | refine blk_drewN ?_ _ | refine blk_drew ?_ | refine blk_alloc ?_ _)); refine blk_far ?_ NB211_228.out _; (with_reducible repeat (first | refine blk_drewN ?_ _ | refine blk_drew ?_ | refine blk_alloc ?_ _)); refine blk_far ?_ NB211_228.out _; (with_reducible repeat (first | refine blk_drewN ?_ _ | refine blk_drew ?_ | refine blk_alloc ?_ _)); refine blk_far ?_ NB211_228.out _; (with_reducible repeat (first | refine blk_drewN ?_ _ | refine blk_drew ?_ | refine blk_alloc ?_ _)); exact BK211.out) hb); have n7_ := A_ (blk_below (g := gb218) (o := .cells #[.int .i64 t212, .int .i64 t213, .int .i64 t214, .slice Ao42 t215.length co42] 33 (0, 0)) (by (with_reducible repeat (first | refine blk_drewN ?_ _ | refine blk_drew ?_ | refine blk_alloc ?_ _)); refine blk_far ?_ NB218_228.out _; (with_reducible repeat (first | refine blk_drewN ?_ _ | refine blk_drew ?_ | refine blk_alloc ?_ _)); refine blk_far ?_ NB218_228.out _; (with_reducible repeat (first | refine blk_drewN ?_ _ | refine blk_drew ?_ | refine blk_alloc ?_ _)); refine blk_far ?_ NB218_228.out _; (with_reducible repeat (first | refine blk_drewN ?_ _ | refine blk_drew ?_ | refine blk_alloc ?_ _)); refine blk_far ?_ NB218_228.out _; (with_reducible repeat (first | refine blk_drewN ?_ _ | refine blk_drew ?_ | refine blk_alloc ?_ _)); exact BK218.out) hb); have n8_ := A_ (blk_below (g := gb228) (o := .cells #[.int .i64 t221, .int .i64 t222, .int .i64 t223, .slice Ao52 t224.length co52] 33 (0, 0)) (by (with_reducible repeat (first | refine blk_drewN ?_ _ | refine blk_drew ?_ | refine blk_alloc ?_ _)); refine blk_put (cs := #[.int .i64 t221, .int .i64 t222, .int .i64 t223, .slice none 0 0]) ?_ 3 _ rfl; (with_reducible repeat (first | refine blk_drewN ?_ _ | refine blk_drew ?_ | refine blk_alloc ?_ _)); refine blk_put (cs := #[.int .i64 t221, .int .i64 t222, .int .i64 0, .slice none 0 0]) ?_ 2 _ rfl; (with_reducible repeat (first | refine blk_drewN ?_ _ | refine blk_drew ?_ | refine blk_alloc ?_ _)); refine blk_put (cs := #[.int .i64 t221, .int .i64 0, .int .i64 0, .slice none 0 0]) ?_ 1 _ rfl; (with_reducible repeat (first | refine blk_drewN ?_ _ | refine blk_drew ?_ | refine blk_alloc ?_ _)); refine blk_put (cs := #[.int .i64 0, .int .i64 0, .int .i64 0, .slice none 0 0]) ?_ 0 _ rfl; (with_reducible repeat (first | refine blk_drewN ?_ _ | refine blk_drew ?_ | refine blk_alloc ?_ _)); exact BK228.out) hb); have n9_ := A_ (below_step (hq HB) hb); clear HO203; clear HO209; clear HO217; clear HO226; clear BK193; clear BK194; clear BK211; clear BK218; clear BK228; clear HB; have HO203 := n0_; have HO209 := n1_; have HO217 := n2_; have HO226 := n3_; have BK193 := n4_; have BK194 := n5_; have BK211 := n6_; have BK218 := n7_; have BK228 := n8_; have HB := n9_; clear n0_ n1_ n2_ n3_ n4_ n5_ n6_ n7_ n8_ n9_; (try clear hb); (try clear hb2); (try clear hk); (try clear hi)))
    go_meet
    case rel => exact ⟨_, ((t227 != t210)), (by first | rfl | (simp; done) | (simp [*]; done)), H', ⟨by first | omega | exact Nat.le_refl _⟩, ⟨by (with_reducible repeat (first | apply Kd.R_alloc | apply Kd.R_drewN | apply Kd.R_drew)); exact Kd.R_mono HO209.out (fun _ => cj)⟩, ⟨by (with_reducible repeat (first | apply Kd.R_alloc | apply Kd.R_drewN | apply Kd.R_drew)); exact Kd.R_mono HO217.out (fun _ => cj)⟩, ⟨by (with_reducible repeat (first | apply Kd.R_alloc | apply Kd.R_drewN | apply Kd.R_drew)); exact Kd.R_mono HO226.out (fun _ => cj)⟩, ⟨bq BK193⟩, ⟨bq BK194⟩, ⟨bq BK211⟩, ⟨bq BK218⟩, ⟨bq BK228⟩, ⟨by repeat (first | (with_reducible first | exact HB.out | apply below_alloc | apply pw_below_drewN | apply below_drew1 | refine below_set ?_ GE193.out | refine below_set ?_ GE194.out | refine below_set ?_ GE211.out | refine below_set ?_ GE218.out | refine below_set ?_ GE228.out) | exact HB.out)⟩⟩
   ·
    replace c55 := Bool.eq_false_iff.mpr c55
    subst c55
    have H1 : (laws_FnExactMirrorWalker.j0 k t210 t227 true a0_0 a0_1 a1_0 a1_1 a1_2 l1_3 t204 t205 t206 t207 t212 t213 t214 t215 t221 t222 t223 t224) = some r := by rw [if_neg (show ¬ (false = true) by decide)] at H; exact H
    clear H
    have H := H1
    clear H1
    have H' := A_ H
    clear H
    have hnb66 := NB228_193.out
    have hnc66 := NB193_228.out
    have hnb67 := NB228_194.out
    have hnc67 := NB194_228.out
    have hnb68 := NB228_211.out
    have hnc68 := NB211_228.out
    have hnb69 := NB228_218.out
    have hnc69 := NB218_228.out
    have hcz70_0 : w48.cell? ⟨gb228, 0, none⟩ = some (.int .i64 0) := bc BK228 0
    have hcz70_1 : w48.cell? ⟨gb228, 1, none⟩ = some (.int .i64 0) := bc BK228 1
    have hcz70_2 : w48.cell? ⟨gb228, 2, none⟩ = some (.int .i64 0) := bc BK228 2
    have hcz70_3 : w48.cell? ⟨gb228, 3, none⟩ = some (.slice none 0 0) := bc BK228 3
    have hfz70_0 := blk_frozen BK228.out 0
    have hfz70_1 := blk_frozen BK228.out 1
    have hfz70_2 := blk_frozen BK228.out 2
    have hfz70_3 := blk_frozen BK228.out 3
    have hnb71 := NB211_193.out
    have hnc71 := NB193_211.out
    have hnb72 := NB211_194.out
    have hnc72 := NB194_211.out
    have hnb73 := NB211_218.out
    have hnc73 := NB218_211.out
    have hcz74_0 : w48.cell? ⟨gb211, 0, none⟩ = some (.int .i64 t204) := bc BK211 0
    have hcz74_1 : w48.cell? ⟨gb211, 1, none⟩ = some (.int .i64 t205) := bc BK211 1
    have hcz74_2 : w48.cell? ⟨gb211, 2, none⟩ = some (.int .i64 t206) := bc BK211 2
    have hcz74_3 : w48.cell? ⟨gb211, 3, none⟩ = some (.slice Ao32 t207.length co32) := bc BK211 3
    have hfz74_0 := blk_frozen BK211.out 0
    have hfz74_1 := blk_frozen BK211.out 1
    have hfz74_2 := blk_frozen BK211.out 2
    have hfz74_3 := blk_frozen BK211.out 3
    go_wp2_with (first | ((with_reducible refine gate_callee (f := 16) rfl ?_); refine goesL_ (some 40) rfl rfl Try.func16 (by kernel_rfl) rfl #[.agg #[.int .i64 t221, .int .i64 t222, .int .i64 t223, .slice Ao52 t224.length co52], .agg #[.int .i64 t204, .int .i64 t205, .int .i64 t206, .slice Ao32 t207.length co32]] rfl gq ?_; (with_reducible refine (laws_eqWalker.calls k t221 t222 t223 _ _ t224 t204 t205 t206 _ _ t207 false _ ?side1 ?side2 ?side3 ?side4 A54.out).mono ?_); (case side1 => refine (Kd.R_reads' (e := 3) (base := w.heap.size) (ok := fun k_ => (some k_ ≠ (v202 : Value).ownBlock ∧ (some k_ ≠ (.slice Ao32 t207.length co32 : Value).ownBlock ∧ some k_ ≠ (.slice Ao42 t215.length co42 : Value).ownBlock))) (n := t224.length) (c := co52) ?_).2.2; exact (by (with_reducible repeat (first | apply Kd.R_alloc | apply Kd.R_drewN | apply Kd.R_drew)); exact (Kd.R_mono (Kd.R_far (p := ⟨gb228, 3, none⟩) (Kd.R_far (p := ⟨gb228, 2, none⟩) (Kd.R_far (p := ⟨gb228, 1, none⟩) (Kd.R_far (p := ⟨gb228, 0, none⟩) (Kd.R_types HO226.out BK228.out (by decide)) (fun _ => cj) (.int .i64 t221)) (fun _ => cj) (.int .i64 t222)) (fun _ => cj) (.int .i64 t223)) (fun _ => cj) (.slice Ao52 t224.length co52)) (fun _ h_ => h_.1)))); (case side2 => exact (Kd.R_reads' HO226.out).2.1); (case side3 => refine (Kd.R_reads' (e := 3) (base := w.heap.size) (ok := fun k_ => (some k_ ≠ (v202 : Value).ownBlock ∧ (some k_ ≠ (.slice Ao42 t215.length co42 : Value).ownBlock ∧ some k_ ≠ (.slice Ao52 t224.length co52 : Value).ownBlock))) (n := t207.length) (c := co32) ?_).2.2; exact (by (with_reducible repeat (first | apply Kd.R_alloc | apply Kd.R_drewN | apply Kd.R_drew)); exact (Kd.R_mono (Kd.R_far (p := ⟨gb228, 3, none⟩) (Kd.R_far (p := ⟨gb228, 2, none⟩) (Kd.R_far (p := ⟨gb228, 1, none⟩) (Kd.R_far (p := ⟨gb228, 0, none⟩) (Kd.R_types HO209.out BK228.out (by decide)) (fun _ => cj) (.int .i64 t221)) (fun _ => cj) (.int .i64 t222)) (fun _ => cj) (.int .i64 t223)) (fun _ => cj) (.slice Ao52 t224.length co52)) (fun _ h_ => h_.1)))); (case side4 => exact (Kd.R_reads' HO209.out).2.1); rintro e w75 ⟨rfl, hb⟩; refine ⟨_, rfl, ?_⟩; have n0_ := A_ (Kd.R_below (by (with_reducible repeat (first | apply Kd.R_alloc | apply Kd.R_drewN | apply Kd.R_drew)); exact (Kd.R_mono (Kd.R_far (p := ⟨gb228, 3, none⟩) (Kd.R_far (p := ⟨gb228, 2, none⟩) (Kd.R_far (p := ⟨gb228, 1, none⟩) (Kd.R_far (p := ⟨gb228, 0, none⟩) (Kd.R_types HO203.out BK228.out (by decide)) (fun _ => cj) (.int .i64 t221)) (fun _ => cj) (.int .i64 t222)) (fun _ => cj) (.int .i64 t223)) (fun _ => cj) (.slice Ao52 t224.length co52)) (fun _ h_ => h_.1))) hb); have n1_ := A_ (Kd.R_below (by (with_reducible repeat (first | apply Kd.R_alloc | apply Kd.R_drewN | apply Kd.R_drew)); exact (Kd.R_mono (Kd.R_far (p := ⟨gb228, 3, none⟩) (Kd.R_far (p := ⟨gb228, 2, none⟩) (Kd.R_far (p := ⟨gb228, 1, none⟩) (Kd.R_far (p := ⟨gb228, 0, none⟩) (Kd.R_types HO209.out BK228.out (by decide)) (fun _ => cj) (.int .i64 t221)) (fun _ => cj) (.int .i64 t222)) (fun _ => cj) (.int .i64 t223)) (fun _ => cj) (.slice Ao52 t224.length co52)) (fun _ h_ => h_.1))) hb); have n2_ := A_ (Kd.R_below (by (with_reducible repeat (first | apply Kd.R_alloc | apply Kd.R_drewN | apply Kd.R_drew)); exact (Kd.R_mono (Kd.R_far (p := ⟨gb228, 3, none⟩) (Kd.R_far (p := ⟨gb228, 2, none⟩) (Kd.R_far (p := ⟨gb228, 1, none⟩) (Kd.R_far (p := ⟨gb228, 0, none⟩) (Kd.R_types HO217.out BK228.out (by decide)) (fun _ => cj) (.int .i64 t221)) (fun _ => cj) (.int .i64 t222)) (fun _ => cj) (.int .i64 t223)) (fun _ => cj) (.slice Ao52 t224.length co52)) (fun _ h_ => h_.1))) hb); have n3_ := A_ (Kd.R_below (by (with_reducible repeat (first | apply Kd.R_alloc | apply Kd.R_drewN | apply Kd.R_drew)); exact (Kd.R_mono (Kd.R_far (p := ⟨gb228, 3, none⟩) (Kd.R_far (p := ⟨gb228, 2, none⟩) (Kd.R_far (p := ⟨gb228, 1, none⟩) (Kd.R_far (p := ⟨gb228, 0, none⟩) (Kd.R_types HO226.out BK228.out (by decide)) (fun _ => cj) (.int .i64 t221)) (fun _ => cj) (.int .i64 t222)) (fun _ => cj) (.int .i64 t223)) (fun _ => cj) (.slice Ao52 t224.length co52)) (fun _ h_ => h_.1))) hb); have n4_ := A_ (blk_below (g := gb193) (o := .cells #[.int .i64 a0_0, .bool a0_1] 23 (0, 0)) (by (with_reducible repeat (first | refine blk_drewN ?_ _ | refine blk_drew ?_ | refine blk_alloc ?_ _)); refine blk_far ?_ NB193_228.out _; (with_reducible repeat (first | refine blk_drewN ?_ _ | refine blk_drew ?_ | refine blk_alloc ?_ _)); refine blk_far ?_ NB193_228.out _; (with_reducible repeat (first | refine blk_drewN ?_ _ | refine blk_drew ?_ | refine blk_alloc ?_ _)); refine blk_far ?_ NB193_228.out _; (with_reducible repeat (first | refine blk_drewN ?_ _ | refine blk_drew ?_ | refine blk_alloc ?_ _)); refine blk_far ?_ NB193_228.out _; (with_reducible repeat (first | refine blk_drewN ?_ _ | refine blk_drew ?_ | refine blk_alloc ?_ _)); exact BK193.out) hb); have n5_ := A_ (blk_below (g := gb194) (o := .cells #[.int .i64 a1_0, .int .i64 a1_1, .int .i64 a1_2, .slice A1_3 l1_3.length c1_3] 26 (0, 0)) (by (with_reducible repeat (first | refine blk_drewN ?_ _ | refine blk_drew ?_ | refine blk_alloc ?_ _)); refine blk_far ?_ NB194_228.out _; (with_reducible repeat (first | refine blk_drewN ?_ _ | refine blk_drew ?_ | refine blk_alloc ?_ _)); refine blk_far ?_ NB194_228.out _; (with_reducible repeat (first | refine blk_drewN ?_ _ | refine blk_drew ?_ | refine blk_alloc ?_ _)); refine blk_far ?_ NB194_228.out _; (with_reducible repeat (first | refine blk_drewN ?_ _ | refine blk_drew ?_ | refine blk_alloc ?_ _)); refine blk_far ?_ NB194_228.out _; (with_reducible repeat (first | refine blk_drewN ?_ _ | refine blk_drew ?_ | refine blk_alloc ?_ _)); exact BK194.out) hb); have n6_ := A_ (blk_below (g := gb211) (o := .cells #[.int .i64 t204, .int .i64 t205, .int .i64 t206, .slice Ao32 t207.length co32] 33 (0, 0)) (by (with_reducible repeat (first | refine blk_drewN ?_ _ | refine blk_drew ?_ | refine blk_alloc ?_ _)); refine blk_far ?_ NB211_228.out _; (with_reducible repeat (first | refine blk_drewN ?_ _ | refine blk_drew ?_ | refine blk_alloc ?_ _)); refine blk_far ?_ NB211_228.out _; (with_reducible repeat (first | refine blk_drewN ?_ _ | refine blk_drew ?_ | refine blk_alloc ?_ _)); refine blk_far ?_ NB211_228.out _; (with_reducible repeat (first | refine blk_drewN ?_ _ | refine blk_drew ?_ | refine blk_alloc ?_ _)); refine blk_far ?_ NB211_228.out _; (with_reducible repeat (first | refine blk_drewN ?_ _ | refine blk_drew ?_ | refine blk_alloc ?_ _)); exact BK211.out) hb); have n7_ := A_ (blk_below (g := gb218) (o := .cells #[.int .i64 t212, .int .i64 t213, .int .i64 t214, .slice Ao42 t215.length co42] 33 (0, 0)) (by (with_reducible repeat (first | refine blk_drewN ?_ _ | refine blk_drew ?_ | refine blk_alloc ?_ _)); refine blk_far ?_ NB218_228.out _; (with_reducible repeat (first | refine blk_drewN ?_ _ | refine blk_drew ?_ | refine blk_alloc ?_ _)); refine blk_far ?_ NB218_228.out _; (with_reducible repeat (first | refine blk_drewN ?_ _ | refine blk_drew ?_ | refine blk_alloc ?_ _)); refine blk_far ?_ NB218_228.out _; (with_reducible repeat (first | refine blk_drewN ?_ _ | refine blk_drew ?_ | refine blk_alloc ?_ _)); refine blk_far ?_ NB218_228.out _; (with_reducible repeat (first | refine blk_drewN ?_ _ | refine blk_drew ?_ | refine blk_alloc ?_ _)); exact BK218.out) hb); have n8_ := A_ (blk_below (g := gb228) (o := .cells #[.int .i64 t221, .int .i64 t222, .int .i64 t223, .slice Ao52 t224.length co52] 33 (0, 0)) (by (with_reducible repeat (first | refine blk_drewN ?_ _ | refine blk_drew ?_ | refine blk_alloc ?_ _)); refine blk_put (cs := #[.int .i64 t221, .int .i64 t222, .int .i64 t223, .slice none 0 0]) ?_ 3 _ rfl; (with_reducible repeat (first | refine blk_drewN ?_ _ | refine blk_drew ?_ | refine blk_alloc ?_ _)); refine blk_put (cs := #[.int .i64 t221, .int .i64 t222, .int .i64 0, .slice none 0 0]) ?_ 2 _ rfl; (with_reducible repeat (first | refine blk_drewN ?_ _ | refine blk_drew ?_ | refine blk_alloc ?_ _)); refine blk_put (cs := #[.int .i64 t221, .int .i64 0, .int .i64 0, .slice none 0 0]) ?_ 1 _ rfl; (with_reducible repeat (first | refine blk_drewN ?_ _ | refine blk_drew ?_ | refine blk_alloc ?_ _)); refine blk_put (cs := #[.int .i64 0, .int .i64 0, .int .i64 0, .slice none 0 0]) ?_ 0 _ rfl; (with_reducible repeat (first | refine blk_drewN ?_ _ | refine blk_drew ?_ | refine blk_alloc ?_ _)); exact BK228.out) hb); have n9_ := A_ (below_step (hq HB) hb); clear HO203; clear HO209; clear HO217; clear HO226; clear BK193; clear BK194; clear BK211; clear BK218; clear BK228; clear HB; have HO203 := n0_; have HO209 := n1_; have HO217 := n2_; have HO226 := n3_; have BK193 := n4_; have BK194 := n5_; have BK211 := n6_; have BK218 := n7_; have BK228 := n8_; have HB := n9_; clear n0_ n1_ n2_ n3_ n4_ n5_ n6_ n7_ n8_ n9_; (try clear hb); (try clear hb2); (try clear hk); (try clear hi)))
    go_meet
    case rel => exact ⟨_, (true), (by first | rfl | (simp; done) | (simp [*]; done)), H', ⟨by first | omega | exact Nat.le_refl _⟩, ⟨by (with_reducible repeat (first | apply Kd.R_alloc | apply Kd.R_drewN | apply Kd.R_drew)); exact Kd.R_mono HO209.out (fun _ => cj)⟩, ⟨by (with_reducible repeat (first | apply Kd.R_alloc | apply Kd.R_drewN | apply Kd.R_drew)); exact Kd.R_mono HO217.out (fun _ => cj)⟩, ⟨by (with_reducible repeat (first | apply Kd.R_alloc | apply Kd.R_drewN | apply Kd.R_drew)); exact Kd.R_mono HO226.out (fun _ => cj)⟩, ⟨bq BK193⟩, ⟨bq BK194⟩, ⟨bq BK211⟩, ⟨bq BK218⟩, ⟨bq BK228⟩, ⟨by repeat (first | (with_reducible first | exact HB.out | apply below_alloc | apply pw_below_drewN | apply below_drew1 | refine below_set ?_ GE193.out | refine below_set ?_ GE194.out | refine below_set ?_ GE211.out | refine below_set ?_ GE218.out | refine below_set ?_ GE228.out) | exact HB.out)⟩⟩
  case rest =>
   clear HC16
   try clear c1
   try clear c2
   try clear p2
   try clear c5
   try clear c6
   try clear c7
   try clear c12
   try clear c16
   try clear c21
   try clear c55
   try clear c56
   try clear c57
   try clear c58
   try clear c59
   try clear c61
   try clear c62
   try clear c63
   try clear c66
   try clear c67
   try clear c68
   try clear c69
   try clear c71
   try clear c72
   try clear c73
   try clear hcz60_0
   try clear hcz60_1
   try clear hcz60_2
   try clear hcz60_3
   try clear hcz64_0
   try clear hcz64_1
   try clear hcz64_2
   try clear hcz64_3
   try clear hcz70_0
   try clear hcz70_1
   try clear hcz70_2
   try clear hcz70_3
   try clear hcz74_0
   try clear hcz74_1
   try clear hcz74_2
   try clear hcz74_3
   try clear hfz60_0
   try clear hfz60_1
   try clear hfz60_2
   try clear hfz60_3
   try clear hfz64_0
   try clear hfz64_1
   try clear hfz64_2
   try clear hfz64_3
   try clear hfz70_0
   try clear hfz70_1
   try clear hfz70_2
   try clear hfz70_3
   try clear hfz74_0
   try clear hfz74_1
   try clear hfz74_2
   try clear hfz74_3
   obtain ⟨kq, x46_15, rfl, HA, HJ15, HO_212003, HO_219003, HO_229003, BK193, BK194, BK211, BK218, BK228, HB⟩ := hcut
   cases kq with
   | zero => exact absurd HA.out (by simp [laws_FnExactMirrorWalker.j0])
   | succ kj15 =>
    have H := HA.out
    clear HA
    simp only [laws_FnExactMirrorWalker.j0] at H
    by_cases c76 : x46_15 = true
    ·
     subst c76
     have H1 : (some false) = some r := by rw [if_pos rfl] at H; exact H
     clear H
     have H := H1
     clear H1
     obtain rfl := Option.some.inj H
     exact absurd hr_ (by decide)
    ·
     replace c76 := Bool.eq_false_iff.mpr c76
     subst c76
     have H1 : ((laws_toWalker.f kj15 a1_0 a1_1 a1_2 l1_3).bind fun bt230 => ((laws_eqWalker.f kj15 t212 t213 t214 t215 bt230.1 bt230.2.1 bt230.2.2.1 bt230.2.2.2).bind fun t236 => (if t236 = true then ((laws_markWalker.f kj15 t212 t213 t214 t215 1).bind fun bt237 => (if bt237.1 < 0 then (laws_FnExactMirrorWalker.j1 kj15 t210 true a0_0 a0_1 a1_0 a1_1 a1_2 l1_3 t204 t205 t206 t207 t221 t222 t223 t224) else ((laws_eqWalker.f kj15 t221 t222 t223 t224 t204 t205 t206 t207).bind fun t239 => (if t239 = true then (laws_FnExactMirrorWalker.j1 kj15 t210 (t227 != t210) a0_0 a0_1 a1_0 a1_1 a1_2 l1_3 t204 t205 t206 t207 t221 t222 t223 t224) else (laws_FnExactMirrorWalker.j1 kj15 t210 true a0_0 a0_1 a1_0 a1_1 a1_2 l1_3 t204 t205 t206 t207 t221 t222 t223 t224))))) else (some false)))) = some r := by rw [if_neg (show ¬ (false = true) by decide)] at H; exact H
     clear H
     have H := H1
     clear H1
     replace H := Option.bind_eq_some_iff.mp H
     obtain ⟨⟨t230, t231, t232, t233⟩, A770, H⟩ := H
     replace H : ((laws_eqWalker.f kj15 t212 t213 t214 t215 t230 t231 t232 t233).bind fun t236 => (if t236 = true then ((laws_markWalker.f kj15 t212 t213 t214 t215 1).bind fun bt237 => (if bt237.1 < 0 then (laws_FnExactMirrorWalker.j1 kj15 t210 true a0_0 a0_1 a1_0 a1_1 a1_2 l1_3 t204 t205 t206 t207 t221 t222 t223 t224) else ((laws_eqWalker.f kj15 t221 t222 t223 t224 t204 t205 t206 t207).bind fun t239 => (if t239 = true then (laws_FnExactMirrorWalker.j1 kj15 t210 (t227 != t210) a0_0 a0_1 a1_0 a1_1 a1_2 l1_3 t204 t205 t206 t207 t221 t222 t223 t224) else (laws_FnExactMirrorWalker.j1 kj15 t210 true a0_0 a0_1 a1_0 a1_1 a1_2 l1_3 t204 t205 t206 t207 t221 t222 t223 t224))))) else (some false))) = some r := H
     have A77 := A_ A770
     clear A770
     replace H := Option.bind_eq_some_iff.mp H
     obtain ⟨t236, A780, H⟩ := H
     replace H : (if t236 = true then ((laws_markWalker.f kj15 t212 t213 t214 t215 1).bind fun bt237 => (if bt237.1 < 0 then (laws_FnExactMirrorWalker.j1 kj15 t210 true a0_0 a0_1 a1_0 a1_1 a1_2 l1_3 t204 t205 t206 t207 t221 t222 t223 t224) else ((laws_eqWalker.f kj15 t221 t222 t223 t224 t204 t205 t206 t207).bind fun t239 => (if t239 = true then (laws_FnExactMirrorWalker.j1 kj15 t210 (t227 != t210) a0_0 a0_1 a1_0 a1_1 a1_2 l1_3 t204 t205 t206 t207 t221 t222 t223 t224) else (laws_FnExactMirrorWalker.j1 kj15 t210 true a0_0 a0_1 a1_0 a1_1 a1_2 l1_3 t204 t205 t206 t207 t221 t222 t223 t224))))) else (some false)) = some r := H
     have A78 := A_ A780
     clear A780
     by_cases c79 : t236 = true
     ·
      subst c79
      have H1 : ((laws_markWalker.f kj15 t212 t213 t214 t215 1).bind fun bt237 => (if bt237.1 < 0 then (laws_FnExactMirrorWalker.j1 kj15 t210 true a0_0 a0_1 a1_0 a1_1 a1_2 l1_3 t204 t205 t206 t207 t221 t222 t223 t224) else ((laws_eqWalker.f kj15 t221 t222 t223 t224 t204 t205 t206 t207).bind fun t239 => (if t239 = true then (laws_FnExactMirrorWalker.j1 kj15 t210 (t227 != t210) a0_0 a0_1 a1_0 a1_1 a1_2 l1_3 t204 t205 t206 t207 t221 t222 t223 t224) else (laws_FnExactMirrorWalker.j1 kj15 t210 true a0_0 a0_1 a1_0 a1_1 a1_2 l1_3 t204 t205 t206 t207 t221 t222 t223 t224))))) = some r := by rw [if_pos rfl] at H; exact H
      clear H
      have H := H1
      clear H1
      replace H := Option.bind_eq_some_iff.mp H
      obtain ⟨⟨t237, t238⟩, A800, H⟩ := H
      replace H : (if t237 < 0 then (laws_FnExactMirrorWalker.j1 kj15 t210 true a0_0 a0_1 a1_0 a1_1 a1_2 l1_3 t204 t205 t206 t207 t221 t222 t223 t224) else ((laws_eqWalker.f kj15 t221 t222 t223 t224 t204 t205 t206 t207).bind fun t239 => (if t239 = true then (laws_FnExactMirrorWalker.j1 kj15 t210 (t227 != t210) a0_0 a0_1 a1_0 a1_1 a1_2 l1_3 t204 t205 t206 t207 t221 t222 t223 t224) else (laws_FnExactMirrorWalker.j1 kj15 t210 true a0_0 a0_1 a1_0 a1_1 a1_2 l1_3 t204 t205 t206 t207 t221 t222 t223 t224)))) = some r := H
      have A80 := A_ A800
      clear A800
      have HC81 := A_ H
      clear H
      try go_wp2
      have n0_ := A_ (Kd.R_drew HO_212003.out)
      have n1_ := A_ (Kd.R_drew HO_219003.out)
      have n2_ := A_ (Kd.R_drew HO_229003.out)
      have n3_ := A_ (blk_drew BK193.out)
      have n4_ := A_ (blk_drew BK194.out)
      have n5_ := A_ (blk_drew BK211.out)
      have n6_ := A_ (blk_drew BK218.out)
      have n7_ := A_ (blk_drew BK228.out)
      have n8_ := A_ (below_drew1 HB.out)
      clear HO_212003 HO_219003 HO_229003 BK193 BK194 BK211 BK218 BK228 HB; have HO_212003 := n0_; have HO_219003 := n1_; have HO_229003 := n2_; have BK193 := n3_; have BK194 := n4_; have BK211 := n5_; have BK218 := n6_; have BK228 := n7_; have HB := n8_; clear n0_ n1_ n2_ n3_ n4_ n5_ n6_ n7_ n8_
      refine start_ (n := 5) (S := fun w' => w'.cell? ⟨gb218, 0, none⟩ = some (.int .i64 t212) ∧ w'.cell? ⟨gb218, 1, none⟩ = some (.int .i64 t213) ∧ w'.cell? ⟨gb218, 2, none⟩ = some (.int .i64 t214) ∧ w'.cell? ⟨gb218, 3, none⟩ = some (.slice Ao42 t215.length co42) ∧ w'.cell? ⟨gb194, 0, none⟩ = some (.int .i64 a1_0) ∧ w'.cell? ⟨gb194, 1, none⟩ = some (.int .i64 a1_1) ∧ w'.cell? ⟨gb194, 2, none⟩ = some (.int .i64 a1_2) ∧ w'.cell? ⟨gb194, 3, none⟩ = some (.slice A1_3 l1_3.length c1_3)) (ds := []) #[false, false, false, false, false] (by kernel_rfl) rfl rfl ⟨bc BK218 0, bc BK218 1, bc BK218 2, bc BK218 3, bc BK194 0, bc BK194 1, bc BK194 2, bc BK194 3⟩ (fun hHeld => ?_)
      generalize wc.drew = w82 at HO_212003 HO_219003 HO_229003 BK193 BK194 BK211 BK218 BK228 HB hHeld ⊢
      refine take_ (i := 0) (N := some 47) (v := ?_) (a' := ?_) #[true, false, false, false, false] rfl rfl (by kernel_rfl) (fun _ _ _ h => h) (Or.inl ⟨by rfl, ?_⟩) hHeld ?_ ?_
      rotate_left
      ·
       rintro w' ⟨s0, s1, s2, s3, s4, s5, s6, s7⟩
       go_simp
       with_reducible rfl
      rotate_left
      ·
       simp only [Act.put, List.setIfInBounds_toArray, List.set_cons_zero, List.set_cons_succ, i64_w, i32_w]
       rfl
      refine take_ (i := 1) (N := some 48) (v := ?_) (a' := ?_) #[true, true, false, false, false] rfl rfl (by kernel_rfl) (fun _ _ _ h => h) (Or.inl ⟨by rfl, ?_⟩) hHeld ?_ ?_
      rotate_left
      ·
       rintro w' ⟨s0, s1, s2, s3, s4, s5, s6, s7⟩
       go_simp
       with_reducible rfl
      rotate_left
      ·
       simp only [Act.put, List.setIfInBounds_toArray, List.set_cons_zero, List.set_cons_succ, i64_w, i32_w]
       rfl
      refine one_ (i := 2) (N := some 49) #[true, true, true, false, false] rfl rfl (by kernel_rfl) (by decide) (fun K hK => ?_)
      refine goes_ Try.func13 (by kernel_rfl) rfl #[.agg #[.int .i64 a1_0, .int .i64 a1_1, .int .i64 a1_2, .slice A1_3 l1_3.length c1_3]] (by rfl) rfl rfl gq ?_
      with_reducible refine (laws_toWalker.calls kj15 a1_0 a1_1 a1_2 _ _ l1_3 t230 t231 t232 t233 _ ?side1 ?side2 A77.out).mono ?_
      (case side1 => repeat (first | exact (Kd.C_below HR1_3.out HB.out) | (with_reducible refine Kd.C_alloc ?_ _) | (with_reducible refine Kd.C_drewN ?_ _) | (with_reducible refine Kd.C_drew ?_)))
      (case side2 => exact HC1_3.out)
      rintro e w83 ⟨v234, rfl, ho0, hb⟩
      refine ⟨_, rfl, ?_⟩
      have n0_ := A_ (Kd.R_elder' (rq HO_212003) (Kd.R_base ho0) hb)
      have n1_ := A_ (Kd.R_elder' (rq HO_219003) (Kd.R_base ho0) hb)
      have n2_ := A_ (Kd.R_elder' (rq HO_229003) (Kd.R_base ho0) hb)
      have n3_ := A_ (Kd.R_lower (Kd.R_new' (Kd.R_new' (Kd.R_new' ho0 (Kd.R_lt (rq HO_212003))) (Kd.R_lt (rq HO_219003))) (Kd.R_lt (rq HO_229003))) (below_size (hq HB)))
      have n4_ := A_ (blk_below (bq BK193) hb)
      have n5_ := A_ (blk_below (bq BK194) hb)
      have n6_ := A_ (blk_below (bq BK211) hb)
      have n7_ := A_ (blk_below (bq BK218) hb)
      have n8_ := A_ (blk_below (bq BK228) hb)
      have n9_ := A_ (below_step (hq HB) hb)
      clear HO_212003 HO_219003 HO_229003 BK193 BK194 BK211 BK218 BK228 HB; have HO_212003 := n0_; have HO_219003 := n1_; have HO_229003 := n2_; have HO235 := n3_; have BK193 := n4_; have BK194 := n5_; have BK211 := n6_; have BK218 := n7_; have BK228 := n8_; have HB := n9_; clear n0_ n1_ n2_ n3_ n4_ n5_ n6_ n7_ n8_ n9_; (try clear hb); (try clear hb2); (try clear hk); (try clear hi); (try clear ho0)
      obtain ⟨Ao84, co84, eo84⟩ := Kd.R_slice HO235.out
      (first | subst eo84 | (injection eo84 with f1_ f2_ f3_; have f4_ := f1_.symm; have f5_ := f3_.symm; clear f1_ f2_ f3_; subst f4_; subst f5_))
      refine hK.out _ _ ⟨bc BK218 0, bc BK218 1, bc BK218 2, bc BK218 3, bc BK194 0, bc BK194 1, bc BK194 2, bc BK194 3⟩ (fun hHeld => ?_)
      clear hK K
      refine norm_ (a' := ?_) ?_ ?_
      rotate_left
      ·
       show Act.put _ (some 49) _ = _
       simp only [Act.put, List.setIfInBounds_toArray, List.set_cons_zero, List.set_cons_succ, i64_w, i32_w]
       rfl
      refine one_ (i := 3) (N := some 50) #[true, true, true, true, false] rfl rfl (by kernel_rfl) (by decide) (fun K hK => ?_)
      refine goes_ Try.func16 (by kernel_rfl) rfl #[.agg #[.int .i64 t212, .int .i64 t213, .int .i64 t214, .slice Ao42 t215.length co42], .agg #[.int .i64 t230, .int .i64 t231, .int .i64 t232, .slice Ao84 t233.length co84]] (by rfl) rfl rfl gq ?_
      with_reducible refine (laws_eqWalker.calls kj15 t212 t213 t214 _ _ t215 t230 t231 t232 _ _ t233 true _ ?side1 ?side2 ?side3 ?side4 A78.out).mono ?_
      (case side1 => repeat (first | exact (Kd.R_reads' HO_219003.out).2.2 | (with_reducible refine Kd.C_alloc ?_ _) | (with_reducible refine Kd.C_drewN ?_ _) | (with_reducible refine Kd.C_drew ?_)))
      (case side2 => exact (Kd.R_reads' HO_219003.out).2.1)
      (case side3 => repeat (first | exact (Kd.R_reads' HO235.out).2.2 | (with_reducible refine Kd.C_alloc ?_ _) | (with_reducible refine Kd.C_drewN ?_ _) | (with_reducible refine Kd.C_drew ?_)))
      (case side4 => exact (Kd.R_reads' HO235.out).2.1)
      rintro e w85 ⟨rfl, hb⟩
      refine ⟨_, rfl, ?_⟩
      have n0_ := A_ (Kd.R_below (rq HO_212003) hb)
      have n1_ := A_ (Kd.R_below (rq HO_219003) hb)
      have n2_ := A_ (Kd.R_below (rq HO_229003) hb)
      have n3_ := A_ (Kd.R_below (rq HO235) hb)
      have n4_ := A_ (blk_below (bq BK193) hb)
      have n5_ := A_ (blk_below (bq BK194) hb)
      have n6_ := A_ (blk_below (bq BK211) hb)
      have n7_ := A_ (blk_below (bq BK218) hb)
      have n8_ := A_ (blk_below (bq BK228) hb)
      have n9_ := A_ (below_step (hq HB) hb)
      clear HO_212003 HO_219003 HO_229003 HO235 BK193 BK194 BK211 BK218 BK228 HB; have HO_212003 := n0_; have HO_219003 := n1_; have HO_229003 := n2_; have HO235 := n3_; have BK193 := n4_; have BK194 := n5_; have BK211 := n6_; have BK218 := n7_; have BK228 := n8_; have HB := n9_; clear n0_ n1_ n2_ n3_ n4_ n5_ n6_ n7_ n8_ n9_; (try clear hb); (try clear hb2); (try clear hk); (try clear hi)
      refine hK.out _ _ ⟨bc BK218 0, bc BK218 1, bc BK218 2, bc BK218 3, bc BK194 0, bc BK194 1, bc BK194 2, bc BK194 3⟩ (fun hHeld => ?_)
      clear hK K
      refine norm_ (a' := ?_) ?_ ?_
      rotate_left
      ·
       show Act.put _ (some 50) _ = _
       simp only [Act.put, List.setIfInBounds_toArray, List.set_cons_zero, List.set_cons_succ, i64_w, i32_w]
       rfl
      refine pure_ (i := 4) (N := some 51) (v := ?_) (a' := ?_) #[true, true, true, true, true] rfl rfl (by kernel_rfl) (fun _ _ _ h => h) (Or.inl ⟨by rfl, ?_⟩) ?_ ?_
      rotate_left
      ·
       intro w'
       go_simp
       with_reducible rfl
      rotate_left
      ·
       simp only [Act.put, List.setIfInBounds_toArray, List.set_cons_zero, List.set_cons_succ, i64_w, i32_w]
       rfl
      refine done_ (by kernel_rfl) ?_
      have hnb86 := NB218_193.out
      have hnc86 := NB193_218.out
      have hnb87 := NB218_194.out
      have hnc87 := NB194_218.out
      have hnb88 := NB218_211.out
      have hnc88 := NB211_218.out
      have hnb89 := NB218_228.out
      have hnc89 := NB228_218.out
      have hcz90_0 : w85.cell? ⟨gb218, 0, none⟩ = some (.int .i64 t212) := bc BK218 0
      have hcz90_1 : w85.cell? ⟨gb218, 1, none⟩ = some (.int .i64 t213) := bc BK218 1
      have hcz90_2 : w85.cell? ⟨gb218, 2, none⟩ = some (.int .i64 t214) := bc BK218 2
      have hcz90_3 : w85.cell? ⟨gb218, 3, none⟩ = some (.slice Ao42 t215.length co42) := bc BK218 3
      have hfz90_0 := blk_frozen BK218.out 0
      have hfz90_1 := blk_frozen BK218.out 1
      have hfz90_2 := blk_frozen BK218.out 2
      have hfz90_3 := blk_frozen BK218.out 3
      go_upto_region 14 with (first | ((with_reducible refine gate_callee (f := 17) rfl ?_); refine goesL_ (some 54) rfl rfl Try.func17 (by kernel_rfl) rfl #[.agg #[.int .i64 t212, .int .i64 t213, .int .i64 t214, .slice Ao42 t215.length co42], .int .i64 1] rfl gq ?_; (with_reducible refine (laws_markWalker.calls kj15 t212 t213 t214 (fun k_ => some k_ = (.slice Ao42 t215.length co42 : Value).ownBlock) (.slice Ao42 t215.length co42) t215 1 t237 t238 w _ ?side1 ?side2 A80.out).mono ?_); (case side1 => repeat (first | (with_reducible first | exact HB.out | apply below_alloc | apply pw_below_drewN | apply below_drew1 | refine below_set ?_ GE193.out | refine below_set ?_ GE194.out | refine below_set ?_ GE211.out | refine below_set ?_ GE218.out | refine below_set ?_ GE228.out) | exact HB.out)); (case side2 => exact Kd.R_tight rfl HO_219003.out); rintro e w91 ⟨rfl, hy0, hb, hkp⟩; refine ⟨_, rfl, ?_⟩; have n0_ := A_ (Kd.R_mono (ok' := fun k_ => some k_ ≠ (.slice Ao42 t215.length co42 : Value).ownBlock ∧ some k_ ≠ (.slice Ao52 t224.length co52 : Value).ownBlock ∧ some k_ ≠ (.slice Ao84 t233.length co84 : Value).ownBlock) (Kd.R_keptB (HO_212003.out) hkp (fun k_ hk_ hs_ => (hk_.1.1) hs_)) (fun k_ hk_ => ⟨hk_.1.1.1, hk_.1.1.2, hk_.1.2⟩)); have n1_ := A_ (Kd.R_reok rfl hy0 (fun k_ e_ => HO_219003.out.1 k_ e_)); have n2_ := A_ (Kd.R_mono (ok' := fun k_ => some k_ ≠ (.slice Ao32 t207.length co32 : Value).ownBlock ∧ some k_ ≠ (.slice Ao42 t215.length co42 : Value).ownBlock ∧ some k_ ≠ (.slice Ao84 t233.length co84 : Value).ownBlock) (Kd.R_keptB (HO_229003.out) hkp (fun k_ hk_ hs_ => (hk_.1.2) hs_)) (fun k_ hk_ => ⟨hk_.1.1.1, hk_.1.1.2, hk_.1.2⟩)); have n3_ := A_ (blk_kept (bq BK193) hkp (fun hs_ => (fun e_ => (Kd.R_ne HO_219003.out BK193.out (by decide)) e_) hs_)); have n4_ := A_ (blk_kept (bq BK194) hkp (fun hs_ => (fun e_ => (Kd.R_ne HO_219003.out BK194.out (by decide)) e_) hs_)); have n5_ := A_ (blk_kept (bq BK211) hkp (fun hs_ => (fun e_ => (Kd.R_ne HO_219003.out BK211.out (by decide)) e_) hs_)); have n6_ := A_ (blk_kept (bq BK218) hkp (fun hs_ => (fun e_ => (Kd.R_ne HO_219003.out BK218.out (by decide)) e_) hs_)); have n7_ := A_ (blk_kept (bq BK228) hkp (fun hs_ => (fun e_ => (Kd.R_ne HO_219003.out BK228.out (by decide)) e_) hs_)); have n8_ := A_ (Kd.R_mono (ok' := fun k_ => some k_ ≠ (.slice Ao32 t207.length co32 : Value).ownBlock ∧ some k_ ≠ (.slice Ao42 t215.length co42 : Value).ownBlock ∧ some k_ ≠ (.slice Ao52 t224.length co52 : Value).ownBlock) (Kd.R_keptB (HO235.out) hkp (fun k_ hk_ hs_ => (hk_.1.2) hs_)) (fun k_ hk_ => ⟨hk_.1.1.1.2, hk_.1.1.2, hk_.1.2⟩)); have n9_ := A_ (hb); clear HO_212003; clear HO_219003; clear HO_229003; clear BK193; clear BK194; clear BK211; clear BK218; clear BK228; clear HO235; clear HB; have HO_212003 := n0_; have HO_219003 := n1_; have HO_229003 := n2_; have BK193 := n3_; have BK194 := n4_; have BK211 := n5_; have BK218 := n6_; have BK228 := n7_; have HO235 := n8_; have HB := n9_; clear n0_ n1_ n2_ n3_ n4_ n5_ n6_ n7_ n8_ n9_; (try clear hb); (try clear hkp); (try clear hy0)))
      (try simp only [Act.put, List.setIfInBounds_toArray, List.set_cons_zero, List.set_cons_succ])
      go_cut [67] (fun v67 wc => ∃ (kq : Nat) (x67_80 : Bool), v67 = .bool x67_80 ∧ Aside0 (laws_FnExactMirrorWalker.j1 kq t210 x67_80 a0_0 a0_1 a1_0 a1_1 a1_2 l1_3 t204 t205 t206 t207 t221 t222 t223 t224 = some r) ∧ Aside0 (kq ≤ kj15) ∧ Aside0 (Kd.R (Kd.int .i64) 3 wc w.heap.size (fun k_ => some k_ ≠ ((.slice Ao42 t215.length co42) : Value).ownBlock ∧ some k_ ≠ ((.slice Ao52 t224.length co52) : Value).ownBlock) (.slice Ao32 t207.length co32) t207) ∧ Aside0 (Kd.R (Kd.int .i64) 3 wc w.heap.size (fun k_ => some k_ ≠ ((.slice Ao32 t207.length co32) : Value).ownBlock ∧ some k_ ≠ ((.slice Ao52 t224.length co52) : Value).ownBlock) (.slice Ao42 t215.length co42) t238) ∧ Aside0 (Kd.R (Kd.int .i64) 3 wc w.heap.size (fun k_ => some k_ ≠ ((.slice Ao32 t207.length co32) : Value).ownBlock ∧ some k_ ≠ ((.slice Ao42 t215.length co42) : Value).ownBlock) (.slice Ao52 t224.length co52) t224) ∧ Aside0 (wc.heap[gb193]? = some (.cells #[.int .i64 a0_0, .bool a0_1] 23 (0, 0))) ∧ Aside0 (wc.heap[gb194]? = some (.cells #[.int .i64 a1_0, .int .i64 a1_1, .int .i64 a1_2, (.slice A1_3 l1_3.length c1_3)] 26 (0, 0))) ∧ Aside0 (wc.heap[gb211]? = some (.cells #[.int .i64 t204, .int .i64 t205, .int .i64 t206, (.slice Ao32 t207.length co32)] 33 (0, 0))) ∧ Aside0 (wc.heap[gb218]? = some (.cells #[.int .i64 t212, .int .i64 t213, .int .i64 t214, (.slice Ao42 t215.length co42)] 33 (0, 0))) ∧ Aside0 (wc.heap[gb228]? = some (.cells #[.int .i64 t221, .int .i64 t222, .int .i64 t223, (.slice Ao52 t224.length co52)] 33 (0, 0))) ∧ Aside0 (Below w.heap.size w wc))
      case first =>
       have H := HC81.out
       clear HC81
       by_cases c92 : t237 < 0
       ·
        rw [if_pos c92] at H
        have c92b0 : decide (t237 < 0) = true := decide_eq_true c92
        clear c92
        (first | rw [c92b0] | (simp only [i64_w, i32_w]; rw [c92b0]) | skip)
        have H' := A_ H
        clear H
        go_wp2
        go_meet
        case rel => exact ⟨_, (true), (by first | rfl | (simp; done) | (simp [*]; done)), H', ⟨by have := HJ15.out; first | omega | exact Nat.le_refl _⟩, ⟨by (with_reducible repeat (first | apply Kd.R_alloc | apply Kd.R_drewN | apply Kd.R_drew)); exact Kd.R_mono HO_212003.out (fun _ => cj)⟩, ⟨by (with_reducible repeat (first | apply Kd.R_alloc | apply Kd.R_drewN | apply Kd.R_drew)); exact Kd.R_mono HO_219003.out (fun _ => cj)⟩, ⟨by (with_reducible repeat (first | apply Kd.R_alloc | apply Kd.R_drewN | apply Kd.R_drew)); exact Kd.R_mono HO_229003.out (fun _ => cj)⟩, ⟨bq BK193⟩, ⟨bq BK194⟩, ⟨bq BK211⟩, ⟨bq BK218⟩, ⟨bq BK228⟩, ⟨by repeat (first | (with_reducible first | exact HB.out | apply below_alloc | apply pw_below_drewN | apply below_drew1 | refine below_set ?_ GE193.out | refine below_set ?_ GE194.out | refine below_set ?_ GE211.out | refine below_set ?_ GE218.out | refine below_set ?_ GE228.out) | exact HB.out)⟩⟩
       ·
        rw [if_neg c92] at H
        have c92b0 : decide (t237 < 0) = false := decide_eq_false c92
        clear c92
        (first | rw [c92b0] | (simp only [i64_w, i32_w]; rw [c92b0]) | skip)
        replace H := Option.bind_eq_some_iff.mp H
        obtain ⟨t239, A930, H⟩ := H
        replace H : (if t239 = true then (laws_FnExactMirrorWalker.j1 kj15 t210 (t227 != t210) a0_0 a0_1 a1_0 a1_1 a1_2 l1_3 t204 t205 t206 t207 t221 t222 t223 t224) else (laws_FnExactMirrorWalker.j1 kj15 t210 true a0_0 a0_1 a1_0 a1_1 a1_2 l1_3 t204 t205 t206 t207 t221 t222 t223 t224)) = some r := H
        have A93 := A_ A930
        clear A930
        by_cases c94 : t239 = true
        ·
         subst c94
         have H1 : (laws_FnExactMirrorWalker.j1 kj15 t210 (t227 != t210) a0_0 a0_1 a1_0 a1_1 a1_2 l1_3 t204 t205 t206 t207 t221 t222 t223 t224) = some r := by rw [if_pos rfl] at H; exact H
         clear H
         have H := H1
         clear H1
         have H' := A_ H
         clear H
         have hnb95 := NB228_193.out
         have hnc95 := NB193_228.out
         have hnb96 := NB228_194.out
         have hnc96 := NB194_228.out
         have hnb97 := NB228_211.out
         have hnc97 := NB211_228.out
         have hnb98 := NB228_218.out
         have hnc98 := NB218_228.out
         have hcz99_0 : w91.cell? ⟨gb228, 0, none⟩ = some (.int .i64 t221) := bc BK228 0
         have hcz99_1 : w91.cell? ⟨gb228, 1, none⟩ = some (.int .i64 t222) := bc BK228 1
         have hcz99_2 : w91.cell? ⟨gb228, 2, none⟩ = some (.int .i64 t223) := bc BK228 2
         have hcz99_3 : w91.cell? ⟨gb228, 3, none⟩ = some (.slice Ao52 t224.length co52) := bc BK228 3
         have hfz99_0 := blk_frozen BK228.out 0
         have hfz99_1 := blk_frozen BK228.out 1
         have hfz99_2 := blk_frozen BK228.out 2
         have hfz99_3 := blk_frozen BK228.out 3
         have hnb100 := NB211_193.out
         have hnc100 := NB193_211.out
         have hnb101 := NB211_194.out
         have hnc101 := NB194_211.out
         have hnb102 := NB211_218.out
         have hnc102 := NB218_211.out
         have hcz103_0 : w91.cell? ⟨gb211, 0, none⟩ = some (.int .i64 t204) := bc BK211 0
         have hcz103_1 : w91.cell? ⟨gb211, 1, none⟩ = some (.int .i64 t205) := bc BK211 1
         have hcz103_2 : w91.cell? ⟨gb211, 2, none⟩ = some (.int .i64 t206) := bc BK211 2
         have hcz103_3 : w91.cell? ⟨gb211, 3, none⟩ = some (.slice Ao32 t207.length co32) := bc BK211 3
         have hfz103_0 := blk_frozen BK211.out 0
         have hfz103_1 := blk_frozen BK211.out 1
         have hfz103_2 := blk_frozen BK211.out 2
         have hfz103_3 := blk_frozen BK211.out 3
         go_wp2_with (first | (go_at_call 16; (with_reducible refine (laws_eqWalker.calls kj15 t221 t222 t223 _ _ t224 t204 t205 t206 _ _ t207 true _ ?side1 ?side2 ?side3 ?side4 A93.out).mono ?_); (case side1 => repeat (first | exact (Kd.R_reads' HO_229003.out).2.2 | (with_reducible refine Kd.C_alloc ?_ _) | (with_reducible refine Kd.C_drewN ?_ _) | (with_reducible refine Kd.C_drew ?_))); (case side2 => exact (Kd.R_reads' HO_229003.out).2.1); (case side3 => repeat (first | exact (Kd.R_reads' HO_212003.out).2.2 | (with_reducible refine Kd.C_alloc ?_ _) | (with_reducible refine Kd.C_drewN ?_ _) | (with_reducible refine Kd.C_drew ?_))); (case side4 => exact (Kd.R_reads' HO_212003.out).2.1); rintro e w104 ⟨rfl, hb⟩; have n0_ := A_ (Kd.R_below (rq HO_212003) hb); have n1_ := A_ (Kd.R_below (rq HO_219003) hb); have n2_ := A_ (Kd.R_below (rq HO_229003) hb); have n3_ := A_ (Kd.R_below (rq HO235) hb); have n4_ := A_ (blk_below (bq BK193) hb); have n5_ := A_ (blk_below (bq BK194) hb); have n6_ := A_ (blk_below (bq BK211) hb); have n7_ := A_ (blk_below (bq BK218) hb); have n8_ := A_ (blk_below (bq BK228) hb); have n9_ := A_ (below_step (hq HB) hb); clear HO_212003; clear HO_219003; clear HO_229003; clear HO235; clear BK193; clear BK194; clear BK211; clear BK218; clear BK228; clear HB; have HO_212003 := n0_; have HO_219003 := n1_; have HO_229003 := n2_; have HO235 := n3_; have BK193 := n4_; have BK194 := n5_; have BK211 := n6_; have BK218 := n7_; have BK228 := n8_; have HB := n9_; clear n0_ n1_ n2_ n3_ n4_ n5_ n6_ n7_ n8_ n9_; (try clear hb); (try clear hb2); (try clear hk); (try clear hi)))
         go_meet
         case rel => exact ⟨_, ((t227 != t210)), (by first | rfl | (simp; done) | (simp [*]; done)), H', ⟨by have := HJ15.out; first | omega | exact Nat.le_refl _⟩, ⟨by (with_reducible repeat (first | apply Kd.R_alloc | apply Kd.R_drewN | apply Kd.R_drew)); exact Kd.R_mono HO_212003.out (fun _ => cj)⟩, ⟨by (with_reducible repeat (first | apply Kd.R_alloc | apply Kd.R_drewN | apply Kd.R_drew)); exact Kd.R_mono HO_219003.out (fun _ => cj)⟩, ⟨by (with_reducible repeat (first | apply Kd.R_alloc | apply Kd.R_drewN | apply Kd.R_drew)); exact Kd.R_mono HO_229003.out (fun _ => cj)⟩, ⟨bq BK193⟩, ⟨bq BK194⟩, ⟨bq BK211⟩, ⟨bq BK218⟩, ⟨bq BK228⟩, ⟨by repeat (first | (with_reducible first | exact HB.out | apply below_alloc | apply pw_below_drewN | apply below_drew1 | refine below_set ?_ GE193.out | refine below_set ?_ GE194.out | refine below_set ?_ GE211.out | refine below_set ?_ GE218.out | refine below_set ?_ GE228.out) | exact HB.out)⟩⟩
        ·
         replace c94 := Bool.eq_false_iff.mpr c94
         subst c94
         have H1 : (laws_FnExactMirrorWalker.j1 kj15 t210 true a0_0 a0_1 a1_0 a1_1 a1_2 l1_3 t204 t205 t206 t207 t221 t222 t223 t224) = some r := by rw [if_neg (show ¬ (false = true) by decide)] at H; exact H
         clear H
         have H := H1
         clear H1
         have H' := A_ H
         clear H
         have hnb105 := NB228_193.out
         have hnc105 := NB193_228.out
         have hnb106 := NB228_194.out
         have hnc106 := NB194_228.out
         have hnb107 := NB228_211.out
         have hnc107 := NB211_228.out
         have hnb108 := NB228_218.out
         have hnc108 := NB218_228.out
         have hcz109_0 : w91.cell? ⟨gb228, 0, none⟩ = some (.int .i64 t221) := bc BK228 0
         have hcz109_1 : w91.cell? ⟨gb228, 1, none⟩ = some (.int .i64 t222) := bc BK228 1
         have hcz109_2 : w91.cell? ⟨gb228, 2, none⟩ = some (.int .i64 t223) := bc BK228 2
         have hcz109_3 : w91.cell? ⟨gb228, 3, none⟩ = some (.slice Ao52 t224.length co52) := bc BK228 3
         have hfz109_0 := blk_frozen BK228.out 0
         have hfz109_1 := blk_frozen BK228.out 1
         have hfz109_2 := blk_frozen BK228.out 2
         have hfz109_3 := blk_frozen BK228.out 3
         have hnb110 := NB211_193.out
         have hnc110 := NB193_211.out
         have hnb111 := NB211_194.out
         have hnc111 := NB194_211.out
         have hnb112 := NB211_218.out
         have hnc112 := NB218_211.out
         have hcz113_0 : w91.cell? ⟨gb211, 0, none⟩ = some (.int .i64 t204) := bc BK211 0
         have hcz113_1 : w91.cell? ⟨gb211, 1, none⟩ = some (.int .i64 t205) := bc BK211 1
         have hcz113_2 : w91.cell? ⟨gb211, 2, none⟩ = some (.int .i64 t206) := bc BK211 2
         have hcz113_3 : w91.cell? ⟨gb211, 3, none⟩ = some (.slice Ao32 t207.length co32) := bc BK211 3
         have hfz113_0 := blk_frozen BK211.out 0
         have hfz113_1 := blk_frozen BK211.out 1
         have hfz113_2 := blk_frozen BK211.out 2
         have hfz113_3 := blk_frozen BK211.out 3
         go_wp2_with (first | (go_at_call 16; (with_reducible refine (laws_eqWalker.calls kj15 t221 t222 t223 _ _ t224 t204 t205 t206 _ _ t207 false _ ?side1 ?side2 ?side3 ?side4 A93.out).mono ?_); (case side1 => repeat (first | exact (Kd.R_reads' HO_229003.out).2.2 | (with_reducible refine Kd.C_alloc ?_ _) | (with_reducible refine Kd.C_drewN ?_ _) | (with_reducible refine Kd.C_drew ?_))); (case side2 => exact (Kd.R_reads' HO_229003.out).2.1); (case side3 => repeat (first | exact (Kd.R_reads' HO_212003.out).2.2 | (with_reducible refine Kd.C_alloc ?_ _) | (with_reducible refine Kd.C_drewN ?_ _) | (with_reducible refine Kd.C_drew ?_))); (case side4 => exact (Kd.R_reads' HO_212003.out).2.1); rintro e w114 ⟨rfl, hb⟩; have n0_ := A_ (Kd.R_below (rq HO_212003) hb); have n1_ := A_ (Kd.R_below (rq HO_219003) hb); have n2_ := A_ (Kd.R_below (rq HO_229003) hb); have n3_ := A_ (Kd.R_below (rq HO235) hb); have n4_ := A_ (blk_below (bq BK193) hb); have n5_ := A_ (blk_below (bq BK194) hb); have n6_ := A_ (blk_below (bq BK211) hb); have n7_ := A_ (blk_below (bq BK218) hb); have n8_ := A_ (blk_below (bq BK228) hb); have n9_ := A_ (below_step (hq HB) hb); clear HO_212003; clear HO_219003; clear HO_229003; clear HO235; clear BK193; clear BK194; clear BK211; clear BK218; clear BK228; clear HB; have HO_212003 := n0_; have HO_219003 := n1_; have HO_229003 := n2_; have HO235 := n3_; have BK193 := n4_; have BK194 := n5_; have BK211 := n6_; have BK218 := n7_; have BK228 := n8_; have HB := n9_; clear n0_ n1_ n2_ n3_ n4_ n5_ n6_ n7_ n8_ n9_; (try clear hb); (try clear hb2); (try clear hk); (try clear hi)))
         go_meet
         case rel => exact ⟨_, (true), (by first | rfl | (simp; done) | (simp [*]; done)), H', ⟨by have := HJ15.out; first | omega | exact Nat.le_refl _⟩, ⟨by (with_reducible repeat (first | apply Kd.R_alloc | apply Kd.R_drewN | apply Kd.R_drew)); exact Kd.R_mono HO_212003.out (fun _ => cj)⟩, ⟨by (with_reducible repeat (first | apply Kd.R_alloc | apply Kd.R_drewN | apply Kd.R_drew)); exact Kd.R_mono HO_219003.out (fun _ => cj)⟩, ⟨by (with_reducible repeat (first | apply Kd.R_alloc | apply Kd.R_drewN | apply Kd.R_drew)); exact Kd.R_mono HO_229003.out (fun _ => cj)⟩, ⟨bq BK193⟩, ⟨bq BK194⟩, ⟨bq BK211⟩, ⟨bq BK218⟩, ⟨bq BK228⟩, ⟨by repeat (first | (with_reducible first | exact HB.out | apply below_alloc | apply pw_below_drewN | apply below_drew1 | refine below_set ?_ GE193.out | refine below_set ?_ GE194.out | refine below_set ?_ GE211.out | refine below_set ?_ GE218.out | refine below_set ?_ GE228.out) | exact HB.out)⟩⟩
      case rest =>
       clear HC81
       try clear c1
       try clear c2
       try clear p2
       try clear c5
       try clear c6
       try clear c7
       try clear c8
       try clear c9
       try clear c10
       try clear c11
       try clear c12
       try clear c13
       try clear c16
       try clear c17
       try clear c21
       try clear c55
       try clear c56
       try clear c57
       try clear c58
       try clear c59
       try clear c61
       try clear c62
       try clear c63
       try clear c66
       try clear c67
       try clear c68
       try clear c69
       try clear c71
       try clear c72
       try clear c73
       try clear c76
       try clear c79
       try clear c86
       try clear c87
       try clear c88
       try clear c89
       try clear c92
       try clear c92b0
       try clear c94
       try clear c95
       try clear c96
       try clear c97
       try clear c98
       try clear c100
       try clear c101
       try clear c102
       try clear c105
       try clear c106
       try clear c107
       try clear c108
       try clear c110
       try clear c111
       try clear c112
       try clear hcz103_0
       try clear hcz103_1
       try clear hcz103_2
       try clear hcz103_3
       try clear hcz109_0
       try clear hcz109_1
       try clear hcz109_2
       try clear hcz109_3
       try clear hcz113_0
       try clear hcz113_1
       try clear hcz113_2
       try clear hcz113_3
       try clear hcz60_0
       try clear hcz60_1
       try clear hcz60_2
       try clear hcz60_3
       try clear hcz64_0
       try clear hcz64_1
       try clear hcz64_2
       try clear hcz64_3
       try clear hcz70_0
       try clear hcz70_1
       try clear hcz70_2
       try clear hcz70_3
       try clear hcz74_0
       try clear hcz74_1
       try clear hcz74_2
       try clear hcz74_3
       try clear hcz90_0
       try clear hcz90_1
       try clear hcz90_2
       try clear hcz90_3
       try clear hcz99_0
       try clear hcz99_1
       try clear hcz99_2
       try clear hcz99_3
       try clear hfz103_0
       try clear hfz103_1
       try clear hfz103_2
       try clear hfz103_3
       try clear hfz109_0
       try clear hfz109_1
       try clear hfz109_2
       try clear hfz109_3
       try clear hfz113_0
       try clear hfz113_1
       try clear hfz113_2
       try clear hfz113_3
       try clear hfz60_0
       try clear hfz60_1
       try clear hfz60_2
       try clear hfz60_3
       try clear hfz64_0
       try clear hfz64_1
       try clear hfz64_2
       try clear hfz64_3
       try clear hfz70_0
       try clear hfz70_1
       try clear hfz70_2
       try clear hfz70_3
       try clear hfz74_0
       try clear hfz74_1
       try clear hfz74_2
       try clear hfz74_3
       try clear hfz90_0
       try clear hfz90_1
       try clear hfz90_2
       try clear hfz90_3
       try clear hfz99_0
       try clear hfz99_1
       try clear hfz99_2
       try clear hfz99_3
       try clear p2
       obtain ⟨kq, x67_80, rfl, HA, HJ80, HO_212003, HO_219003, HO_229003, BK193, BK194, BK211, BK218, BK228, HB⟩ := hcut
       have hl219003_80 := (Kd.R_reads' HO_219003.out).1
       rw [hl219003_80] at HO_219003
       (try simp only [hl219003_80])
       (try simp only [hl219003_80] at BK193)
       (try simp only [hl219003_80] at BK194)
       (try simp only [hl219003_80] at BK211)
       (try simp only [hl219003_80] at BK218)
       (try simp only [hl219003_80] at BK228)
       (try simp only [hl219003_80] at HO_212003)
       (try simp only [hl219003_80] at HO_229003)
       cases kq with
       | zero => exact absurd HA.out (by simp [laws_FnExactMirrorWalker.j1])
       | succ kj80 =>
        have H := HA.out
        clear HA
        simp only [laws_FnExactMirrorWalker.j1] at H
        by_cases c115 : x67_80 = true
        ·
         subst c115
         have H1 : (some false) = some r := by rw [if_pos rfl] at H; exact H
         clear H
         have H := H1
         clear H1
         obtain rfl := Option.some.inj H
         exact absurd hr_ (by decide)
        ·
         replace c115 := Bool.eq_false_iff.mpr c115
         subst c115
         have H1 : ((laws_markWalker.f kj80 t221 t222 t223 t224 1).bind fun bt240 => ((laws_heldWalker.f kj80 t221 t222 t223 bt240.2 1).bind fun t242 => (if t242 < 0 then (some false) else (if t242 = bt240.1 then ((laws_toRoad.f a0_0 a0_1).bind fun bt243 => ((laws_toWalker.f kj80 a1_0 a1_1 a1_2 l1_3).bind fun bt245 => ((impl_MirrorWalker.f kj80 bt243.1 bt243.2 bt245.1 bt245.2.1 bt245.2.2.1 bt245.2.2.2).bind fun bt251 => ((laws_eqWalker.f kj80 bt251.1 bt251.2.1 bt251.2.2.1 bt251.2.2.2.1 t204 t205 t206 t207).bind fun t259 => (if t259 = true then (laws_FnExactMirrorWalker.j2 kj80 bt240.1 (bt251.2.2.2.2 != t210) t221 t222 t223 bt240.2) else (laws_FnExactMirrorWalker.j2 kj80 bt240.1 true t221 t222 t223 bt240.2)))))) else (some false))))) = some r := by rw [if_neg (show ¬ (false = true) by decide)] at H; exact H
         clear H
         have H := H1
         clear H1
         replace H := Option.bind_eq_some_iff.mp H
         obtain ⟨⟨t240, t241⟩, A1160, H⟩ := H
         replace H : ((laws_heldWalker.f kj80 t221 t222 t223 t241 1).bind fun t242 => (if t242 < 0 then (some false) else (if t242 = t240 then ((laws_toRoad.f a0_0 a0_1).bind fun bt243 => ((laws_toWalker.f kj80 a1_0 a1_1 a1_2 l1_3).bind fun bt245 => ((impl_MirrorWalker.f kj80 bt243.1 bt243.2 bt245.1 bt245.2.1 bt245.2.2.1 bt245.2.2.2).bind fun bt251 => ((laws_eqWalker.f kj80 bt251.1 bt251.2.1 bt251.2.2.1 bt251.2.2.2.1 t204 t205 t206 t207).bind fun t259 => (if t259 = true then (laws_FnExactMirrorWalker.j2 kj80 t240 (bt251.2.2.2.2 != t210) t221 t222 t223 t241) else (laws_FnExactMirrorWalker.j2 kj80 t240 true t221 t222 t223 t241)))))) else (some false)))) = some r := H
         have A116 := A_ A1160
         clear A1160
         replace H := Option.bind_eq_some_iff.mp H
         obtain ⟨t242, A1170, H⟩ := H
         replace H : (if t242 < 0 then (some false) else (if t242 = t240 then ((laws_toRoad.f a0_0 a0_1).bind fun bt243 => ((laws_toWalker.f kj80 a1_0 a1_1 a1_2 l1_3).bind fun bt245 => ((impl_MirrorWalker.f kj80 bt243.1 bt243.2 bt245.1 bt245.2.1 bt245.2.2.1 bt245.2.2.2).bind fun bt251 => ((laws_eqWalker.f kj80 bt251.1 bt251.2.1 bt251.2.2.1 bt251.2.2.2.1 t204 t205 t206 t207).bind fun t259 => (if t259 = true then (laws_FnExactMirrorWalker.j2 kj80 t240 (bt251.2.2.2.2 != t210) t221 t222 t223 t241) else (laws_FnExactMirrorWalker.j2 kj80 t240 true t221 t222 t223 t241)))))) else (some false))) = some r := H
         have A117 := A_ A1170
         clear A1170
         by_cases c118 : t242 < 0
         ·
          rw [if_pos c118] at H
          have c118b0 : decide (t242 < 0) = true := decide_eq_true c118
          clear c118
          obtain rfl := Option.some.inj H
          exact absurd hr_ (by decide)
         ·
          rw [if_neg c118] at H
          have c118b0 : decide (t242 < 0) = false := decide_eq_false c118
          clear c118
          by_cases c127 : t242 = t240
          ·
           rw [if_pos c127] at H
           have c127b0 : (t242 == t240) = true := beq_iff_eq.mpr c127
           have c127b1 : (t242 != t240) = false := bne_eq_false_iff_eq.mpr c127
           clear c127
           replace H := Option.bind_eq_some_iff.mp H
           obtain ⟨⟨t243, t244⟩, A1280, H⟩ := H
           replace H : ((laws_toWalker.f kj80 a1_0 a1_1 a1_2 l1_3).bind fun bt245 => ((impl_MirrorWalker.f kj80 t243 t244 bt245.1 bt245.2.1 bt245.2.2.1 bt245.2.2.2).bind fun bt251 => ((laws_eqWalker.f kj80 bt251.1 bt251.2.1 bt251.2.2.1 bt251.2.2.2.1 t204 t205 t206 t207).bind fun t259 => (if t259 = true then (laws_FnExactMirrorWalker.j2 kj80 t240 (bt251.2.2.2.2 != t210) t221 t222 t223 t241) else (laws_FnExactMirrorWalker.j2 kj80 t240 true t221 t222 t223 t241))))) = some r := H
           have A128 := A_ A1280
           clear A1280
           replace H := Option.bind_eq_some_iff.mp H
           obtain ⟨⟨t245, t246, t247, t248⟩, A1290, H⟩ := H
           replace H : ((impl_MirrorWalker.f kj80 t243 t244 t245 t246 t247 t248).bind fun bt251 => ((laws_eqWalker.f kj80 bt251.1 bt251.2.1 bt251.2.2.1 bt251.2.2.2.1 t204 t205 t206 t207).bind fun t259 => (if t259 = true then (laws_FnExactMirrorWalker.j2 kj80 t240 (bt251.2.2.2.2 != t210) t221 t222 t223 t241) else (laws_FnExactMirrorWalker.j2 kj80 t240 true t221 t222 t223 t241)))) = some r := H
           have A129 := A_ A1290
           clear A1290
           replace H := Option.bind_eq_some_iff.mp H
           obtain ⟨⟨t251, t252, t253, t254, t257⟩, A1300, H⟩ := H
           replace H : ((laws_eqWalker.f kj80 t251 t252 t253 t254 t204 t205 t206 t207).bind fun t259 => (if t259 = true then (laws_FnExactMirrorWalker.j2 kj80 t240 (t257 != t210) t221 t222 t223 t241) else (laws_FnExactMirrorWalker.j2 kj80 t240 true t221 t222 t223 t241))) = some r := H
           have A130 := A_ A1300
           clear A1300
           have HC131 := A_ H
           clear H
           have hnb132 := NB228_193.out
           have hnc132 := NB193_228.out
           have hnb133 := NB228_194.out
           have hnc133 := NB194_228.out
           have hnb134 := NB228_211.out
           have hnc134 := NB211_228.out
           have hnb135 := NB228_218.out
           have hnc135 := NB218_228.out
           have hcz136_0 : wc.cell? ⟨gb228, 0, none⟩ = some (.int .i64 t221) := bc BK228 0
           have hcz136_1 : wc.cell? ⟨gb228, 1, none⟩ = some (.int .i64 t222) := bc BK228 1
           have hcz136_2 : wc.cell? ⟨gb228, 2, none⟩ = some (.int .i64 t223) := bc BK228 2
           have hcz136_3 : wc.cell? ⟨gb228, 3, none⟩ = some (.slice Ao52 t224.length co52) := bc BK228 3
           have hfz136_0 := blk_frozen BK228.out 0
           have hfz136_1 := blk_frozen BK228.out 1
           have hfz136_2 := blk_frozen BK228.out 2
           have hfz136_3 := blk_frozen BK228.out 3
           try go_wp2_with (first | ((with_reducible refine gate_callee (f := 17) rfl ?_); refine goesL_ (some 70) rfl rfl Try.func17 (by kernel_rfl) rfl #[.agg #[.int .i64 t221, .int .i64 t222, .int .i64 t223, .slice Ao52 t224.length co52], .int .i64 1] rfl gq ?_; (with_reducible refine (laws_markWalker.calls kj80 t221 t222 t223 (fun k_ => some k_ = (.slice Ao52 t224.length co52 : Value).ownBlock) (.slice Ao52 t224.length co52) t224 1 t240 t241 w _ ?side1 ?side2 A116.out).mono ?_); (case side1 => repeat (first | (with_reducible first | exact HB.out | apply below_alloc | apply pw_below_drewN | apply below_drew1 | refine below_set ?_ GE193.out | refine below_set ?_ GE194.out | refine below_set ?_ GE211.out | refine below_set ?_ GE218.out | refine below_set ?_ GE228.out) | exact HB.out)); (case side2 => exact Kd.R_tight rfl HO_229003.out); rintro e w137 ⟨rfl, hy0, hb, hkp⟩; refine ⟨_, rfl, ?_⟩; have n0_ := A_ (Kd.R_mono (ok' := fun k_ => some k_ ≠ (.slice Ao42 t238.length co42 : Value).ownBlock ∧ some k_ ≠ (.slice Ao52 t224.length co52 : Value).ownBlock) (Kd.R_keptB (HO_212003.out) hkp (fun k_ hk_ hs_ => (hk_.2) hs_)) (fun k_ hk_ => ⟨hk_.1.1, hk_.1.2⟩)); have n1_ := A_ (Kd.R_mono (ok' := fun k_ => some k_ ≠ (.slice Ao32 t207.length co32 : Value).ownBlock ∧ some k_ ≠ (.slice Ao52 t224.length co52 : Value).ownBlock) (Kd.R_keptB (HO_219003.out) hkp (fun k_ hk_ hs_ => (hk_.2) hs_)) (fun k_ hk_ => ⟨hk_.1.1, hk_.1.2⟩)); have n2_ := A_ (Kd.R_reok rfl hy0 (fun k_ e_ => HO_229003.out.1 k_ e_)); have n3_ := A_ (blk_kept (bq BK193) hkp (fun hs_ => (fun e_ => (Kd.R_ne HO_229003.out BK193.out (by decide)) e_) hs_)); have n4_ := A_ (blk_kept (bq BK194) hkp (fun hs_ => (fun e_ => (Kd.R_ne HO_229003.out BK194.out (by decide)) e_) hs_)); have n5_ := A_ (blk_kept (bq BK211) hkp (fun hs_ => (fun e_ => (Kd.R_ne HO_229003.out BK211.out (by decide)) e_) hs_)); have n6_ := A_ (blk_kept (bq BK218) hkp (fun hs_ => (fun e_ => (Kd.R_ne HO_229003.out BK218.out (by decide)) e_) hs_)); have n7_ := A_ (blk_kept (bq BK228) hkp (fun hs_ => (fun e_ => (Kd.R_ne HO_229003.out BK228.out (by decide)) e_) hs_)); have n8_ := A_ (hb); clear HO_212003; clear HO_219003; clear HO_229003; clear BK193; clear BK194; clear BK211; clear BK218; clear BK228; clear HB; have HO_212003 := n0_; have HO_219003 := n1_; have HO_229003 := n2_; have BK193 := n3_; have BK194 := n4_; have BK211 := n5_; have BK218 := n6_; have BK228 := n7_; have HB := n8_; clear n0_ n1_ n2_ n3_ n4_ n5_ n6_ n7_ n8_; (try clear hb); (try clear hkp); (try clear hy0); have hcz138_0 : w137.cell? ⟨gb228, 0, none⟩ = some (.int .i64 t221) := bc BK228 0; have hcz138_1 : w137.cell? ⟨gb228, 1, none⟩ = some (.int .i64 t222) := bc BK228 1; have hcz138_2 : w137.cell? ⟨gb228, 2, none⟩ = some (.int .i64 t223) := bc BK228 2; have hcz138_3 : w137.cell? ⟨gb228, 3, none⟩ = some (.slice Ao52 t224.length co52) := bc BK228 3; have hfz138_0 := blk_frozen BK228.out 0; have hfz138_1 := blk_frozen BK228.out 1; have hfz138_2 := blk_frozen BK228.out 2; have hfz138_3 := blk_frozen BK228.out 3) | ((with_reducible refine gate_callee (f := 22) rfl ?_); refine goesL_ (some 73) rfl rfl Try.func22 (by kernel_rfl) rfl #[.agg #[.int .i64 t221, .int .i64 t222, .int .i64 t223, .slice Ao52 t241.length co52], .int .i64 1] rfl (by (try simp only [List.map_toArray, List.map_cons, List.map_nil]); first | done | (rw [show t241.length = t224.length from (Kd.R_reads' HO_229003.out).1.symm] <;> rfl) | rfl | (simp only [List.length_drop, List.length_take]; rfl)) ?_; (with_reducible refine (laws_heldWalker.calls kj80 t221 t222 t223 _ _ t241 1 t242 _ ?side1 ?side2 A117.out).mono ?_); (case side1 => repeat (first | exact (Kd.R_reads' HO_229003.out).2.2 | (with_reducible refine Kd.C_alloc ?_ _) | (with_reducible refine Kd.C_drewN ?_ _) | (with_reducible refine Kd.C_drew ?_))); (case side2 => rw [show t241.length = t224.length from (Kd.R_reads' HO_229003.out).1.symm]; exact (Kd.R_reads' HO_229003.out).2.1); rintro e w139 ⟨rfl, hb⟩; refine ⟨_, rfl, ?_⟩; have n0_ := A_ (Kd.R_below (rq HO_212003) hb); have n1_ := A_ (Kd.R_below (rq HO_219003) hb); have n2_ := A_ (Kd.R_below (rq HO_229003) hb); have n3_ := A_ (blk_below (bq BK193) hb); have n4_ := A_ (blk_below (bq BK194) hb); have n5_ := A_ (blk_below (bq BK211) hb); have n6_ := A_ (blk_below (bq BK218) hb); have n7_ := A_ (blk_below (bq BK228) hb); have n8_ := A_ (below_step (hq HB) hb); clear HO_212003; clear HO_219003; clear HO_229003; clear BK193; clear BK194; clear BK211; clear BK218; clear BK228; clear HB; have HO_212003 := n0_; have HO_219003 := n1_; have HO_229003 := n2_; have BK193 := n3_; have BK194 := n4_; have BK211 := n5_; have BK218 := n6_; have BK228 := n7_; have HB := n8_; clear n0_ n1_ n2_ n3_ n4_ n5_ n6_ n7_ n8_; (try clear hb); (try clear hb2); (try clear hk); (try clear hi)))
           have n0_ := A_ (Kd.R_drew HO_212003.out)
           have n1_ := A_ (Kd.R_drew HO_219003.out)
           have n2_ := A_ (Kd.R_drew HO_229003.out)
           have n3_ := A_ (blk_drew BK193.out)
           have n4_ := A_ (blk_drew BK194.out)
           have n5_ := A_ (blk_drew BK211.out)
           have n6_ := A_ (blk_drew BK218.out)
           have n7_ := A_ (blk_drew BK228.out)
           have n8_ := A_ (below_drew1 HB.out)
           clear HO_212003 HO_219003 HO_229003 BK193 BK194 BK211 BK218 BK228 HB; have HO_212003 := n0_; have HO_219003 := n1_; have HO_229003 := n2_; have BK193 := n3_; have BK194 := n4_; have BK211 := n5_; have BK218 := n6_; have BK228 := n7_; have HB := n8_; clear n0_ n1_ n2_ n3_ n4_ n5_ n6_ n7_ n8_
           refine start_ (n := 11) (S := fun w' => w'.cell? ⟨gb193, 0, none⟩ = some (.int .i64 a0_0) ∧ w'.cell? ⟨gb193, 1, none⟩ = some (.bool a0_1) ∧ w'.cell? ⟨gb194, 0, none⟩ = some (.int .i64 a1_0) ∧ w'.cell? ⟨gb194, 1, none⟩ = some (.int .i64 a1_1) ∧ w'.cell? ⟨gb194, 2, none⟩ = some (.int .i64 a1_2) ∧ w'.cell? ⟨gb194, 3, none⟩ = some (.slice A1_3 l1_3.length c1_3)) (ds := []) #[false, false, false, false, false, false, false, false, false, false, false] (by kernel_rfl) rfl rfl ⟨bc BK193 0, bc BK193 1, bc BK194 0, bc BK194 1, bc BK194 2, bc BK194 3⟩ (fun hHeld => ?_); refine with_tabW laws_FnExactMirrorWalker.tab24 laws_FnExactMirrorWalker.bits24 (fun HT_ HW_ => ?_)
           generalize w139.drew = w140 at HO_212003 HO_219003 HO_229003 BK193 BK194 BK211 BK218 BK228 HB hHeld ⊢
           refine take_ (i := 0) (N := some 80) (v := ?_) (a' := ?_) #[true, false, false, false, false, false, false, false, false, false, false] rfl rfl (take_ofW HT_.out HW_.out (by kernel_rfl)) (fun _ _ _ h => h) (Or.inl ⟨by rfl, ?_⟩) hHeld ?_ ?_
           rotate_left
           ·
            rintro w' ⟨s0, s1, s2, s3, s4, s5⟩
            go_simp
            with_reducible rfl
           rotate_left
           ·
            simp only [Act.put, List.setIfInBounds_toArray, List.set_cons_zero, List.set_cons_succ, i64_w, i32_w]
            rfl
           refine take_ (i := 2) (N := some 82) (v := ?_) (a' := ?_) #[true, false, true, false, false, false, false, false, false, false, false] rfl rfl (take_ofW HT_.out HW_.out (by kernel_rfl)) (fun _ _ _ h => h) (Or.inl ⟨by rfl, ?_⟩) hHeld ?_ ?_
           rotate_left
           ·
            rintro w' ⟨s0, s1, s2, s3, s4, s5⟩
            go_simp
            with_reducible rfl
           rotate_left
           ·
            simp only [Act.put, List.setIfInBounds_toArray, List.set_cons_zero, List.set_cons_succ, i64_w, i32_w]
            rfl
           refine join_ (σ := Value × Value × Nat) 2 #[true, true, true, true, true, true, true, true, true, false, false] (fun s_ => [(81, .agg #[.int .i64 t243, .bool t244]), (83, .agg #[.int .i64 t245, .int .i64 t246, .int .i64 t247, s_.1]), (84, .tuple #[.agg #[.int .i64 t251, .int .i64 t252, .int .i64 t253, s_.2.1], .bool t257]), (14, .pointer (some ⟨s_.2.2, 0, none⟩)), (79, .tuple #[.agg #[.int .i64 t251, .int .i64 t252, .int .i64 t253, s_.2.1], .bool t257]), (85, .agg #[.int .i64 t251, .int .i64 t252, .int .i64 t253, s_.2.1]), (86, .bool t257)]) (fun s_ w' => (w'.cell? ⟨gb193, 0, none⟩ = some (.int .i64 a0_0) ∧ w'.cell? ⟨gb193, 1, none⟩ = some (.bool a0_1) ∧ w'.cell? ⟨gb194, 0, none⟩ = some (.int .i64 a1_0) ∧ w'.cell? ⟨gb194, 1, none⟩ = some (.int .i64 a1_1) ∧ w'.cell? ⟨gb194, 2, none⟩ = some (.int .i64 a1_2) ∧ w'.cell? ⟨gb194, 3, none⟩ = some (.slice A1_3 l1_3.length c1_3)) ∧ (Kd.R (Kd.int .i64) 3 w' w.heap.size (fun k_ => some k_ ≠ (s_.2.1 : Value).ownBlock ∧ some k_ ≠ (.slice Ao32 t207.length co32 : Value).ownBlock ∧ some k_ ≠ (.slice Ao42 t238.length co42 : Value).ownBlock ∧ some k_ ≠ (.slice Ao52 t224.length co52 : Value).ownBlock) s_.1 t248) ∧ (Kd.R (Kd.int .i64) 3 w' w.heap.size (fun k_ => some k_ ≠ (s_.1 : Value).ownBlock ∧ some k_ ≠ (.slice Ao32 t207.length co32 : Value).ownBlock ∧ some k_ ≠ (.slice Ao42 t238.length co42 : Value).ownBlock ∧ some k_ ≠ (.slice Ao52 t224.length co52 : Value).ownBlock) s_.2.1 t254) ∧ (Kd.R (Kd.int .i64) 3 w' w.heap.size (fun k_ => some k_ ≠ (s_.1 : Value).ownBlock ∧ some k_ ≠ (s_.2.1 : Value).ownBlock ∧ some k_ ≠ (.slice Ao42 t238.length co42 : Value).ownBlock ∧ some k_ ≠ (.slice Ao52 t224.length co52 : Value).ownBlock) (.slice Ao32 t207.length co32) t207) ∧ (Kd.R (Kd.int .i64) 3 w' w.heap.size (fun k_ => some k_ ≠ (s_.1 : Value).ownBlock ∧ some k_ ≠ (s_.2.1 : Value).ownBlock ∧ some k_ ≠ (.slice Ao32 t207.length co32 : Value).ownBlock ∧ some k_ ≠ (.slice Ao52 t224.length co52 : Value).ownBlock) (.slice Ao42 t238.length co42) t238) ∧ (Kd.R (Kd.int .i64) 3 w' w.heap.size (fun k_ => some k_ ≠ (s_.1 : Value).ownBlock ∧ some k_ ≠ (s_.2.1 : Value).ownBlock ∧ some k_ ≠ (.slice Ao32 t207.length co32 : Value).ownBlock ∧ some k_ ≠ (.slice Ao42 t238.length co42 : Value).ownBlock) (.slice Ao52 t224.length co52) t241) ∧ (w'.heap[gb193]? = some (.cells #[.int .i64 a0_0, .bool a0_1] 23 (0, 0))) ∧ (w'.heap[gb194]? = some (.cells #[.int .i64 a1_0, .int .i64 a1_1, .int .i64 a1_2, .slice A1_3 l1_3.length c1_3] 26 (0, 0))) ∧ (w'.heap[gb211]? = some (.cells #[.int .i64 t204, .int .i64 t205, .int .i64 t206, .slice Ao32 t207.length co32] 33 (0, 0))) ∧ (w'.heap[gb218]? = some (.cells #[.int .i64 t212, .int .i64 t213, .int .i64 t214, .slice Ao42 t238.length co42] 33 (0, 0))) ∧ (w'.heap[gb228]? = some (.cells #[.int .i64 t221, .int .i64 t222, .int .i64 t223, .slice Ao52 t224.length co52] 33 (0, 0))) ∧ (w'.heap[s_.2.2]? = some (.cells #[.int .i64 0, .int .i64 0, .int .i64 0, .slice none 0 0] 33 (0, 0))) ∧ (w.heap.size ≤ s_.2.2) ∧ (w.heap.size ≤ s_.2.2) ∧ (gb193 ≠ s_.2.2) ∧ (s_.2.2 ≠ gb193) ∧ (gb194 ≠ s_.2.2) ∧ (s_.2.2 ≠ gb194) ∧ (gb211 ≠ s_.2.2) ∧ (s_.2.2 ≠ gb211) ∧ (gb218 ≠ s_.2.2) ∧ (s_.2.2 ≠ gb218) ∧ (gb228 ≠ s_.2.2) ∧ (s_.2.2 ≠ gb228) ∧ (Below w.heap.size w w')) ?_ ?_
           rotate_left
           ·
            intro hCont
            refine two_ (i := 1) (j := 8) (Ni := some 81) (Nj := some 14) #[true, true, true, false, false, false, false, false, false, false, false] #[true, false, true, false, false, false, false, false, true, false, false] rfl rfl rfl rfl (two_of HT_.out (by kernel_rfl)) (by decide) (by decide) (fun K hK => ?_) (fun K hK => ?_)
            ·
             refine goes_ Try.func12 (by kernel_rfl) rfl #[.agg #[.int .i64 a0_0, .bool a0_1]] (by rfl) rfl rfl gq ?_
             with_reducible refine (laws_toRoad.calls a0_0 a0_1 t243 t244 _ A128.out).mono ?_
             rintro e w141 ⟨rfl, hb⟩
             refine ⟨_, rfl, ?_⟩
             have n0_ := A_ (Kd.R_below (rq HO_212003) hb)
             have n1_ := A_ (Kd.R_below (rq HO_219003) hb)
             have n2_ := A_ (Kd.R_below (rq HO_229003) hb)
             have n3_ := A_ (blk_below (bq BK193) hb)
             have n4_ := A_ (blk_below (bq BK194) hb)
             have n5_ := A_ (blk_below (bq BK211) hb)
             have n6_ := A_ (blk_below (bq BK218) hb)
             have n7_ := A_ (blk_below (bq BK228) hb)
             have n8_ := A_ (below_step (hq HB) hb)
             clear HO_212003 HO_219003 HO_229003 BK193 BK194 BK211 BK218 BK228 HB; have HO_212003 := n0_; have HO_219003 := n1_; have HO_229003 := n2_; have BK193 := n3_; have BK194 := n4_; have BK211 := n5_; have BK218 := n6_; have BK228 := n7_; have HB := n8_; clear n0_ n1_ n2_ n3_ n4_ n5_ n6_ n7_ n8_; (try clear hb); (try clear hb2); (try clear hk); (try clear hi)
             refine hK.out _ _ ⟨bc BK193 0, bc BK193 1, bc BK194 0, bc BK194 1, bc BK194 2, bc BK194 3⟩ (fun hHeld => ?_)
             clear hK K
             refine norm_ (a' := ?_) ?_ ?_
             rotate_left
             ·
              show Act.put _ (some 81) _ = _
              simp only [Act.put, List.setIfInBounds_toArray, List.set_cons_zero, List.set_cons_succ, i64_w, i32_w]
              rfl
             refine two_ (i := 3) (j := 8) (Ni := some 83) (Nj := some 14) #[true, true, true, true, false, false, false, false, false, false, false] #[true, true, true, false, false, false, false, false, true, false, false] rfl rfl rfl rfl (two_of HT_.out (by kernel_rfl)) (by decide) (by decide) (fun K hK => ?_) (fun K hK => ?_)
             ·
              refine goes_ Try.func13 (by kernel_rfl) rfl #[.agg #[.int .i64 a1_0, .int .i64 a1_1, .int .i64 a1_2, .slice A1_3 l1_3.length c1_3]] (by rfl) rfl rfl gq ?_
              with_reducible refine (laws_toWalker.calls kj80 a1_0 a1_1 a1_2 _ _ l1_3 t245 t246 t247 t248 _ ?side1 ?side2 A129.out).mono ?_
              (case side1 => repeat (first | exact (Kd.C_below HR1_3.out HB.out) | (with_reducible refine Kd.C_alloc ?_ _) | (with_reducible refine Kd.C_drewN ?_ _) | (with_reducible refine Kd.C_drew ?_)))
              (case side2 => exact HC1_3.out)
              rintro e w142 ⟨v249, rfl, ho0, hb⟩
              refine ⟨_, rfl, ?_⟩
              have n0_ := A_ (Kd.R_elder' (rq HO_212003) (Kd.R_base ho0) hb)
              have n1_ := A_ (Kd.R_elder' (rq HO_219003) (Kd.R_base ho0) hb)
              have n2_ := A_ (Kd.R_elder' (rq HO_229003) (Kd.R_base ho0) hb)
              have n3_ := A_ (Kd.R_lower (Kd.R_new' (Kd.R_new' (Kd.R_new' ho0 (Kd.R_lt (rq HO_212003))) (Kd.R_lt (rq HO_219003))) (Kd.R_lt (rq HO_229003))) (below_size (hq HB)))
              have n4_ := A_ (blk_below (bq BK193) hb)
              have n5_ := A_ (blk_below (bq BK194) hb)
              have n6_ := A_ (blk_below (bq BK211) hb)
              have n7_ := A_ (blk_below (bq BK218) hb)
              have n8_ := A_ (blk_below (bq BK228) hb)
              have n9_ := A_ (below_step (hq HB) hb)
              clear HO_212003 HO_219003 HO_229003 BK193 BK194 BK211 BK218 BK228 HB; have HO_212003 := n0_; have HO_219003 := n1_; have HO_229003 := n2_; have HO250 := n3_; have BK193 := n4_; have BK194 := n5_; have BK211 := n6_; have BK218 := n7_; have BK228 := n8_; have HB := n9_; clear n0_ n1_ n2_ n3_ n4_ n5_ n6_ n7_ n8_ n9_; (try clear hb); (try clear hb2); (try clear hk); (try clear hi); (try clear ho0)
              obtain ⟨Ao143, co143, eo143⟩ := Kd.R_slice HO250.out
              (first | subst eo143 | (injection eo143 with f1_ f2_ f3_; have f4_ := f1_.symm; have f5_ := f3_.symm; clear f1_ f2_ f3_; subst f4_; subst f5_))
              refine hK.out _ _ ⟨bc BK193 0, bc BK193 1, bc BK194 0, bc BK194 1, bc BK194 2, bc BK194 3⟩ (fun hHeld => ?_)
              clear hK K
              refine norm_ (a' := ?_) ?_ ?_
              rotate_left
              ·
               show Act.put _ (some 83) _ = _
               simp only [Act.put, List.setIfInBounds_toArray, List.set_cons_zero, List.set_cons_succ, i64_w, i32_w]
               rfl
              refine two_ (i := 4) (j := 8) (Ni := some 84) (Nj := some 14) #[true, true, true, true, true, false, false, false, false, false, false] #[true, true, true, true, false, false, false, false, true, false, false] rfl rfl rfl rfl (two_of HT_.out (by kernel_rfl)) (by decide) (by decide) (fun K hK => ?_) (fun K hK => ?_)
              ·
               refine goes_ Try.func21 (by kernel_rfl) rfl #[.agg #[.int .i64 t243, .bool t244], .agg #[.int .i64 t245, .int .i64 t246, .int .i64 t247, .slice Ao143 t248.length co143]] (by rfl) rfl rfl gq ?_
               with_reducible refine (impl_MirrorWalker.calls kj80 t243 t244 t245 t246 t247 _ _ t248 t251 t252 t253 t254 t257 _ ?side1 ?side2 A130.out).mono ?_
               (case side1 => repeat (first | exact (Kd.R_reads' HO250.out).2.2 | (with_reducible refine Kd.C_alloc ?_ _) | (with_reducible refine Kd.C_drewN ?_ _) | (with_reducible refine Kd.C_drew ?_)))
               (case side2 => exact (Kd.R_reads' HO250.out).2.1)
               rintro e w144 ⟨v255, rfl, ho0, hb⟩
               refine ⟨_, rfl, ?_⟩
               have n0_ := A_ (Kd.R_elder' (rq HO_212003) (Kd.R_base ho0) hb)
               have n1_ := A_ (Kd.R_elder' (rq HO_219003) (Kd.R_base ho0) hb)
               have n2_ := A_ (Kd.R_elder' (rq HO_229003) (Kd.R_base ho0) hb)
               have n3_ := A_ (Kd.R_elder' (rq HO250) (Kd.R_base ho0) hb)
               have n4_ := A_ (Kd.R_lower (Kd.R_new' (Kd.R_new' (Kd.R_new' (Kd.R_new' ho0 (Kd.R_lt (rq HO_212003))) (Kd.R_lt (rq HO_219003))) (Kd.R_lt (rq HO_229003))) (Kd.R_lt (rq HO250))) (below_size (hq HB)))
               have n5_ := A_ (blk_below (bq BK193) hb)
               have n6_ := A_ (blk_below (bq BK194) hb)
               have n7_ := A_ (blk_below (bq BK211) hb)
               have n8_ := A_ (blk_below (bq BK218) hb)
               have n9_ := A_ (blk_below (bq BK228) hb)
               have n10_ := A_ (below_step (hq HB) hb)
               clear HO_212003 HO_219003 HO_229003 HO250 BK193 BK194 BK211 BK218 BK228 HB; have HO_212003 := n0_; have HO_219003 := n1_; have HO_229003 := n2_; have HO250 := n3_; have HO256 := n4_; have BK193 := n5_; have BK194 := n6_; have BK211 := n7_; have BK218 := n8_; have BK228 := n9_; have HB := n10_; clear n0_ n1_ n2_ n3_ n4_ n5_ n6_ n7_ n8_ n9_ n10_; (try clear hb); (try clear hb2); (try clear hk); (try clear hi); (try clear ho0)
               refine hK.out _ _ ⟨bc BK193 0, bc BK193 1, bc BK194 0, bc BK194 1, bc BK194 2, bc BK194 3⟩ (fun hHeld => ?_)
               clear hK K
               refine norm_ (a' := ?_) ?_ ?_
               rotate_left
               ·
                show Act.put _ (some 84) _ = _
                simp only [Act.put, List.setIfInBounds_toArray, List.set_cons_zero, List.set_cons_succ, i64_w, i32_w]
                rfl
               refine pure_ (i := 5) (N := some 79) (v := ?_) (a' := ?_) #[true, true, true, true, true, true, false, false, false, false, false] rfl rfl (any_of HT_.out (by kernel_rfl)) (fun _ _ _ h => h) (Or.inl ⟨by rfl, ?_⟩) ?_ ?_
               rotate_left
               ·
                intro w'
                go_simp
                with_reducible rfl
               rotate_left
               ·
                simp only [Act.put, List.setIfInBounds_toArray, List.set_cons_zero, List.set_cons_succ, i64_w, i32_w]
                rfl
               refine pure_ (i := 6) (N := some 85) (v := ?_) (a' := ?_) #[true, true, true, true, true, true, true, false, false, false, false] rfl rfl (any_of HT_.out (by kernel_rfl)) (fun _ _ _ h => h) (Or.inl ⟨by rfl, ?_⟩) ?_ ?_
               rotate_left
               ·
                intro w'
                go_simp
                with_reducible rfl
               rotate_left
               ·
                simp only [Act.put, List.setIfInBounds_toArray, List.set_cons_zero, List.set_cons_succ, i64_w, i32_w]
                rfl
               refine pure_ (i := 7) (N := some 86) (v := ?_) (a' := ?_) #[true, true, true, true, true, true, true, true, false, false, false] rfl rfl (any_of HT_.out (by kernel_rfl)) (fun _ _ _ h => h) (Or.inl ⟨by rfl, ?_⟩) ?_ ?_
               rotate_left
               ·
                intro w'
                go_simp
                with_reducible rfl
               rotate_left
               ·
                simp only [Act.put, List.setIfInBounds_toArray, List.set_cons_zero, List.set_cons_succ, i64_w, i32_w]
                rfl
               refine one_ (i := 8) (N := some 14) #[true, true, true, true, true, true, true, true, true, false, false] rfl rfl (one_of HT_.out (by kernel_rfl)) (by decide) (fun K hK => ?_)
               refine box_step ?hg (N := 14) ?hd (cs := #[.int .i64 0, .int .i64 0, .int .i64 0, .slice none 0 0]) (t := 33) ?hr ?_; (case hd => rfl); (case hg => rfl); (case hr => first | (go_simp; done) | (go_simp; rfl))
               intro gb258 hg w145 hbox hb
               have n0_ := A_ (Kd.R_below (rq HO_212003) hb)
               have n1_ := A_ (Kd.R_below (rq HO_219003) hb)
               have n2_ := A_ (Kd.R_below (rq HO_229003) hb)
               have n3_ := A_ (Kd.R_below (rq HO250) hb)
               have n4_ := A_ (Kd.R_below (rq HO256) hb)
               have n5_ := A_ (blk_below (bq BK193) hb)
               have n6_ := A_ (blk_below (bq BK194) hb)
               have n7_ := A_ (blk_below (bq BK211) hb)
               have n8_ := A_ (blk_below (bq BK218) hb)
               have n9_ := A_ (blk_below (bq BK228) hb)
               have n10_ := A_ (below_step (hq HB) hb)
               have n11_ := A_ (hbox)
               have n12_ := A_ ((by rw [hg]; exact (below_size (hq HB)) : w.heap.size ≤ gb258))
               have n13_ := A_ ((by rw [hg]; exact (below_size (hq HB)) : w.heap.size ≤ gb258))
               have n14_ := A_ ((by rw [hg]; exact Nat.ne_of_lt (blk_lt (bq BK193)) : gb193 ≠ gb258))
               have n15_ := A_ ((by rw [hg]; exact Nat.ne_of_gt (blk_lt (bq BK193)) : gb258 ≠ gb193))
               have n16_ := A_ ((by rw [hg]; exact Nat.ne_of_lt (blk_lt (bq BK194)) : gb194 ≠ gb258))
               have n17_ := A_ ((by rw [hg]; exact Nat.ne_of_gt (blk_lt (bq BK194)) : gb258 ≠ gb194))
               have n18_ := A_ ((by rw [hg]; exact Nat.ne_of_lt (blk_lt (bq BK211)) : gb211 ≠ gb258))
               have n19_ := A_ ((by rw [hg]; exact Nat.ne_of_gt (blk_lt (bq BK211)) : gb258 ≠ gb211))
               have n20_ := A_ ((by rw [hg]; exact Nat.ne_of_lt (blk_lt (bq BK218)) : gb218 ≠ gb258))
               have n21_ := A_ ((by rw [hg]; exact Nat.ne_of_gt (blk_lt (bq BK218)) : gb258 ≠ gb218))
               have n22_ := A_ ((by rw [hg]; exact Nat.ne_of_lt (blk_lt (bq BK228)) : gb228 ≠ gb258))
               have n23_ := A_ ((by rw [hg]; exact Nat.ne_of_gt (blk_lt (bq BK228)) : gb258 ≠ gb228))
               clear HO_212003 HO_219003 HO_229003 HO250 HO256 BK193 BK194 BK211 BK218 BK228 HB; have HO_212003 := n0_; have HO_219003 := n1_; have HO_229003 := n2_; have HO250 := n3_; have HO256 := n4_; have BK193 := n5_; have BK194 := n6_; have BK211 := n7_; have BK218 := n8_; have BK228 := n9_; have HB := n10_; have BK258 := n11_; have GW258 := n12_; have GE258 := n13_; have NB193_258 := n14_; have NB258_193 := n15_; have NB194_258 := n16_; have NB258_194 := n17_; have NB211_258 := n18_; have NB258_211 := n19_; have NB218_258 := n20_; have NB258_218 := n21_; have NB228_258 := n22_; have NB258_228 := n23_; clear n0_ n1_ n2_ n3_ n4_ n5_ n6_ n7_ n8_ n9_ n10_ n11_ n12_ n13_ n14_ n15_ n16_ n17_ n18_ n19_ n20_ n21_ n22_ n23_ hb hbox hg
               refine hK.out _ _ ⟨bc BK193 0, bc BK193 1, bc BK194 0, bc BK194 1, bc BK194 2, bc BK194 3⟩ (fun hHeld => ?_)
               clear hK K
               refine norm_ (a' := ?_) ?_ ?_
               rotate_left
               ·
                show Act.put _ (some 14) _ = _
                simp only [Act.put, List.setIfInBounds_toArray, List.set_cons_zero, List.set_cons_succ, i64_w, i32_w]
                rfl
               exact norm_ (by simp only [putAll, Act.put, List.setIfInBounds_toArray, List.set_cons_zero, List.set_cons_succ]) (hCont (.slice Ao143 t248.length co143, v255, gb258) _ ⟨hHeld, (by (with_reducible repeat (first | apply Kd.R_alloc | apply Kd.R_drewN | apply Kd.R_drew)); exact Kd.R_mono HO250.out (fun _ hk => ⟨hk.2, ⟨hk.1.1.1.2, ⟨hk.1.1.2, hk.1.2⟩⟩⟩)), (by (with_reducible repeat (first | apply Kd.R_alloc | apply Kd.R_drewN | apply Kd.R_drew)); exact Kd.R_mono HO256.out (fun _ hk => ⟨hk.2, ⟨hk.1.1.1.2, ⟨hk.1.1.2, hk.1.2⟩⟩⟩)), (by (with_reducible repeat (first | apply Kd.R_alloc | apply Kd.R_drewN | apply Kd.R_drew)); exact Kd.R_mono HO_212003.out (fun _ hk => ⟨hk.1.2, ⟨hk.2, ⟨hk.1.1.1, hk.1.1.2⟩⟩⟩)), (by (with_reducible repeat (first | apply Kd.R_alloc | apply Kd.R_drewN | apply Kd.R_drew)); exact Kd.R_mono HO_219003.out (fun _ hk => ⟨hk.1.2, ⟨hk.2, ⟨hk.1.1.1, hk.1.1.2⟩⟩⟩)), (by (with_reducible repeat (first | apply Kd.R_alloc | apply Kd.R_drewN | apply Kd.R_drew)); exact Kd.R_mono HO_229003.out (fun _ hk => ⟨hk.1.2, ⟨hk.2, ⟨hk.1.1.1, hk.1.1.2⟩⟩⟩)), (bq BK193), (bq BK194), (bq BK211), (bq BK218), (bq BK228), (bq BK258), GW258.out, GE258.out, NB193_258.out, NB258_193.out, NB194_258.out, NB258_194.out, NB211_258.out, NB258_211.out, NB218_258.out, NB258_218.out, NB228_258.out, NB258_228.out, (hq HB)⟩)
              ·
               refine box_step ?hg (N := 14) ?hd (cs := #[.int .i64 0, .int .i64 0, .int .i64 0, .slice none 0 0]) (t := 33) ?hr ?_; (case hd => rfl); (case hg => rfl); (case hr => first | (go_simp; done) | (go_simp; rfl))
               intro gb258 hg w143 hbox hb
               have n0_ := A_ (Kd.R_below (rq HO_212003) hb)
               have n1_ := A_ (Kd.R_below (rq HO_219003) hb)
               have n2_ := A_ (Kd.R_below (rq HO_229003) hb)
               have n3_ := A_ (Kd.R_below (rq HO250) hb)
               have n4_ := A_ (blk_below (bq BK193) hb)
               have n5_ := A_ (blk_below (bq BK194) hb)
               have n6_ := A_ (blk_below (bq BK211) hb)
               have n7_ := A_ (blk_below (bq BK218) hb)
               have n8_ := A_ (blk_below (bq BK228) hb)
               have n9_ := A_ (below_step (hq HB) hb)
               have n10_ := A_ (hbox)
               have n11_ := A_ ((by rw [hg]; exact (below_size (hq HB)) : w.heap.size ≤ gb258))
               have n12_ := A_ ((by rw [hg]; exact (below_size (hq HB)) : w.heap.size ≤ gb258))
               have n13_ := A_ ((by rw [hg]; exact Nat.ne_of_lt (blk_lt (bq BK193)) : gb193 ≠ gb258))
               have n14_ := A_ ((by rw [hg]; exact Nat.ne_of_gt (blk_lt (bq BK193)) : gb258 ≠ gb193))
               have n15_ := A_ ((by rw [hg]; exact Nat.ne_of_lt (blk_lt (bq BK194)) : gb194 ≠ gb258))
               have n16_ := A_ ((by rw [hg]; exact Nat.ne_of_gt (blk_lt (bq BK194)) : gb258 ≠ gb194))
               have n17_ := A_ ((by rw [hg]; exact Nat.ne_of_lt (blk_lt (bq BK211)) : gb211 ≠ gb258))
               have n18_ := A_ ((by rw [hg]; exact Nat.ne_of_gt (blk_lt (bq BK211)) : gb258 ≠ gb211))
               have n19_ := A_ ((by rw [hg]; exact Nat.ne_of_lt (blk_lt (bq BK218)) : gb218 ≠ gb258))
               have n20_ := A_ ((by rw [hg]; exact Nat.ne_of_gt (blk_lt (bq BK218)) : gb258 ≠ gb218))
               have n21_ := A_ ((by rw [hg]; exact Nat.ne_of_lt (blk_lt (bq BK228)) : gb228 ≠ gb258))
               have n22_ := A_ ((by rw [hg]; exact Nat.ne_of_gt (blk_lt (bq BK228)) : gb258 ≠ gb228))
               clear HO_212003 HO_219003 HO_229003 HO250 BK193 BK194 BK211 BK218 BK228 HB; have HO_212003 := n0_; have HO_219003 := n1_; have HO_229003 := n2_; have HO250 := n3_; have BK193 := n4_; have BK194 := n5_; have BK211 := n6_; have BK218 := n7_; have BK228 := n8_; have HB := n9_; have BK258 := n10_; have GW258 := n11_; have GE258 := n12_; have NB193_258 := n13_; have NB258_193 := n14_; have NB194_258 := n15_; have NB258_194 := n16_; have NB211_258 := n17_; have NB258_211 := n18_; have NB218_258 := n19_; have NB258_218 := n20_; have NB228_258 := n21_; have NB258_228 := n22_; clear n0_ n1_ n2_ n3_ n4_ n5_ n6_ n7_ n8_ n9_ n10_ n11_ n12_ n13_ n14_ n15_ n16_ n17_ n18_ n19_ n20_ n21_ n22_ hb hbox hg
               obtain ⟨Ao144, co144, eo144⟩ := Kd.R_slice HO250.out
               (first | subst eo144 | (injection eo144 with f1_ f2_ f3_; have f4_ := f1_.symm; have f5_ := f3_.symm; clear f1_ f2_ f3_; subst f4_; subst f5_))
               refine hK.out _ _ ⟨bc BK193 0, bc BK193 1, bc BK194 0, bc BK194 1, bc BK194 2, bc BK194 3⟩ (fun hHeld => ?_)
               clear hK K
               refine norm_ (a' := ?_) ?_ ?_
               rotate_left
               ·
                show Act.put _ (some 14) _ = _
                simp only [Act.put, List.setIfInBounds_toArray, List.set_cons_zero, List.set_cons_succ, i64_w, i32_w]
                rfl
               refine one_ (i := 4) (N := some 84) #[true, true, true, true, true, false, false, false, true, false, false] rfl rfl (one_of HT_.out (by kernel_rfl)) (by decide) (fun K hK => ?_)
               refine goes_ Try.func21 (by kernel_rfl) rfl #[.agg #[.int .i64 t243, .bool t244], .agg #[.int .i64 t245, .int .i64 t246, .int .i64 t247, .slice Ao144 t248.length co144]] (by rfl) rfl rfl gq ?_
               with_reducible refine (impl_MirrorWalker.calls kj80 t243 t244 t245 t246 t247 _ _ t248 t251 t252 t253 t254 t257 _ ?side1 ?side2 A130.out).mono ?_
               (case side1 => repeat (first | exact (Kd.R_reads' HO250.out).2.2 | (with_reducible refine Kd.C_alloc ?_ _) | (with_reducible refine Kd.C_drewN ?_ _) | (with_reducible refine Kd.C_drew ?_)))
               (case side2 => exact (Kd.R_reads' HO250.out).2.1)
               rintro e w145 ⟨v255, rfl, ho0, hb⟩
               refine ⟨_, rfl, ?_⟩
               have n0_ := A_ (Kd.R_elder' (rq HO_212003) (Kd.R_base ho0) hb)
               have n1_ := A_ (Kd.R_elder' (rq HO_219003) (Kd.R_base ho0) hb)
               have n2_ := A_ (Kd.R_elder' (rq HO_229003) (Kd.R_base ho0) hb)
               have n3_ := A_ (Kd.R_elder' (rq HO250) (Kd.R_base ho0) hb)
               have n4_ := A_ (Kd.R_lower (Kd.R_new' (Kd.R_new' (Kd.R_new' (Kd.R_new' ho0 (Kd.R_lt (rq HO_212003))) (Kd.R_lt (rq HO_219003))) (Kd.R_lt (rq HO_229003))) (Kd.R_lt (rq HO250))) (below_size (hq HB)))
               have n5_ := A_ (blk_below (bq BK193) hb)
               have n6_ := A_ (blk_below (bq BK194) hb)
               have n7_ := A_ (blk_below (bq BK211) hb)
               have n8_ := A_ (blk_below (bq BK218) hb)
               have n9_ := A_ (blk_below (bq BK228) hb)
               have n10_ := A_ (blk_below (bq BK258) hb)
               have n11_ := A_ (below_step (hq HB) hb)
               clear HO_212003 HO_219003 HO_229003 HO250 BK193 BK194 BK211 BK218 BK228 BK258 HB; have HO_212003 := n0_; have HO_219003 := n1_; have HO_229003 := n2_; have HO250 := n3_; have HO256 := n4_; have BK193 := n5_; have BK194 := n6_; have BK211 := n7_; have BK218 := n8_; have BK228 := n9_; have BK258 := n10_; have HB := n11_; clear n0_ n1_ n2_ n3_ n4_ n5_ n6_ n7_ n8_ n9_ n10_ n11_; (try clear hb); (try clear hb2); (try clear hk); (try clear hi); (try clear ho0)
               refine hK.out _ _ ⟨bc BK193 0, bc BK193 1, bc BK194 0, bc BK194 1, bc BK194 2, bc BK194 3⟩ (fun hHeld => ?_)
               clear hK K
               refine norm_ (a' := ?_) ?_ ?_
               rotate_left
               ·
                show Act.put _ (some 84) _ = _
                simp only [Act.put, List.setIfInBounds_toArray, List.set_cons_zero, List.set_cons_succ, i64_w, i32_w]
                rfl
               refine pure_ (i := 5) (N := some 79) (v := ?_) (a' := ?_) #[true, true, true, true, true, true, false, false, true, false, false] rfl rfl (any_of HT_.out (by kernel_rfl)) (fun _ _ _ h => h) (Or.inl ⟨by rfl, ?_⟩) ?_ ?_
               rotate_left
               ·
                intro w'
                go_simp
                with_reducible rfl
               rotate_left
               ·
                simp only [Act.put, List.setIfInBounds_toArray, List.set_cons_zero, List.set_cons_succ, i64_w, i32_w]
                rfl
               refine pure_ (i := 6) (N := some 85) (v := ?_) (a' := ?_) #[true, true, true, true, true, true, true, false, true, false, false] rfl rfl (any_of HT_.out (by kernel_rfl)) (fun _ _ _ h => h) (Or.inl ⟨by rfl, ?_⟩) ?_ ?_
               rotate_left
               ·
                intro w'
                go_simp
                with_reducible rfl
               rotate_left
               ·
                simp only [Act.put, List.setIfInBounds_toArray, List.set_cons_zero, List.set_cons_succ, i64_w, i32_w]
                rfl
               refine pure_ (i := 7) (N := some 86) (v := ?_) (a' := ?_) #[true, true, true, true, true, true, true, true, true, false, false] rfl rfl (any_of HT_.out (by kernel_rfl)) (fun _ _ _ h => h) (Or.inl ⟨by rfl, ?_⟩) ?_ ?_
               rotate_left
               ·
                intro w'
                go_simp
                with_reducible rfl
               rotate_left
               ·
                simp only [Act.put, List.setIfInBounds_toArray, List.set_cons_zero, List.set_cons_succ, i64_w, i32_w]
                rfl
               exact norm_ (by simp only [putAll, Act.put, List.setIfInBounds_toArray, List.set_cons_zero, List.set_cons_succ]) (hCont (.slice Ao144 t248.length co144, v255, gb258) _ ⟨hHeld, (by (with_reducible repeat (first | apply Kd.R_alloc | apply Kd.R_drewN | apply Kd.R_drew)); exact Kd.R_mono HO250.out (fun _ hk => ⟨hk.2, ⟨hk.1.1.1.2, ⟨hk.1.1.2, hk.1.2⟩⟩⟩)), (by (with_reducible repeat (first | apply Kd.R_alloc | apply Kd.R_drewN | apply Kd.R_drew)); exact Kd.R_mono HO256.out (fun _ hk => ⟨hk.2, ⟨hk.1.1.1.2, ⟨hk.1.1.2, hk.1.2⟩⟩⟩)), (by (with_reducible repeat (first | apply Kd.R_alloc | apply Kd.R_drewN | apply Kd.R_drew)); exact Kd.R_mono HO_212003.out (fun _ hk => ⟨hk.1.2, ⟨hk.2, ⟨hk.1.1.1, hk.1.1.2⟩⟩⟩)), (by (with_reducible repeat (first | apply Kd.R_alloc | apply Kd.R_drewN | apply Kd.R_drew)); exact Kd.R_mono HO_219003.out (fun _ hk => ⟨hk.1.2, ⟨hk.2, ⟨hk.1.1.1, hk.1.1.2⟩⟩⟩)), (by (with_reducible repeat (first | apply Kd.R_alloc | apply Kd.R_drewN | apply Kd.R_drew)); exact Kd.R_mono HO_229003.out (fun _ hk => ⟨hk.1.2, ⟨hk.2, ⟨hk.1.1.1, hk.1.1.2⟩⟩⟩)), (bq BK193), (bq BK194), (bq BK211), (bq BK218), (bq BK228), (bq BK258), GW258.out, GE258.out, NB193_258.out, NB258_193.out, NB194_258.out, NB258_194.out, NB211_258.out, NB258_211.out, NB218_258.out, NB258_218.out, NB228_258.out, NB258_228.out, (hq HB)⟩)
             ·
              refine box_step ?hg (N := 14) ?hd (cs := #[.int .i64 0, .int .i64 0, .int .i64 0, .slice none 0 0]) (t := 33) ?hr ?_; (case hd => rfl); (case hg => rfl); (case hr => first | (go_simp; done) | (go_simp; rfl))
              intro gb258 hg w142 hbox hb
              have n0_ := A_ (Kd.R_below (rq HO_212003) hb)
              have n1_ := A_ (Kd.R_below (rq HO_219003) hb)
              have n2_ := A_ (Kd.R_below (rq HO_229003) hb)
              have n3_ := A_ (blk_below (bq BK193) hb)
              have n4_ := A_ (blk_below (bq BK194) hb)
              have n5_ := A_ (blk_below (bq BK211) hb)
              have n6_ := A_ (blk_below (bq BK218) hb)
              have n7_ := A_ (blk_below (bq BK228) hb)
              have n8_ := A_ (below_step (hq HB) hb)
              have n9_ := A_ (hbox)
              have n10_ := A_ ((by rw [hg]; exact (below_size (hq HB)) : w.heap.size ≤ gb258))
              have n11_ := A_ ((by rw [hg]; exact (below_size (hq HB)) : w.heap.size ≤ gb258))
              have n12_ := A_ ((by rw [hg]; exact Nat.ne_of_lt (blk_lt (bq BK193)) : gb193 ≠ gb258))
              have n13_ := A_ ((by rw [hg]; exact Nat.ne_of_gt (blk_lt (bq BK193)) : gb258 ≠ gb193))
              have n14_ := A_ ((by rw [hg]; exact Nat.ne_of_lt (blk_lt (bq BK194)) : gb194 ≠ gb258))
              have n15_ := A_ ((by rw [hg]; exact Nat.ne_of_gt (blk_lt (bq BK194)) : gb258 ≠ gb194))
              have n16_ := A_ ((by rw [hg]; exact Nat.ne_of_lt (blk_lt (bq BK211)) : gb211 ≠ gb258))
              have n17_ := A_ ((by rw [hg]; exact Nat.ne_of_gt (blk_lt (bq BK211)) : gb258 ≠ gb211))
              have n18_ := A_ ((by rw [hg]; exact Nat.ne_of_lt (blk_lt (bq BK218)) : gb218 ≠ gb258))
              have n19_ := A_ ((by rw [hg]; exact Nat.ne_of_gt (blk_lt (bq BK218)) : gb258 ≠ gb218))
              have n20_ := A_ ((by rw [hg]; exact Nat.ne_of_lt (blk_lt (bq BK228)) : gb228 ≠ gb258))
              have n21_ := A_ ((by rw [hg]; exact Nat.ne_of_gt (blk_lt (bq BK228)) : gb258 ≠ gb228))
              clear HO_212003 HO_219003 HO_229003 BK193 BK194 BK211 BK218 BK228 HB; have HO_212003 := n0_; have HO_219003 := n1_; have HO_229003 := n2_; have BK193 := n3_; have BK194 := n4_; have BK211 := n5_; have BK218 := n6_; have BK228 := n7_; have HB := n8_; have BK258 := n9_; have GW258 := n10_; have GE258 := n11_; have NB193_258 := n12_; have NB258_193 := n13_; have NB194_258 := n14_; have NB258_194 := n15_; have NB211_258 := n16_; have NB258_211 := n17_; have NB218_258 := n18_; have NB258_218 := n19_; have NB228_258 := n20_; have NB258_228 := n21_; clear n0_ n1_ n2_ n3_ n4_ n5_ n6_ n7_ n8_ n9_ n10_ n11_ n12_ n13_ n14_ n15_ n16_ n17_ n18_ n19_ n20_ n21_ hb hbox hg
              refine hK.out _ _ ⟨bc BK193 0, bc BK193 1, bc BK194 0, bc BK194 1, bc BK194 2, bc BK194 3⟩ (fun hHeld => ?_)
              clear hK K
              refine norm_ (a' := ?_) ?_ ?_
              rotate_left
              ·
               show Act.put _ (some 14) _ = _
               simp only [Act.put, List.setIfInBounds_toArray, List.set_cons_zero, List.set_cons_succ, i64_w, i32_w]
               rfl
              refine one_ (i := 3) (N := some 83) #[true, true, true, true, false, false, false, false, true, false, false] rfl rfl (one_of HT_.out (by kernel_rfl)) (by decide) (fun K hK => ?_)
              refine goes_ Try.func13 (by kernel_rfl) rfl #[.agg #[.int .i64 a1_0, .int .i64 a1_1, .int .i64 a1_2, .slice A1_3 l1_3.length c1_3]] (by rfl) rfl rfl gq ?_
              with_reducible refine (laws_toWalker.calls kj80 a1_0 a1_1 a1_2 _ _ l1_3 t245 t246 t247 t248 _ ?side1 ?side2 A129.out).mono ?_
              (case side1 => repeat (first | exact (Kd.C_below HR1_3.out HB.out) | (with_reducible refine Kd.C_alloc ?_ _) | (with_reducible refine Kd.C_drewN ?_ _) | (with_reducible refine Kd.C_drew ?_)))
              (case side2 => exact HC1_3.out)
              rintro e w143 ⟨v249, rfl, ho0, hb⟩
              refine ⟨_, rfl, ?_⟩
              have n0_ := A_ (Kd.R_elder' (rq HO_212003) (Kd.R_base ho0) hb)
              have n1_ := A_ (Kd.R_elder' (rq HO_219003) (Kd.R_base ho0) hb)
              have n2_ := A_ (Kd.R_elder' (rq HO_229003) (Kd.R_base ho0) hb)
              have n3_ := A_ (Kd.R_lower (Kd.R_new' (Kd.R_new' (Kd.R_new' ho0 (Kd.R_lt (rq HO_212003))) (Kd.R_lt (rq HO_219003))) (Kd.R_lt (rq HO_229003))) (below_size (hq HB)))
              have n4_ := A_ (blk_below (bq BK193) hb)
              have n5_ := A_ (blk_below (bq BK194) hb)
              have n6_ := A_ (blk_below (bq BK211) hb)
              have n7_ := A_ (blk_below (bq BK218) hb)
              have n8_ := A_ (blk_below (bq BK228) hb)
              have n9_ := A_ (blk_below (bq BK258) hb)
              have n10_ := A_ (below_step (hq HB) hb)
              clear HO_212003 HO_219003 HO_229003 BK193 BK194 BK211 BK218 BK228 BK258 HB; have HO_212003 := n0_; have HO_219003 := n1_; have HO_229003 := n2_; have HO250 := n3_; have BK193 := n4_; have BK194 := n5_; have BK211 := n6_; have BK218 := n7_; have BK228 := n8_; have BK258 := n9_; have HB := n10_; clear n0_ n1_ n2_ n3_ n4_ n5_ n6_ n7_ n8_ n9_ n10_; (try clear hb); (try clear hb2); (try clear hk); (try clear hi); (try clear ho0)
              obtain ⟨Ao144, co144, eo144⟩ := Kd.R_slice HO250.out
              (first | subst eo144 | (injection eo144 with f1_ f2_ f3_; have f4_ := f1_.symm; have f5_ := f3_.symm; clear f1_ f2_ f3_; subst f4_; subst f5_))
              refine hK.out _ _ ⟨bc BK193 0, bc BK193 1, bc BK194 0, bc BK194 1, bc BK194 2, bc BK194 3⟩ (fun hHeld => ?_)
              clear hK K
              refine norm_ (a' := ?_) ?_ ?_
              rotate_left
              ·
               show Act.put _ (some 83) _ = _
               simp only [Act.put, List.setIfInBounds_toArray, List.set_cons_zero, List.set_cons_succ, i64_w, i32_w]
               rfl
              refine one_ (i := 4) (N := some 84) #[true, true, true, true, true, false, false, false, true, false, false] rfl rfl (one_of HT_.out (by kernel_rfl)) (by decide) (fun K hK => ?_)
              refine goes_ Try.func21 (by kernel_rfl) rfl #[.agg #[.int .i64 t243, .bool t244], .agg #[.int .i64 t245, .int .i64 t246, .int .i64 t247, .slice Ao144 t248.length co144]] (by rfl) rfl rfl gq ?_
              with_reducible refine (impl_MirrorWalker.calls kj80 t243 t244 t245 t246 t247 _ _ t248 t251 t252 t253 t254 t257 _ ?side1 ?side2 A130.out).mono ?_
              (case side1 => repeat (first | exact (Kd.R_reads' HO250.out).2.2 | (with_reducible refine Kd.C_alloc ?_ _) | (with_reducible refine Kd.C_drewN ?_ _) | (with_reducible refine Kd.C_drew ?_)))
              (case side2 => exact (Kd.R_reads' HO250.out).2.1)
              rintro e w145 ⟨v255, rfl, ho0, hb⟩
              refine ⟨_, rfl, ?_⟩
              have n0_ := A_ (Kd.R_elder' (rq HO_212003) (Kd.R_base ho0) hb)
              have n1_ := A_ (Kd.R_elder' (rq HO_219003) (Kd.R_base ho0) hb)
              have n2_ := A_ (Kd.R_elder' (rq HO_229003) (Kd.R_base ho0) hb)
              have n3_ := A_ (Kd.R_elder' (rq HO250) (Kd.R_base ho0) hb)
              have n4_ := A_ (Kd.R_lower (Kd.R_new' (Kd.R_new' (Kd.R_new' (Kd.R_new' ho0 (Kd.R_lt (rq HO_212003))) (Kd.R_lt (rq HO_219003))) (Kd.R_lt (rq HO_229003))) (Kd.R_lt (rq HO250))) (below_size (hq HB)))
              have n5_ := A_ (blk_below (bq BK193) hb)
              have n6_ := A_ (blk_below (bq BK194) hb)
              have n7_ := A_ (blk_below (bq BK211) hb)
              have n8_ := A_ (blk_below (bq BK218) hb)
              have n9_ := A_ (blk_below (bq BK228) hb)
              have n10_ := A_ (blk_below (bq BK258) hb)
              have n11_ := A_ (below_step (hq HB) hb)
              clear HO_212003 HO_219003 HO_229003 HO250 BK193 BK194 BK211 BK218 BK228 BK258 HB; have HO_212003 := n0_; have HO_219003 := n1_; have HO_229003 := n2_; have HO250 := n3_; have HO256 := n4_; have BK193 := n5_; have BK194 := n6_; have BK211 := n7_; have BK218 := n8_; have BK228 := n9_; have BK258 := n10_; have HB := n11_; clear n0_ n1_ n2_ n3_ n4_ n5_ n6_ n7_ n8_ n9_ n10_ n11_; (try clear hb); (try clear hb2); (try clear hk); (try clear hi); (try clear ho0)
              refine hK.out _ _ ⟨bc BK193 0, bc BK193 1, bc BK194 0, bc BK194 1, bc BK194 2, bc BK194 3⟩ (fun hHeld => ?_)
              clear hK K
              refine norm_ (a' := ?_) ?_ ?_
              rotate_left
              ·
               show Act.put _ (some 84) _ = _
               simp only [Act.put, List.setIfInBounds_toArray, List.set_cons_zero, List.set_cons_succ, i64_w, i32_w]
               rfl
              refine pure_ (i := 5) (N := some 79) (v := ?_) (a' := ?_) #[true, true, true, true, true, true, false, false, true, false, false] rfl rfl (any_of HT_.out (by kernel_rfl)) (fun _ _ _ h => h) (Or.inl ⟨by rfl, ?_⟩) ?_ ?_
              rotate_left
              ·
               intro w'
               go_simp
               with_reducible rfl
              rotate_left
              ·
               simp only [Act.put, List.setIfInBounds_toArray, List.set_cons_zero, List.set_cons_succ, i64_w, i32_w]
               rfl
              refine pure_ (i := 6) (N := some 85) (v := ?_) (a' := ?_) #[true, true, true, true, true, true, true, false, true, false, false] rfl rfl (any_of HT_.out (by kernel_rfl)) (fun _ _ _ h => h) (Or.inl ⟨by rfl, ?_⟩) ?_ ?_
              rotate_left
              ·
               intro w'
               go_simp
               with_reducible rfl
              rotate_left
              ·
               simp only [Act.put, List.setIfInBounds_toArray, List.set_cons_zero, List.set_cons_succ, i64_w, i32_w]
               rfl
              refine pure_ (i := 7) (N := some 86) (v := ?_) (a' := ?_) #[true, true, true, true, true, true, true, true, true, false, false] rfl rfl (any_of HT_.out (by kernel_rfl)) (fun _ _ _ h => h) (Or.inl ⟨by rfl, ?_⟩) ?_ ?_
              rotate_left
              ·
               intro w'
               go_simp
               with_reducible rfl
              rotate_left
              ·
               simp only [Act.put, List.setIfInBounds_toArray, List.set_cons_zero, List.set_cons_succ, i64_w, i32_w]
               rfl
              exact norm_ (by simp only [putAll, Act.put, List.setIfInBounds_toArray, List.set_cons_zero, List.set_cons_succ]) (hCont (.slice Ao144 t248.length co144, v255, gb258) _ ⟨hHeld, (by (with_reducible repeat (first | apply Kd.R_alloc | apply Kd.R_drewN | apply Kd.R_drew)); exact Kd.R_mono HO250.out (fun _ hk => ⟨hk.2, ⟨hk.1.1.1.2, ⟨hk.1.1.2, hk.1.2⟩⟩⟩)), (by (with_reducible repeat (first | apply Kd.R_alloc | apply Kd.R_drewN | apply Kd.R_drew)); exact Kd.R_mono HO256.out (fun _ hk => ⟨hk.2, ⟨hk.1.1.1.2, ⟨hk.1.1.2, hk.1.2⟩⟩⟩)), (by (with_reducible repeat (first | apply Kd.R_alloc | apply Kd.R_drewN | apply Kd.R_drew)); exact Kd.R_mono HO_212003.out (fun _ hk => ⟨hk.1.2, ⟨hk.2, ⟨hk.1.1.1, hk.1.1.2⟩⟩⟩)), (by (with_reducible repeat (first | apply Kd.R_alloc | apply Kd.R_drewN | apply Kd.R_drew)); exact Kd.R_mono HO_219003.out (fun _ hk => ⟨hk.1.2, ⟨hk.2, ⟨hk.1.1.1, hk.1.1.2⟩⟩⟩)), (by (with_reducible repeat (first | apply Kd.R_alloc | apply Kd.R_drewN | apply Kd.R_drew)); exact Kd.R_mono HO_229003.out (fun _ hk => ⟨hk.1.2, ⟨hk.2, ⟨hk.1.1.1, hk.1.1.2⟩⟩⟩)), (bq BK193), (bq BK194), (bq BK211), (bq BK218), (bq BK228), (bq BK258), GW258.out, GE258.out, NB193_258.out, NB258_193.out, NB194_258.out, NB258_194.out, NB211_258.out, NB258_211.out, NB218_258.out, NB258_218.out, NB228_258.out, NB258_228.out, (hq HB)⟩)
            ·
             refine box_step ?hg (N := 14) ?hd (cs := #[.int .i64 0, .int .i64 0, .int .i64 0, .slice none 0 0]) (t := 33) ?hr ?_; (case hd => rfl); (case hg => rfl); (case hr => first | (go_simp; done) | (go_simp; rfl))
             intro gb258 hg w141 hbox hb
             have n0_ := A_ (Kd.R_below (rq HO_212003) hb)
             have n1_ := A_ (Kd.R_below (rq HO_219003) hb)
             have n2_ := A_ (Kd.R_below (rq HO_229003) hb)
             have n3_ := A_ (blk_below (bq BK193) hb)
             have n4_ := A_ (blk_below (bq BK194) hb)
             have n5_ := A_ (blk_below (bq BK211) hb)
             have n6_ := A_ (blk_below (bq BK218) hb)
             have n7_ := A_ (blk_below (bq BK228) hb)
             have n8_ := A_ (below_step (hq HB) hb)
             have n9_ := A_ (hbox)
             have n10_ := A_ ((by rw [hg]; exact (below_size (hq HB)) : w.heap.size ≤ gb258))
             have n11_ := A_ ((by rw [hg]; exact (below_size (hq HB)) : w.heap.size ≤ gb258))
             have n12_ := A_ ((by rw [hg]; exact Nat.ne_of_lt (blk_lt (bq BK193)) : gb193 ≠ gb258))
             have n13_ := A_ ((by rw [hg]; exact Nat.ne_of_gt (blk_lt (bq BK193)) : gb258 ≠ gb193))
             have n14_ := A_ ((by rw [hg]; exact Nat.ne_of_lt (blk_lt (bq BK194)) : gb194 ≠ gb258))
             have n15_ := A_ ((by rw [hg]; exact Nat.ne_of_gt (blk_lt (bq BK194)) : gb258 ≠ gb194))
             have n16_ := A_ ((by rw [hg]; exact Nat.ne_of_lt (blk_lt (bq BK211)) : gb211 ≠ gb258))
             have n17_ := A_ ((by rw [hg]; exact Nat.ne_of_gt (blk_lt (bq BK211)) : gb258 ≠ gb211))
             have n18_ := A_ ((by rw [hg]; exact Nat.ne_of_lt (blk_lt (bq BK218)) : gb218 ≠ gb258))
             have n19_ := A_ ((by rw [hg]; exact Nat.ne_of_gt (blk_lt (bq BK218)) : gb258 ≠ gb218))
             have n20_ := A_ ((by rw [hg]; exact Nat.ne_of_lt (blk_lt (bq BK228)) : gb228 ≠ gb258))
             have n21_ := A_ ((by rw [hg]; exact Nat.ne_of_gt (blk_lt (bq BK228)) : gb258 ≠ gb228))
             clear HO_212003 HO_219003 HO_229003 BK193 BK194 BK211 BK218 BK228 HB; have HO_212003 := n0_; have HO_219003 := n1_; have HO_229003 := n2_; have BK193 := n3_; have BK194 := n4_; have BK211 := n5_; have BK218 := n6_; have BK228 := n7_; have HB := n8_; have BK258 := n9_; have GW258 := n10_; have GE258 := n11_; have NB193_258 := n12_; have NB258_193 := n13_; have NB194_258 := n14_; have NB258_194 := n15_; have NB211_258 := n16_; have NB258_211 := n17_; have NB218_258 := n18_; have NB258_218 := n19_; have NB228_258 := n20_; have NB258_228 := n21_; clear n0_ n1_ n2_ n3_ n4_ n5_ n6_ n7_ n8_ n9_ n10_ n11_ n12_ n13_ n14_ n15_ n16_ n17_ n18_ n19_ n20_ n21_ hb hbox hg
             refine hK.out _ _ ⟨bc BK193 0, bc BK193 1, bc BK194 0, bc BK194 1, bc BK194 2, bc BK194 3⟩ (fun hHeld => ?_)
             clear hK K
             refine norm_ (a' := ?_) ?_ ?_
             rotate_left
             ·
              show Act.put _ (some 14) _ = _
              simp only [Act.put, List.setIfInBounds_toArray, List.set_cons_zero, List.set_cons_succ, i64_w, i32_w]
              rfl
             refine one_ (i := 1) (N := some 81) #[true, true, true, false, false, false, false, false, true, false, false] rfl rfl (one_of HT_.out (by kernel_rfl)) (by decide) (fun K hK => ?_)
             refine goes_ Try.func12 (by kernel_rfl) rfl #[.agg #[.int .i64 a0_0, .bool a0_1]] (by rfl) rfl rfl gq ?_
             with_reducible refine (laws_toRoad.calls a0_0 a0_1 t243 t244 _ A128.out).mono ?_
             rintro e w142 ⟨rfl, hb⟩
             refine ⟨_, rfl, ?_⟩
             have n0_ := A_ (Kd.R_below (rq HO_212003) hb)
             have n1_ := A_ (Kd.R_below (rq HO_219003) hb)
             have n2_ := A_ (Kd.R_below (rq HO_229003) hb)
             have n3_ := A_ (blk_below (bq BK193) hb)
             have n4_ := A_ (blk_below (bq BK194) hb)
             have n5_ := A_ (blk_below (bq BK211) hb)
             have n6_ := A_ (blk_below (bq BK218) hb)
             have n7_ := A_ (blk_below (bq BK228) hb)
             have n8_ := A_ (blk_below (bq BK258) hb)
             have n9_ := A_ (below_step (hq HB) hb)
             clear HO_212003 HO_219003 HO_229003 BK193 BK194 BK211 BK218 BK228 BK258 HB; have HO_212003 := n0_; have HO_219003 := n1_; have HO_229003 := n2_; have BK193 := n3_; have BK194 := n4_; have BK211 := n5_; have BK218 := n6_; have BK228 := n7_; have BK258 := n8_; have HB := n9_; clear n0_ n1_ n2_ n3_ n4_ n5_ n6_ n7_ n8_ n9_; (try clear hb); (try clear hb2); (try clear hk); (try clear hi)
             refine hK.out _ _ ⟨bc BK193 0, bc BK193 1, bc BK194 0, bc BK194 1, bc BK194 2, bc BK194 3⟩ (fun hHeld => ?_)
             clear hK K
             refine norm_ (a' := ?_) ?_ ?_
             rotate_left
             ·
              show Act.put _ (some 81) _ = _
              simp only [Act.put, List.setIfInBounds_toArray, List.set_cons_zero, List.set_cons_succ, i64_w, i32_w]
              rfl
             refine one_ (i := 3) (N := some 83) #[true, true, true, true, false, false, false, false, true, false, false] rfl rfl (one_of HT_.out (by kernel_rfl)) (by decide) (fun K hK => ?_)
             refine goes_ Try.func13 (by kernel_rfl) rfl #[.agg #[.int .i64 a1_0, .int .i64 a1_1, .int .i64 a1_2, .slice A1_3 l1_3.length c1_3]] (by rfl) rfl rfl gq ?_
             with_reducible refine (laws_toWalker.calls kj80 a1_0 a1_1 a1_2 _ _ l1_3 t245 t246 t247 t248 _ ?side1 ?side2 A129.out).mono ?_
             (case side1 => repeat (first | exact (Kd.C_below HR1_3.out HB.out) | (with_reducible refine Kd.C_alloc ?_ _) | (with_reducible refine Kd.C_drewN ?_ _) | (with_reducible refine Kd.C_drew ?_)))
             (case side2 => exact HC1_3.out)
             rintro e w143 ⟨v249, rfl, ho0, hb⟩
             refine ⟨_, rfl, ?_⟩
             have n0_ := A_ (Kd.R_elder' (rq HO_212003) (Kd.R_base ho0) hb)
             have n1_ := A_ (Kd.R_elder' (rq HO_219003) (Kd.R_base ho0) hb)
             have n2_ := A_ (Kd.R_elder' (rq HO_229003) (Kd.R_base ho0) hb)
             have n3_ := A_ (Kd.R_lower (Kd.R_new' (Kd.R_new' (Kd.R_new' ho0 (Kd.R_lt (rq HO_212003))) (Kd.R_lt (rq HO_219003))) (Kd.R_lt (rq HO_229003))) (below_size (hq HB)))
             have n4_ := A_ (blk_below (bq BK193) hb)
             have n5_ := A_ (blk_below (bq BK194) hb)
             have n6_ := A_ (blk_below (bq BK211) hb)
             have n7_ := A_ (blk_below (bq BK218) hb)
             have n8_ := A_ (blk_below (bq BK228) hb)
             have n9_ := A_ (blk_below (bq BK258) hb)
             have n10_ := A_ (below_step (hq HB) hb)
             clear HO_212003 HO_219003 HO_229003 BK193 BK194 BK211 BK218 BK228 BK258 HB; have HO_212003 := n0_; have HO_219003 := n1_; have HO_229003 := n2_; have HO250 := n3_; have BK193 := n4_; have BK194 := n5_; have BK211 := n6_; have BK218 := n7_; have BK228 := n8_; have BK258 := n9_; have HB := n10_; clear n0_ n1_ n2_ n3_ n4_ n5_ n6_ n7_ n8_ n9_ n10_; (try clear hb); (try clear hb2); (try clear hk); (try clear hi); (try clear ho0)
             obtain ⟨Ao144, co144, eo144⟩ := Kd.R_slice HO250.out
             (first | subst eo144 | (injection eo144 with f1_ f2_ f3_; have f4_ := f1_.symm; have f5_ := f3_.symm; clear f1_ f2_ f3_; subst f4_; subst f5_))
             refine hK.out _ _ ⟨bc BK193 0, bc BK193 1, bc BK194 0, bc BK194 1, bc BK194 2, bc BK194 3⟩ (fun hHeld => ?_)
             clear hK K
             refine norm_ (a' := ?_) ?_ ?_
             rotate_left
             ·
              show Act.put _ (some 83) _ = _
              simp only [Act.put, List.setIfInBounds_toArray, List.set_cons_zero, List.set_cons_succ, i64_w, i32_w]
              rfl
             refine one_ (i := 4) (N := some 84) #[true, true, true, true, true, false, false, false, true, false, false] rfl rfl (one_of HT_.out (by kernel_rfl)) (by decide) (fun K hK => ?_)
             refine goes_ Try.func21 (by kernel_rfl) rfl #[.agg #[.int .i64 t243, .bool t244], .agg #[.int .i64 t245, .int .i64 t246, .int .i64 t247, .slice Ao144 t248.length co144]] (by rfl) rfl rfl gq ?_
             with_reducible refine (impl_MirrorWalker.calls kj80 t243 t244 t245 t246 t247 _ _ t248 t251 t252 t253 t254 t257 _ ?side1 ?side2 A130.out).mono ?_
             (case side1 => repeat (first | exact (Kd.R_reads' HO250.out).2.2 | (with_reducible refine Kd.C_alloc ?_ _) | (with_reducible refine Kd.C_drewN ?_ _) | (with_reducible refine Kd.C_drew ?_)))
             (case side2 => exact (Kd.R_reads' HO250.out).2.1)
             rintro e w145 ⟨v255, rfl, ho0, hb⟩
             refine ⟨_, rfl, ?_⟩
             have n0_ := A_ (Kd.R_elder' (rq HO_212003) (Kd.R_base ho0) hb)
             have n1_ := A_ (Kd.R_elder' (rq HO_219003) (Kd.R_base ho0) hb)
             have n2_ := A_ (Kd.R_elder' (rq HO_229003) (Kd.R_base ho0) hb)
             have n3_ := A_ (Kd.R_elder' (rq HO250) (Kd.R_base ho0) hb)
             have n4_ := A_ (Kd.R_lower (Kd.R_new' (Kd.R_new' (Kd.R_new' (Kd.R_new' ho0 (Kd.R_lt (rq HO_212003))) (Kd.R_lt (rq HO_219003))) (Kd.R_lt (rq HO_229003))) (Kd.R_lt (rq HO250))) (below_size (hq HB)))
             have n5_ := A_ (blk_below (bq BK193) hb)
             have n6_ := A_ (blk_below (bq BK194) hb)
             have n7_ := A_ (blk_below (bq BK211) hb)
             have n8_ := A_ (blk_below (bq BK218) hb)
             have n9_ := A_ (blk_below (bq BK228) hb)
             have n10_ := A_ (blk_below (bq BK258) hb)
             have n11_ := A_ (below_step (hq HB) hb)
             clear HO_212003 HO_219003 HO_229003 HO250 BK193 BK194 BK211 BK218 BK228 BK258 HB; have HO_212003 := n0_; have HO_219003 := n1_; have HO_229003 := n2_; have HO250 := n3_; have HO256 := n4_; have BK193 := n5_; have BK194 := n6_; have BK211 := n7_; have BK218 := n8_; have BK228 := n9_; have BK258 := n10_; have HB := n11_; clear n0_ n1_ n2_ n3_ n4_ n5_ n6_ n7_ n8_ n9_ n10_ n11_; (try clear hb); (try clear hb2); (try clear hk); (try clear hi); (try clear ho0)
             refine hK.out _ _ ⟨bc BK193 0, bc BK193 1, bc BK194 0, bc BK194 1, bc BK194 2, bc BK194 3⟩ (fun hHeld => ?_)
             clear hK K
             refine norm_ (a' := ?_) ?_ ?_
             rotate_left
             ·
              show Act.put _ (some 84) _ = _
              simp only [Act.put, List.setIfInBounds_toArray, List.set_cons_zero, List.set_cons_succ, i64_w, i32_w]
              rfl
             refine pure_ (i := 5) (N := some 79) (v := ?_) (a' := ?_) #[true, true, true, true, true, true, false, false, true, false, false] rfl rfl (any_of HT_.out (by kernel_rfl)) (fun _ _ _ h => h) (Or.inl ⟨by rfl, ?_⟩) ?_ ?_
             rotate_left
             ·
              intro w'
              go_simp
              with_reducible rfl
             rotate_left
             ·
              simp only [Act.put, List.setIfInBounds_toArray, List.set_cons_zero, List.set_cons_succ, i64_w, i32_w]
              rfl
             refine pure_ (i := 6) (N := some 85) (v := ?_) (a' := ?_) #[true, true, true, true, true, true, true, false, true, false, false] rfl rfl (any_of HT_.out (by kernel_rfl)) (fun _ _ _ h => h) (Or.inl ⟨by rfl, ?_⟩) ?_ ?_
             rotate_left
             ·
              intro w'
              go_simp
              with_reducible rfl
             rotate_left
             ·
              simp only [Act.put, List.setIfInBounds_toArray, List.set_cons_zero, List.set_cons_succ, i64_w, i32_w]
              rfl
             refine pure_ (i := 7) (N := some 86) (v := ?_) (a' := ?_) #[true, true, true, true, true, true, true, true, true, false, false] rfl rfl (any_of HT_.out (by kernel_rfl)) (fun _ _ _ h => h) (Or.inl ⟨by rfl, ?_⟩) ?_ ?_
             rotate_left
             ·
              intro w'
              go_simp
              with_reducible rfl
             rotate_left
             ·
              simp only [Act.put, List.setIfInBounds_toArray, List.set_cons_zero, List.set_cons_succ, i64_w, i32_w]
              rfl
             exact norm_ (by simp only [putAll, Act.put, List.setIfInBounds_toArray, List.set_cons_zero, List.set_cons_succ]) (hCont (.slice Ao144 t248.length co144, v255, gb258) _ ⟨hHeld, (by (with_reducible repeat (first | apply Kd.R_alloc | apply Kd.R_drewN | apply Kd.R_drew)); exact Kd.R_mono HO250.out (fun _ hk => ⟨hk.2, ⟨hk.1.1.1.2, ⟨hk.1.1.2, hk.1.2⟩⟩⟩)), (by (with_reducible repeat (first | apply Kd.R_alloc | apply Kd.R_drewN | apply Kd.R_drew)); exact Kd.R_mono HO256.out (fun _ hk => ⟨hk.2, ⟨hk.1.1.1.2, ⟨hk.1.1.2, hk.1.2⟩⟩⟩)), (by (with_reducible repeat (first | apply Kd.R_alloc | apply Kd.R_drewN | apply Kd.R_drew)); exact Kd.R_mono HO_212003.out (fun _ hk => ⟨hk.1.2, ⟨hk.2, ⟨hk.1.1.1, hk.1.1.2⟩⟩⟩)), (by (with_reducible repeat (first | apply Kd.R_alloc | apply Kd.R_drewN | apply Kd.R_drew)); exact Kd.R_mono HO_219003.out (fun _ hk => ⟨hk.1.2, ⟨hk.2, ⟨hk.1.1.1, hk.1.1.2⟩⟩⟩)), (by (with_reducible repeat (first | apply Kd.R_alloc | apply Kd.R_drewN | apply Kd.R_drew)); exact Kd.R_mono HO_229003.out (fun _ hk => ⟨hk.1.2, ⟨hk.2, ⟨hk.1.1.1, hk.1.1.2⟩⟩⟩)), (bq BK193), (bq BK194), (bq BK211), (bq BK218), (bq BK228), (bq BK258), GW258.out, GE258.out, NB193_258.out, NB258_193.out, NB194_258.out, NB258_194.out, NB211_258.out, NB258_211.out, NB218_258.out, NB258_218.out, NB228_258.out, NB258_228.out, (hq HB)⟩)
           rintro ⟨v249, v255, gb258⟩ w146 ⟨hS_, h0_, h1_, h2_, h3_, h4_, h5_, h6_, h7_, h8_, h9_, h10_, h11_, h12_, h13_, h14_, h15_, h16_, h17_, h18_, h19_, h20_, h21_, h22_, h23_⟩
           have n0_ : Aside0 (Kd.R (Kd.int .i64) 3 w146 w.heap.size (fun k_ => some k_ ≠ (v255 : Value).ownBlock ∧ some k_ ≠ (.slice Ao32 t207.length co32 : Value).ownBlock ∧ some k_ ≠ (.slice Ao42 t238.length co42 : Value).ownBlock ∧ some k_ ≠ (.slice Ao52 t224.length co52 : Value).ownBlock) v249 t248) := ⟨h0_⟩
           have n1_ : Aside0 (Kd.R (Kd.int .i64) 3 w146 w.heap.size (fun k_ => some k_ ≠ (v249 : Value).ownBlock ∧ some k_ ≠ (.slice Ao32 t207.length co32 : Value).ownBlock ∧ some k_ ≠ (.slice Ao42 t238.length co42 : Value).ownBlock ∧ some k_ ≠ (.slice Ao52 t224.length co52 : Value).ownBlock) v255 t254) := ⟨h1_⟩
           have n2_ : Aside0 (Kd.R (Kd.int .i64) 3 w146 w.heap.size (fun k_ => some k_ ≠ (v249 : Value).ownBlock ∧ some k_ ≠ (v255 : Value).ownBlock ∧ some k_ ≠ (.slice Ao42 t238.length co42 : Value).ownBlock ∧ some k_ ≠ (.slice Ao52 t224.length co52 : Value).ownBlock) (.slice Ao32 t207.length co32) t207) := ⟨h2_⟩
           have n3_ : Aside0 (Kd.R (Kd.int .i64) 3 w146 w.heap.size (fun k_ => some k_ ≠ (v249 : Value).ownBlock ∧ some k_ ≠ (v255 : Value).ownBlock ∧ some k_ ≠ (.slice Ao32 t207.length co32 : Value).ownBlock ∧ some k_ ≠ (.slice Ao52 t224.length co52 : Value).ownBlock) (.slice Ao42 t238.length co42) t238) := ⟨h3_⟩
           have n4_ : Aside0 (Kd.R (Kd.int .i64) 3 w146 w.heap.size (fun k_ => some k_ ≠ (v249 : Value).ownBlock ∧ some k_ ≠ (v255 : Value).ownBlock ∧ some k_ ≠ (.slice Ao32 t207.length co32 : Value).ownBlock ∧ some k_ ≠ (.slice Ao42 t238.length co42 : Value).ownBlock) (.slice Ao52 t224.length co52) t241) := ⟨h4_⟩
           have n5_ : Aside0 (w146.heap[gb193]? = some (.cells #[.int .i64 a0_0, .bool a0_1] 23 (0, 0))) := ⟨h5_⟩
           have n6_ : Aside0 (w146.heap[gb194]? = some (.cells #[.int .i64 a1_0, .int .i64 a1_1, .int .i64 a1_2, .slice A1_3 l1_3.length c1_3] 26 (0, 0))) := ⟨h6_⟩
           have n7_ : Aside0 (w146.heap[gb211]? = some (.cells #[.int .i64 t204, .int .i64 t205, .int .i64 t206, .slice Ao32 t207.length co32] 33 (0, 0))) := ⟨h7_⟩
           have n8_ : Aside0 (w146.heap[gb218]? = some (.cells #[.int .i64 t212, .int .i64 t213, .int .i64 t214, .slice Ao42 t238.length co42] 33 (0, 0))) := ⟨h8_⟩
           have n9_ : Aside0 (w146.heap[gb228]? = some (.cells #[.int .i64 t221, .int .i64 t222, .int .i64 t223, .slice Ao52 t224.length co52] 33 (0, 0))) := ⟨h9_⟩
           have n10_ : Aside0 (w146.heap[gb258]? = some (.cells #[.int .i64 0, .int .i64 0, .int .i64 0, .slice none 0 0] 33 (0, 0))) := ⟨h10_⟩
           have n11_ : Aside0 (w.heap.size ≤ gb258) := ⟨h11_⟩
           have n12_ : Aside0 (w.heap.size ≤ gb258) := ⟨h12_⟩
           have n13_ : Aside0 (gb193 ≠ gb258) := ⟨h13_⟩
           have n14_ : Aside0 (gb258 ≠ gb193) := ⟨h14_⟩
           have n15_ : Aside0 (gb194 ≠ gb258) := ⟨h15_⟩
           have n16_ : Aside0 (gb258 ≠ gb194) := ⟨h16_⟩
           have n17_ : Aside0 (gb211 ≠ gb258) := ⟨h17_⟩
           have n18_ : Aside0 (gb258 ≠ gb211) := ⟨h18_⟩
           have n19_ : Aside0 (gb218 ≠ gb258) := ⟨h19_⟩
           have n20_ : Aside0 (gb258 ≠ gb218) := ⟨h20_⟩
           have n21_ : Aside0 (gb228 ≠ gb258) := ⟨h21_⟩
           have n22_ : Aside0 (gb258 ≠ gb228) := ⟨h22_⟩
           have n23_ : Aside0 (Below w.heap.size w w146) := ⟨h23_⟩
           clear HO_212003 HO_219003 HO_229003 BK193 BK194 BK211 BK218 BK228 HB h0_ h1_ h2_ h3_ h4_ h5_ h6_ h7_ h8_ h9_ h10_ h11_ h12_ h13_ h14_ h15_ h16_ h17_ h18_ h19_ h20_ h21_ h22_ h23_; have HO250 := n0_; have HO256 := n1_; have HO_212003 := n2_; have HO_219003 := n3_; have HO_229003 := n4_; have BK193 := n5_; have BK194 := n6_; have BK211 := n7_; have BK218 := n8_; have BK228 := n9_; have BK258 := n10_; have GW258 := n11_; have GE258 := n12_; have NB193_258 := n13_; have NB258_193 := n14_; have NB194_258 := n15_; have NB258_194 := n16_; have NB211_258 := n17_; have NB258_211 := n18_; have NB218_258 := n19_; have NB258_218 := n20_; have NB228_258 := n21_; have NB258_228 := n22_; have HB := n23_; clear n0_ n1_ n2_ n3_ n4_ n5_ n6_ n7_ n8_ n9_ n10_ n11_ n12_ n13_ n14_ n15_ n16_ n17_ n18_ n19_ n20_ n21_ n22_ n23_
           have hHeld : w146.cell? ⟨gb193, 0, none⟩ = some (.int .i64 a0_0) ∧ w146.cell? ⟨gb193, 1, none⟩ = some (.bool a0_1) ∧ w146.cell? ⟨gb194, 0, none⟩ = some (.int .i64 a1_0) ∧ w146.cell? ⟨gb194, 1, none⟩ = some (.int .i64 a1_1) ∧ w146.cell? ⟨gb194, 2, none⟩ = some (.int .i64 a1_2) ∧ w146.cell? ⟨gb194, 3, none⟩ = some (.slice A1_3 l1_3.length c1_3) := hS_
           obtain ⟨Ao150, co150, eo150⟩ := Kd.R_slice HO256.out
           (first | subst eo150 | (injection eo150 with f1_ f2_ f3_; have f4_ := f1_.symm; have f5_ := f3_.symm; clear f1_ f2_ f3_; subst f4_; subst f5_))
           refine norm_ (a' := ?_) ?_ ?_
           rotate_left
           ·
            simp only [putAll, Act.put, List.setIfInBounds_toArray, List.set_cons_zero, List.set_cons_succ]
            rfl
           refine one_ (i := 9) (N := none) #[true, true, true, true, true, true, true, true, true, true, false] rfl rfl (one_of HT_.out (by kernel_rfl)) (by decide) (fun K hK => ?_)
           have hs147 : w146.cell? ⟨gb258, 0, none⟩ = some (.int .i64 0) := bc BK258 0
           have hfs147 := blk_frozen BK258.out 0
           have hns147_0 := NB193_258.out
           have hns147_1 := NB194_258.out
           have hns147_2 := NB211_258.out
           have hns147_3 := NB218_258.out
           have hns147_4 := NB228_258.out
           have hms147_0 := NB258_193.out
           have hms147_1 := NB258_194.out
           have hms147_2 := NB258_211.out
           have hms147_3 := NB258_218.out
           have hms147_4 := NB258_228.out
           have hs148 : w146.cell? ⟨gb258, 1, none⟩ = some (.int .i64 0) := bc BK258 1
           have hfs148 := blk_frozen BK258.out 1
           have hns148_0 := NB193_258.out
           have hns148_1 := NB194_258.out
           have hns148_2 := NB211_258.out
           have hns148_3 := NB218_258.out
           have hns148_4 := NB228_258.out
           have hms148_0 := NB258_193.out
           have hms148_1 := NB258_194.out
           have hms148_2 := NB258_211.out
           have hms148_3 := NB258_218.out
           have hms148_4 := NB258_228.out
           have hs149 : w146.cell? ⟨gb258, 2, none⟩ = some (.int .i64 0) := bc BK258 2
           have hfs149 := blk_frozen BK258.out 2
           have hns149_0 := NB193_258.out
           have hns149_1 := NB194_258.out
           have hns149_2 := NB211_258.out
           have hns149_3 := NB218_258.out
           have hns149_4 := NB228_258.out
           have hms149_0 := NB258_193.out
           have hms149_1 := NB258_194.out
           have hms149_2 := NB258_211.out
           have hms149_3 := NB258_218.out
           have hms149_4 := NB258_228.out
           have hs151 : w146.cell? ⟨gb258, 3, none⟩ = some (.slice none 0 0) := bc BK258 3
           have hfs151 := blk_frozen BK258.out 3
           have hns151_0 := NB193_258.out
           have hns151_1 := NB194_258.out
           have hns151_2 := NB211_258.out
           have hns151_3 := NB218_258.out
           have hns151_4 := NB228_258.out
           have hms151_0 := NB258_193.out
           have hms151_1 := NB258_194.out
           have hms151_2 := NB258_211.out
           have hms151_3 := NB258_218.out
           have hms151_4 := NB258_228.out
           refine skip_ (w1 := ?_) (by rfl) rfl ?_ ?_
           rotate_left
           ·
            go_simp
            rfl
           refine hK.out _ _ ⟨((cell_far (p := ⟨gb258, _, none⟩) NB193_258.out _).trans (((cell_far (p := ⟨gb258, _, none⟩) NB193_258.out _).trans (((cell_far (p := ⟨gb258, _, none⟩) NB193_258.out _).trans (((cell_far (p := ⟨gb258, _, none⟩) NB193_258.out _).trans (hHeld.1)))))))), ((cell_far (p := ⟨gb258, _, none⟩) NB193_258.out _).trans (((cell_far (p := ⟨gb258, _, none⟩) NB193_258.out _).trans (((cell_far (p := ⟨gb258, _, none⟩) NB193_258.out _).trans (((cell_far (p := ⟨gb258, _, none⟩) NB193_258.out _).trans (hHeld.2.1)))))))), ((cell_far (p := ⟨gb258, _, none⟩) NB194_258.out _).trans (((cell_far (p := ⟨gb258, _, none⟩) NB194_258.out _).trans (((cell_far (p := ⟨gb258, _, none⟩) NB194_258.out _).trans (((cell_far (p := ⟨gb258, _, none⟩) NB194_258.out _).trans (hHeld.2.2.1)))))))), ((cell_far (p := ⟨gb258, _, none⟩) NB194_258.out _).trans (((cell_far (p := ⟨gb258, _, none⟩) NB194_258.out _).trans (((cell_far (p := ⟨gb258, _, none⟩) NB194_258.out _).trans (((cell_far (p := ⟨gb258, _, none⟩) NB194_258.out _).trans (hHeld.2.2.2.1)))))))), ((cell_far (p := ⟨gb258, _, none⟩) NB194_258.out _).trans (((cell_far (p := ⟨gb258, _, none⟩) NB194_258.out _).trans (((cell_far (p := ⟨gb258, _, none⟩) NB194_258.out _).trans (((cell_far (p := ⟨gb258, _, none⟩) NB194_258.out _).trans (hHeld.2.2.2.2.1)))))))), ((cell_far (p := ⟨gb258, _, none⟩) NB194_258.out _).trans (((cell_far (p := ⟨gb258, _, none⟩) NB194_258.out _).trans (((cell_far (p := ⟨gb258, _, none⟩) NB194_258.out _).trans (((cell_far (p := ⟨gb258, _, none⟩) NB194_258.out _).trans (hHeld.2.2.2.2.2))))))))⟩ (fun hHeld => ?_)
           clear hK K
           refine pure_ (i := 10) (N := some 15) (v := ?_) (a' := ?_) #[true, true, true, true, true, true, true, true, true, true, true] rfl rfl (any_of HT_.out (by kernel_rfl)) (fun _ _ _ h => h) (Or.inl ⟨by rfl, ?_⟩) ?_ ?_
           rotate_left
           ·
            intro w'
            go_simp
            with_reducible rfl
           rotate_left
           ·
            simp only [Act.put, List.setIfInBounds_toArray, List.set_cons_zero, List.set_cons_succ, i64_w, i32_w]
            rfl
           refine done_ (done_of HT_.out (by kernel_rfl)) ?_
           go_upto_region 25 with (fail)
           go_cut [95] (fun v95 wc => ∃ (kq : Nat) (x95_130 : Bool), v95 = .bool x95_130 ∧ Aside0 (laws_FnExactMirrorWalker.j2 kq t240 x95_130 t221 t222 t223 t241 = some r) ∧ Aside0 (kq ≤ kj80) ∧ Aside0 (Kd.R (Kd.int .i64) 3 wc w.heap.size (fun k_ => some k_ ≠ ((.slice Ao42 t238.length co42) : Value).ownBlock ∧ some k_ ≠ ((.slice Ao52 t224.length co52) : Value).ownBlock ∧ some k_ ≠ ((.slice Ao150 t254.length co150) : Value).ownBlock) (.slice Ao32 t207.length co32) t207) ∧ Aside0 (Kd.R (Kd.int .i64) 3 wc w.heap.size (fun k_ => some k_ ≠ ((.slice Ao32 t207.length co32) : Value).ownBlock ∧ some k_ ≠ ((.slice Ao52 t224.length co52) : Value).ownBlock ∧ some k_ ≠ ((.slice Ao150 t254.length co150) : Value).ownBlock) (.slice Ao42 t238.length co42) t238) ∧ Aside0 (Kd.R (Kd.int .i64) 3 wc w.heap.size (fun k_ => some k_ ≠ ((.slice Ao32 t207.length co32) : Value).ownBlock ∧ some k_ ≠ ((.slice Ao42 t238.length co42) : Value).ownBlock ∧ some k_ ≠ ((.slice Ao150 t254.length co150) : Value).ownBlock) (.slice Ao52 t224.length co52) t241) ∧ Aside0 (Kd.R (Kd.int .i64) 3 wc w.heap.size (fun k_ => some k_ ≠ ((.slice Ao32 t207.length co32) : Value).ownBlock ∧ some k_ ≠ ((.slice Ao42 t238.length co42) : Value).ownBlock ∧ some k_ ≠ ((.slice Ao52 t224.length co52) : Value).ownBlock) (.slice Ao150 t254.length co150) t254) ∧ Aside0 (wc.heap[gb193]? = some (.cells #[.int .i64 a0_0, .bool a0_1] 23 (0, 0))) ∧ Aside0 (wc.heap[gb194]? = some (.cells #[.int .i64 a1_0, .int .i64 a1_1, .int .i64 a1_2, (.slice A1_3 l1_3.length c1_3)] 26 (0, 0))) ∧ Aside0 (wc.heap[gb211]? = some (.cells #[.int .i64 t204, .int .i64 t205, .int .i64 t206, (.slice Ao32 t207.length co32)] 33 (0, 0))) ∧ Aside0 (wc.heap[gb218]? = some (.cells #[.int .i64 t212, .int .i64 t213, .int .i64 t214, (.slice Ao42 t238.length co42)] 33 (0, 0))) ∧ Aside0 (wc.heap[gb228]? = some (.cells #[.int .i64 t221, .int .i64 t222, .int .i64 t223, (.slice Ao52 t224.length co52)] 33 (0, 0))) ∧ Aside0 (wc.heap[gb258]? = some (.cells #[.int .i64 t251, .int .i64 t252, .int .i64 t253, (.slice Ao150 t254.length co150)] 33 (0, 0))) ∧ Aside0 (Below w.heap.size w wc))
           case first =>
            have H := HC131.out
            clear HC131
            replace H := Option.bind_eq_some_iff.mp H
            obtain ⟨t259, A1520, H⟩ := H
            replace H : (if t259 = true then (laws_FnExactMirrorWalker.j2 kj80 t240 (t257 != t210) t221 t222 t223 t241) else (laws_FnExactMirrorWalker.j2 kj80 t240 true t221 t222 t223 t241)) = some r := H
            have A152 := A_ A1520
            clear A1520
            by_cases c153 : t259 = true
            ·
             subst c153
             have H1 : (laws_FnExactMirrorWalker.j2 kj80 t240 (t257 != t210) t221 t222 t223 t241) = some r := by rw [if_pos rfl] at H; exact H
             clear H
             have H := H1
             clear H1
             have H' := A_ H
             clear H
             have hnb154 := NB258_193.out
             have hnc154 := NB193_258.out
             have hnb155 := NB258_194.out
             have hnc155 := NB194_258.out
             have hnb156 := NB258_211.out
             have hnc156 := NB211_258.out
             have hnb157 := NB258_218.out
             have hnc157 := NB218_258.out
             have hnb158 := NB258_228.out
             have hnc158 := NB228_258.out
             have hcz159_0 : w146.cell? ⟨gb258, 0, none⟩ = some (.int .i64 0) := bc BK258 0
             have hcz159_1 : w146.cell? ⟨gb258, 1, none⟩ = some (.int .i64 0) := bc BK258 1
             have hcz159_2 : w146.cell? ⟨gb258, 2, none⟩ = some (.int .i64 0) := bc BK258 2
             have hcz159_3 : w146.cell? ⟨gb258, 3, none⟩ = some (.slice none 0 0) := bc BK258 3
             have hfz159_0 := blk_frozen BK258.out 0
             have hfz159_1 := blk_frozen BK258.out 1
             have hfz159_2 := blk_frozen BK258.out 2
             have hfz159_3 := blk_frozen BK258.out 3
             have hnb160 := NB211_193.out
             have hnc160 := NB193_211.out
             have hnb161 := NB211_194.out
             have hnc161 := NB194_211.out
             have hnb162 := NB211_218.out
             have hnc162 := NB218_211.out
             have hnb163 := NB211_228.out
             have hnc163 := NB228_211.out
             have hcz164_0 : w146.cell? ⟨gb211, 0, none⟩ = some (.int .i64 t204) := bc BK211 0
             have hcz164_1 : w146.cell? ⟨gb211, 1, none⟩ = some (.int .i64 t205) := bc BK211 1
             have hcz164_2 : w146.cell? ⟨gb211, 2, none⟩ = some (.int .i64 t206) := bc BK211 2
             have hcz164_3 : w146.cell? ⟨gb211, 3, none⟩ = some (.slice Ao32 t207.length co32) := bc BK211 3
             have hfz164_0 := blk_frozen BK211.out 0
             have hfz164_1 := blk_frozen BK211.out 1
             have hfz164_2 := blk_frozen BK211.out 2
             have hfz164_3 := blk_frozen BK211.out 3
             go_wp2_with (first | ((with_reducible refine gate_callee (f := 16) rfl ?_); refine goesL_ (some 89) rfl rfl Try.func16 (by kernel_rfl) rfl #[.agg #[.int .i64 t251, .int .i64 t252, .int .i64 t253, .slice Ao150 t254.length co150], .agg #[.int .i64 t204, .int .i64 t205, .int .i64 t206, .slice Ao32 t207.length co32]] rfl gq ?_; (with_reducible refine (laws_eqWalker.calls kj80 t251 t252 t253 _ _ t254 t204 t205 t206 _ _ t207 true _ ?side1 ?side2 ?side3 ?side4 A152.out).mono ?_); (case side1 => refine (Kd.R_reads' (e := 3) (base := w.heap.size) (ok := fun k_ => (some k_ ≠ (v249 : Value).ownBlock ∧ (some k_ ≠ (.slice Ao32 t207.length co32 : Value).ownBlock ∧ (some k_ ≠ (.slice Ao42 t238.length co42 : Value).ownBlock ∧ some k_ ≠ (.slice Ao52 t224.length co52 : Value).ownBlock)))) (n := t254.length) (c := co150) ?_).2.2; exact (by (with_reducible repeat (first | apply Kd.R_alloc | apply Kd.R_drewN | apply Kd.R_drew)); exact (Kd.R_mono (Kd.R_far (p := ⟨gb258, 3, none⟩) (Kd.R_far (p := ⟨gb258, 2, none⟩) (Kd.R_far (p := ⟨gb258, 1, none⟩) (Kd.R_far (p := ⟨gb258, 0, none⟩) (Kd.R_types HO256.out BK258.out (by decide)) (fun _ => cj) (.int .i64 t251)) (fun _ => cj) (.int .i64 t252)) (fun _ => cj) (.int .i64 t253)) (fun _ => cj) (.slice Ao150 t254.length co150)) (fun _ h_ => h_.1)))); (case side2 => exact (Kd.R_reads' HO256.out).2.1); (case side3 => refine (Kd.R_reads' (e := 3) (base := w.heap.size) (ok := fun k_ => (some k_ ≠ (v249 : Value).ownBlock ∧ (some k_ ≠ (.slice Ao150 t254.length co150 : Value).ownBlock ∧ (some k_ ≠ (.slice Ao42 t238.length co42 : Value).ownBlock ∧ some k_ ≠ (.slice Ao52 t224.length co52 : Value).ownBlock)))) (n := t207.length) (c := co32) ?_).2.2; exact (by (with_reducible repeat (first | apply Kd.R_alloc | apply Kd.R_drewN | apply Kd.R_drew)); exact (Kd.R_mono (Kd.R_far (p := ⟨gb258, 3, none⟩) (Kd.R_far (p := ⟨gb258, 2, none⟩) (Kd.R_far (p := ⟨gb258, 1, none⟩) (Kd.R_far (p := ⟨gb258, 0, none⟩) (Kd.R_types HO_212003.out BK258.out (by decide)) (fun _ => cj) (.int .i64 t251)) (fun _ => cj) (.int .i64 t252)) (fun _ => cj) (.int .i64 t253)) (fun _ => cj) (.slice Ao150 t254.length co150)) (fun _ h_ => h_.1)))); (case side4 => exact (Kd.R_reads' HO_212003.out).2.1); rintro e w165 ⟨rfl, hb⟩; refine ⟨_, rfl, ?_⟩; have n0_ := A_ (Kd.R_below (by (with_reducible repeat (first | apply Kd.R_alloc | apply Kd.R_drewN | apply Kd.R_drew)); exact (Kd.R_mono (Kd.R_far (p := ⟨gb258, 3, none⟩) (Kd.R_far (p := ⟨gb258, 2, none⟩) (Kd.R_far (p := ⟨gb258, 1, none⟩) (Kd.R_far (p := ⟨gb258, 0, none⟩) (Kd.R_types HO_212003.out BK258.out (by decide)) (fun _ => cj) (.int .i64 t251)) (fun _ => cj) (.int .i64 t252)) (fun _ => cj) (.int .i64 t253)) (fun _ => cj) (.slice Ao150 t254.length co150)) (fun _ h_ => h_.1))) hb); have n1_ := A_ (Kd.R_below (by (with_reducible repeat (first | apply Kd.R_alloc | apply Kd.R_drewN | apply Kd.R_drew)); exact (Kd.R_mono (Kd.R_far (p := ⟨gb258, 3, none⟩) (Kd.R_far (p := ⟨gb258, 2, none⟩) (Kd.R_far (p := ⟨gb258, 1, none⟩) (Kd.R_far (p := ⟨gb258, 0, none⟩) (Kd.R_types HO_219003.out BK258.out (by decide)) (fun _ => cj) (.int .i64 t251)) (fun _ => cj) (.int .i64 t252)) (fun _ => cj) (.int .i64 t253)) (fun _ => cj) (.slice Ao150 t254.length co150)) (fun _ h_ => h_.1))) hb); have n2_ := A_ (Kd.R_below (by (with_reducible repeat (first | apply Kd.R_alloc | apply Kd.R_drewN | apply Kd.R_drew)); exact (Kd.R_mono (Kd.R_far (p := ⟨gb258, 3, none⟩) (Kd.R_far (p := ⟨gb258, 2, none⟩) (Kd.R_far (p := ⟨gb258, 1, none⟩) (Kd.R_far (p := ⟨gb258, 0, none⟩) (Kd.R_types HO_229003.out BK258.out (by decide)) (fun _ => cj) (.int .i64 t251)) (fun _ => cj) (.int .i64 t252)) (fun _ => cj) (.int .i64 t253)) (fun _ => cj) (.slice Ao150 t254.length co150)) (fun _ h_ => h_.1))) hb); have n3_ := A_ (Kd.R_below (by (with_reducible repeat (first | apply Kd.R_alloc | apply Kd.R_drewN | apply Kd.R_drew)); exact (Kd.R_mono (Kd.R_far (p := ⟨gb258, 3, none⟩) (Kd.R_far (p := ⟨gb258, 2, none⟩) (Kd.R_far (p := ⟨gb258, 1, none⟩) (Kd.R_far (p := ⟨gb258, 0, none⟩) (Kd.R_types HO250.out BK258.out (by decide)) (fun _ => cj) (.int .i64 t251)) (fun _ => cj) (.int .i64 t252)) (fun _ => cj) (.int .i64 t253)) (fun _ => cj) (.slice Ao150 t254.length co150)) (fun _ h_ => h_.1))) hb); have n4_ := A_ (Kd.R_below (by (with_reducible repeat (first | apply Kd.R_alloc | apply Kd.R_drewN | apply Kd.R_drew)); exact (Kd.R_mono (Kd.R_far (p := ⟨gb258, 3, none⟩) (Kd.R_far (p := ⟨gb258, 2, none⟩) (Kd.R_far (p := ⟨gb258, 1, none⟩) (Kd.R_far (p := ⟨gb258, 0, none⟩) (Kd.R_types HO256.out BK258.out (by decide)) (fun _ => cj) (.int .i64 t251)) (fun _ => cj) (.int .i64 t252)) (fun _ => cj) (.int .i64 t253)) (fun _ => cj) (.slice Ao150 t254.length co150)) (fun _ h_ => h_.1))) hb); have n5_ := A_ (blk_below (g := gb193) (o := .cells #[.int .i64 a0_0, .bool a0_1] 23 (0, 0)) (by (with_reducible repeat (first | refine blk_drewN ?_ _ | refine blk_drew ?_ | refine blk_alloc ?_ _)); refine blk_far ?_ NB193_258.out _; (with_reducible repeat (first | refine blk_drewN ?_ _ | refine blk_drew ?_ | refine blk_alloc ?_ _)); refine blk_far ?_ NB193_258.out _; (with_reducible repeat (first | refine blk_drewN ?_ _ | refine blk_drew ?_ | refine blk_alloc ?_ _)); refine blk_far ?_ NB193_258.out _; (with_reducible repeat (first | refine blk_drewN ?_ _ | refine blk_drew ?_ | refine blk_alloc ?_ _)); refine blk_far ?_ NB193_258.out _; (with_reducible repeat (first | refine blk_drewN ?_ _ | refine blk_drew ?_ | refine blk_alloc ?_ _)); exact BK193.out) hb); have n6_ := A_ (blk_below (g := gb194) (o := .cells #[.int .i64 a1_0, .int .i64 a1_1, .int .i64 a1_2, .slice A1_3 l1_3.length c1_3] 26 (0, 0)) (by (with_reducible repeat (first | refine blk_drewN ?_ _ | refine blk_drew ?_ | refine blk_alloc ?_ _)); refine blk_far ?_ NB194_258.out _; (with_reducible repeat (first | refine blk_drewN ?_ _ | refine blk_drew ?_ | refine blk_alloc ?_ _)); refine blk_far ?_ NB194_258.out _; (with_reducible repeat (first | refine blk_drewN ?_ _ | refine blk_drew ?_ | refine blk_alloc ?_ _)); refine blk_far ?_ NB194_258.out _; (with_reducible repeat (first | refine blk_drewN ?_ _ | refine blk_drew ?_ | refine blk_alloc ?_ _)); refine blk_far ?_ NB194_258.out _; (with_reducible repeat (first | refine blk_drewN ?_ _ | refine blk_drew ?_ | refine blk_alloc ?_ _)); exact BK194.out) hb); have n7_ := A_ (blk_below (g := gb211) (o := .cells #[.int .i64 t204, .int .i64 t205, .int .i64 t206, .slice Ao32 t207.length co32] 33 (0, 0)) (by (with_reducible repeat (first | refine blk_drewN ?_ _ | refine blk_drew ?_ | refine blk_alloc ?_ _)); refine blk_far ?_ NB211_258.out _; (with_reducible repeat (first | refine blk_drewN ?_ _ | refine blk_drew ?_ | refine blk_alloc ?_ _)); refine blk_far ?_ NB211_258.out _; (with_reducible repeat (first | refine blk_drewN ?_ _ | refine blk_drew ?_ | refine blk_alloc ?_ _)); refine blk_far ?_ NB211_258.out _; (with_reducible repeat (first | refine blk_drewN ?_ _ | refine blk_drew ?_ | refine blk_alloc ?_ _)); refine blk_far ?_ NB211_258.out _; (with_reducible repeat (first | refine blk_drewN ?_ _ | refine blk_drew ?_ | refine blk_alloc ?_ _)); exact BK211.out) hb); have n8_ := A_ (blk_below (g := gb218) (o := .cells #[.int .i64 t212, .int .i64 t213, .int .i64 t214, .slice Ao42 t238.length co42] 33 (0, 0)) (by (with_reducible repeat (first | refine blk_drewN ?_ _ | refine blk_drew ?_ | refine blk_alloc ?_ _)); refine blk_far ?_ NB218_258.out _; (with_reducible repeat (first | refine blk_drewN ?_ _ | refine blk_drew ?_ | refine blk_alloc ?_ _)); refine blk_far ?_ NB218_258.out _; (with_reducible repeat (first | refine blk_drewN ?_ _ | refine blk_drew ?_ | refine blk_alloc ?_ _)); refine blk_far ?_ NB218_258.out _; (with_reducible repeat (first | refine blk_drewN ?_ _ | refine blk_drew ?_ | refine blk_alloc ?_ _)); refine blk_far ?_ NB218_258.out _; (with_reducible repeat (first | refine blk_drewN ?_ _ | refine blk_drew ?_ | refine blk_alloc ?_ _)); exact BK218.out) hb); have n9_ := A_ (blk_below (g := gb228) (o := .cells #[.int .i64 t221, .int .i64 t222, .int .i64 t223, .slice Ao52 t224.length co52] 33 (0, 0)) (by (with_reducible repeat (first | refine blk_drewN ?_ _ | refine blk_drew ?_ | refine blk_alloc ?_ _)); refine blk_far ?_ NB228_258.out _; (with_reducible repeat (first | refine blk_drewN ?_ _ | refine blk_drew ?_ | refine blk_alloc ?_ _)); refine blk_far ?_ NB228_258.out _; (with_reducible repeat (first | refine blk_drewN ?_ _ | refine blk_drew ?_ | refine blk_alloc ?_ _)); refine blk_far ?_ NB228_258.out _; (with_reducible repeat (first | refine blk_drewN ?_ _ | refine blk_drew ?_ | refine blk_alloc ?_ _)); refine blk_far ?_ NB228_258.out _; (with_reducible repeat (first | refine blk_drewN ?_ _ | refine blk_drew ?_ | refine blk_alloc ?_ _)); exact BK228.out) hb); have n10_ := A_ (blk_below (g := gb258) (o := .cells #[.int .i64 t251, .int .i64 t252, .int .i64 t253, .slice Ao150 t254.length co150] 33 (0, 0)) (by (with_reducible repeat (first | refine blk_drewN ?_ _ | refine blk_drew ?_ | refine blk_alloc ?_ _)); refine blk_put (cs := #[.int .i64 t251, .int .i64 t252, .int .i64 t253, .slice none 0 0]) ?_ 3 _ rfl; (with_reducible repeat (first | refine blk_drewN ?_ _ | refine blk_drew ?_ | refine blk_alloc ?_ _)); refine blk_put (cs := #[.int .i64 t251, .int .i64 t252, .int .i64 0, .slice none 0 0]) ?_ 2 _ rfl; (with_reducible repeat (first | refine blk_drewN ?_ _ | refine blk_drew ?_ | refine blk_alloc ?_ _)); refine blk_put (cs := #[.int .i64 t251, .int .i64 0, .int .i64 0, .slice none 0 0]) ?_ 1 _ rfl; (with_reducible repeat (first | refine blk_drewN ?_ _ | refine blk_drew ?_ | refine blk_alloc ?_ _)); refine blk_put (cs := #[.int .i64 0, .int .i64 0, .int .i64 0, .slice none 0 0]) ?_ 0 _ rfl; (with_reducible repeat (first | refine blk_drewN ?_ _ | refine blk_drew ?_ | refine blk_alloc ?_ _)); exact BK258.out) hb); have n11_ := A_ (below_step (hq HB) hb); clear HO_212003; clear HO_219003; clear HO_229003; clear HO250; clear HO256; clear BK193; clear BK194; clear BK211; clear BK218; clear BK228; clear BK258; clear HB; have HO_212003 := n0_; have HO_219003 := n1_; have HO_229003 := n2_; have HO250 := n3_; have HO256 := n4_; have BK193 := n5_; have BK194 := n6_; have BK211 := n7_; have BK218 := n8_; have BK228 := n9_; have BK258 := n10_; have HB := n11_; clear n0_ n1_ n2_ n3_ n4_ n5_ n6_ n7_ n8_ n9_ n10_ n11_; (try clear hb); (try clear hb2); (try clear hk); (try clear hi)))
             go_meet
             case rel => exact ⟨_, ((t257 != t210)), (by first | rfl | (simp; done) | (simp [*]; done)), H', ⟨by have := HJ15.out; have := HJ80.out; first | omega | exact Nat.le_refl _⟩, ⟨by (try simp only [hl219003_80]); (with_reducible repeat (first | apply Kd.R_alloc | apply Kd.R_drewN | apply Kd.R_drew)); exact Kd.R_mono HO_212003.out (fun _ hk => ⟨hk.2.2.1, ⟨hk.2.2.2, hk.2.1⟩⟩)⟩, ⟨by (try simp only [hl219003_80]); (with_reducible repeat (first | apply Kd.R_alloc | apply Kd.R_drewN | apply Kd.R_drew)); exact Kd.R_mono HO_219003.out (fun _ hk => ⟨hk.2.2.1, ⟨hk.2.2.2, hk.2.1⟩⟩)⟩, ⟨by (try simp only [hl219003_80]); (with_reducible repeat (first | apply Kd.R_alloc | apply Kd.R_drewN | apply Kd.R_drew)); exact Kd.R_mono HO_229003.out (fun _ hk => ⟨hk.2.2.1, ⟨hk.2.2.2, hk.2.1⟩⟩)⟩, ⟨by (try simp only [hl219003_80]); (with_reducible repeat (first | apply Kd.R_alloc | apply Kd.R_drewN | apply Kd.R_drew)); exact Kd.R_mono HO256.out (fun _ hk => ⟨hk.2.1, ⟨hk.2.2.1, hk.2.2.2⟩⟩)⟩, ⟨by (try simp only [hl219003_80]); (with_reducible repeat (first | refine blk_drewN ?_ _ | refine blk_drew ?_ | refine blk_alloc ?_ _)); exact BK193.out⟩, ⟨by (try simp only [hl219003_80]); (with_reducible repeat (first | refine blk_drewN ?_ _ | refine blk_drew ?_ | refine blk_alloc ?_ _)); exact BK194.out⟩, ⟨by (try simp only [hl219003_80]); (with_reducible repeat (first | refine blk_drewN ?_ _ | refine blk_drew ?_ | refine blk_alloc ?_ _)); exact BK211.out⟩, ⟨by (try simp only [hl219003_80]); (with_reducible repeat (first | refine blk_drewN ?_ _ | refine blk_drew ?_ | refine blk_alloc ?_ _)); exact BK218.out⟩, ⟨by (try simp only [hl219003_80]); (with_reducible repeat (first | refine blk_drewN ?_ _ | refine blk_drew ?_ | refine blk_alloc ?_ _)); exact BK228.out⟩, ⟨by (try simp only [hl219003_80]); (with_reducible repeat (first | refine blk_drewN ?_ _ | refine blk_drew ?_ | refine blk_alloc ?_ _)); exact BK258.out⟩, ⟨by repeat (first | (with_reducible first | exact HB.out | apply below_alloc | apply pw_below_drewN | apply below_drew1 | refine below_set ?_ GE193.out | refine below_set ?_ GE194.out | refine below_set ?_ GE211.out | refine below_set ?_ GE218.out | refine below_set ?_ GE228.out | refine below_set ?_ GE258.out) | exact HB.out)⟩⟩
            ·
             replace c153 := Bool.eq_false_iff.mpr c153
             subst c153
             have H1 : (laws_FnExactMirrorWalker.j2 kj80 t240 true t221 t222 t223 t241) = some r := by rw [if_neg (show ¬ (false = true) by decide)] at H; exact H
             clear H
             have H := H1
             clear H1
             have H' := A_ H
             clear H
             have hnb166 := NB258_193.out
             have hnc166 := NB193_258.out
             have hnb167 := NB258_194.out
             have hnc167 := NB194_258.out
             have hnb168 := NB258_211.out
             have hnc168 := NB211_258.out
             have hnb169 := NB258_218.out
             have hnc169 := NB218_258.out
             have hnb170 := NB258_228.out
             have hnc170 := NB228_258.out
             have hcz171_0 : w146.cell? ⟨gb258, 0, none⟩ = some (.int .i64 0) := bc BK258 0
             have hcz171_1 : w146.cell? ⟨gb258, 1, none⟩ = some (.int .i64 0) := bc BK258 1
             have hcz171_2 : w146.cell? ⟨gb258, 2, none⟩ = some (.int .i64 0) := bc BK258 2
             have hcz171_3 : w146.cell? ⟨gb258, 3, none⟩ = some (.slice none 0 0) := bc BK258 3
             have hfz171_0 := blk_frozen BK258.out 0
             have hfz171_1 := blk_frozen BK258.out 1
             have hfz171_2 := blk_frozen BK258.out 2
             have hfz171_3 := blk_frozen BK258.out 3
             have hnb172 := NB211_193.out
             have hnc172 := NB193_211.out
             have hnb173 := NB211_194.out
             have hnc173 := NB194_211.out
             have hnb174 := NB211_218.out
             have hnc174 := NB218_211.out
             have hnb175 := NB211_228.out
             have hnc175 := NB228_211.out
             have hcz176_0 : w146.cell? ⟨gb211, 0, none⟩ = some (.int .i64 t204) := bc BK211 0
             have hcz176_1 : w146.cell? ⟨gb211, 1, none⟩ = some (.int .i64 t205) := bc BK211 1
             have hcz176_2 : w146.cell? ⟨gb211, 2, none⟩ = some (.int .i64 t206) := bc BK211 2
             have hcz176_3 : w146.cell? ⟨gb211, 3, none⟩ = some (.slice Ao32 t207.length co32) := bc BK211 3
             have hfz176_0 := blk_frozen BK211.out 0
             have hfz176_1 := blk_frozen BK211.out 1
             have hfz176_2 := blk_frozen BK211.out 2
             have hfz176_3 := blk_frozen BK211.out 3
             go_wp2_with (first | ((with_reducible refine gate_callee (f := 16) rfl ?_); refine goesL_ (some 89) rfl rfl Try.func16 (by kernel_rfl) rfl #[.agg #[.int .i64 t251, .int .i64 t252, .int .i64 t253, .slice Ao150 t254.length co150], .agg #[.int .i64 t204, .int .i64 t205, .int .i64 t206, .slice Ao32 t207.length co32]] rfl gq ?_; (with_reducible refine (laws_eqWalker.calls kj80 t251 t252 t253 _ _ t254 t204 t205 t206 _ _ t207 false _ ?side1 ?side2 ?side3 ?side4 A152.out).mono ?_); (case side1 => refine (Kd.R_reads' (e := 3) (base := w.heap.size) (ok := fun k_ => (some k_ ≠ (v249 : Value).ownBlock ∧ (some k_ ≠ (.slice Ao32 t207.length co32 : Value).ownBlock ∧ (some k_ ≠ (.slice Ao42 t238.length co42 : Value).ownBlock ∧ some k_ ≠ (.slice Ao52 t224.length co52 : Value).ownBlock)))) (n := t254.length) (c := co150) ?_).2.2; exact (by (with_reducible repeat (first | apply Kd.R_alloc | apply Kd.R_drewN | apply Kd.R_drew)); exact (Kd.R_mono (Kd.R_far (p := ⟨gb258, 3, none⟩) (Kd.R_far (p := ⟨gb258, 2, none⟩) (Kd.R_far (p := ⟨gb258, 1, none⟩) (Kd.R_far (p := ⟨gb258, 0, none⟩) (Kd.R_types HO256.out BK258.out (by decide)) (fun _ => cj) (.int .i64 t251)) (fun _ => cj) (.int .i64 t252)) (fun _ => cj) (.int .i64 t253)) (fun _ => cj) (.slice Ao150 t254.length co150)) (fun _ h_ => h_.1)))); (case side2 => exact (Kd.R_reads' HO256.out).2.1); (case side3 => refine (Kd.R_reads' (e := 3) (base := w.heap.size) (ok := fun k_ => (some k_ ≠ (v249 : Value).ownBlock ∧ (some k_ ≠ (.slice Ao150 t254.length co150 : Value).ownBlock ∧ (some k_ ≠ (.slice Ao42 t238.length co42 : Value).ownBlock ∧ some k_ ≠ (.slice Ao52 t224.length co52 : Value).ownBlock)))) (n := t207.length) (c := co32) ?_).2.2; exact (by (with_reducible repeat (first | apply Kd.R_alloc | apply Kd.R_drewN | apply Kd.R_drew)); exact (Kd.R_mono (Kd.R_far (p := ⟨gb258, 3, none⟩) (Kd.R_far (p := ⟨gb258, 2, none⟩) (Kd.R_far (p := ⟨gb258, 1, none⟩) (Kd.R_far (p := ⟨gb258, 0, none⟩) (Kd.R_types HO_212003.out BK258.out (by decide)) (fun _ => cj) (.int .i64 t251)) (fun _ => cj) (.int .i64 t252)) (fun _ => cj) (.int .i64 t253)) (fun _ => cj) (.slice Ao150 t254.length co150)) (fun _ h_ => h_.1)))); (case side4 => exact (Kd.R_reads' HO_212003.out).2.1); rintro e w177 ⟨rfl, hb⟩; refine ⟨_, rfl, ?_⟩; have n0_ := A_ (Kd.R_below (by (with_reducible repeat (first | apply Kd.R_alloc | apply Kd.R_drewN | apply Kd.R_drew)); exact (Kd.R_mono (Kd.R_far (p := ⟨gb258, 3, none⟩) (Kd.R_far (p := ⟨gb258, 2, none⟩) (Kd.R_far (p := ⟨gb258, 1, none⟩) (Kd.R_far (p := ⟨gb258, 0, none⟩) (Kd.R_types HO_212003.out BK258.out (by decide)) (fun _ => cj) (.int .i64 t251)) (fun _ => cj) (.int .i64 t252)) (fun _ => cj) (.int .i64 t253)) (fun _ => cj) (.slice Ao150 t254.length co150)) (fun _ h_ => h_.1))) hb); have n1_ := A_ (Kd.R_below (by (with_reducible repeat (first | apply Kd.R_alloc | apply Kd.R_drewN | apply Kd.R_drew)); exact (Kd.R_mono (Kd.R_far (p := ⟨gb258, 3, none⟩) (Kd.R_far (p := ⟨gb258, 2, none⟩) (Kd.R_far (p := ⟨gb258, 1, none⟩) (Kd.R_far (p := ⟨gb258, 0, none⟩) (Kd.R_types HO_219003.out BK258.out (by decide)) (fun _ => cj) (.int .i64 t251)) (fun _ => cj) (.int .i64 t252)) (fun _ => cj) (.int .i64 t253)) (fun _ => cj) (.slice Ao150 t254.length co150)) (fun _ h_ => h_.1))) hb); have n2_ := A_ (Kd.R_below (by (with_reducible repeat (first | apply Kd.R_alloc | apply Kd.R_drewN | apply Kd.R_drew)); exact (Kd.R_mono (Kd.R_far (p := ⟨gb258, 3, none⟩) (Kd.R_far (p := ⟨gb258, 2, none⟩) (Kd.R_far (p := ⟨gb258, 1, none⟩) (Kd.R_far (p := ⟨gb258, 0, none⟩) (Kd.R_types HO_229003.out BK258.out (by decide)) (fun _ => cj) (.int .i64 t251)) (fun _ => cj) (.int .i64 t252)) (fun _ => cj) (.int .i64 t253)) (fun _ => cj) (.slice Ao150 t254.length co150)) (fun _ h_ => h_.1))) hb); have n3_ := A_ (Kd.R_below (by (with_reducible repeat (first | apply Kd.R_alloc | apply Kd.R_drewN | apply Kd.R_drew)); exact (Kd.R_mono (Kd.R_far (p := ⟨gb258, 3, none⟩) (Kd.R_far (p := ⟨gb258, 2, none⟩) (Kd.R_far (p := ⟨gb258, 1, none⟩) (Kd.R_far (p := ⟨gb258, 0, none⟩) (Kd.R_types HO250.out BK258.out (by decide)) (fun _ => cj) (.int .i64 t251)) (fun _ => cj) (.int .i64 t252)) (fun _ => cj) (.int .i64 t253)) (fun _ => cj) (.slice Ao150 t254.length co150)) (fun _ h_ => h_.1))) hb); have n4_ := A_ (Kd.R_below (by (with_reducible repeat (first | apply Kd.R_alloc | apply Kd.R_drewN | apply Kd.R_drew)); exact (Kd.R_mono (Kd.R_far (p := ⟨gb258, 3, none⟩) (Kd.R_far (p := ⟨gb258, 2, none⟩) (Kd.R_far (p := ⟨gb258, 1, none⟩) (Kd.R_far (p := ⟨gb258, 0, none⟩) (Kd.R_types HO256.out BK258.out (by decide)) (fun _ => cj) (.int .i64 t251)) (fun _ => cj) (.int .i64 t252)) (fun _ => cj) (.int .i64 t253)) (fun _ => cj) (.slice Ao150 t254.length co150)) (fun _ h_ => h_.1))) hb); have n5_ := A_ (blk_below (g := gb193) (o := .cells #[.int .i64 a0_0, .bool a0_1] 23 (0, 0)) (by (with_reducible repeat (first | refine blk_drewN ?_ _ | refine blk_drew ?_ | refine blk_alloc ?_ _)); refine blk_far ?_ NB193_258.out _; (with_reducible repeat (first | refine blk_drewN ?_ _ | refine blk_drew ?_ | refine blk_alloc ?_ _)); refine blk_far ?_ NB193_258.out _; (with_reducible repeat (first | refine blk_drewN ?_ _ | refine blk_drew ?_ | refine blk_alloc ?_ _)); refine blk_far ?_ NB193_258.out _; (with_reducible repeat (first | refine blk_drewN ?_ _ | refine blk_drew ?_ | refine blk_alloc ?_ _)); refine blk_far ?_ NB193_258.out _; (with_reducible repeat (first | refine blk_drewN ?_ _ | refine blk_drew ?_ | refine blk_alloc ?_ _)); exact BK193.out) hb); have n6_ := A_ (blk_below (g := gb194) (o := .cells #[.int .i64 a1_0, .int .i64 a1_1, .int .i64 a1_2, .slice A1_3 l1_3.length c1_3] 26 (0, 0)) (by (with_reducible repeat (first | refine blk_drewN ?_ _ | refine blk_drew ?_ | refine blk_alloc ?_ _)); refine blk_far ?_ NB194_258.out _; (with_reducible repeat (first | refine blk_drewN ?_ _ | refine blk_drew ?_ | refine blk_alloc ?_ _)); refine blk_far ?_ NB194_258.out _; (with_reducible repeat (first | refine blk_drewN ?_ _ | refine blk_drew ?_ | refine blk_alloc ?_ _)); refine blk_far ?_ NB194_258.out _; (with_reducible repeat (first | refine blk_drewN ?_ _ | refine blk_drew ?_ | refine blk_alloc ?_ _)); refine blk_far ?_ NB194_258.out _; (with_reducible repeat (first | refine blk_drewN ?_ _ | refine blk_drew ?_ | refine blk_alloc ?_ _)); exact BK194.out) hb); have n7_ := A_ (blk_below (g := gb211) (o := .cells #[.int .i64 t204, .int .i64 t205, .int .i64 t206, .slice Ao32 t207.length co32] 33 (0, 0)) (by (with_reducible repeat (first | refine blk_drewN ?_ _ | refine blk_drew ?_ | refine blk_alloc ?_ _)); refine blk_far ?_ NB211_258.out _; (with_reducible repeat (first | refine blk_drewN ?_ _ | refine blk_drew ?_ | refine blk_alloc ?_ _)); refine blk_far ?_ NB211_258.out _; (with_reducible repeat (first | refine blk_drewN ?_ _ | refine blk_drew ?_ | refine blk_alloc ?_ _)); refine blk_far ?_ NB211_258.out _; (with_reducible repeat (first | refine blk_drewN ?_ _ | refine blk_drew ?_ | refine blk_alloc ?_ _)); refine blk_far ?_ NB211_258.out _; (with_reducible repeat (first | refine blk_drewN ?_ _ | refine blk_drew ?_ | refine blk_alloc ?_ _)); exact BK211.out) hb); have n8_ := A_ (blk_below (g := gb218) (o := .cells #[.int .i64 t212, .int .i64 t213, .int .i64 t214, .slice Ao42 t238.length co42] 33 (0, 0)) (by (with_reducible repeat (first | refine blk_drewN ?_ _ | refine blk_drew ?_ | refine blk_alloc ?_ _)); refine blk_far ?_ NB218_258.out _; (with_reducible repeat (first | refine blk_drewN ?_ _ | refine blk_drew ?_ | refine blk_alloc ?_ _)); refine blk_far ?_ NB218_258.out _; (with_reducible repeat (first | refine blk_drewN ?_ _ | refine blk_drew ?_ | refine blk_alloc ?_ _)); refine blk_far ?_ NB218_258.out _; (with_reducible repeat (first | refine blk_drewN ?_ _ | refine blk_drew ?_ | refine blk_alloc ?_ _)); refine blk_far ?_ NB218_258.out _; (with_reducible repeat (first | refine blk_drewN ?_ _ | refine blk_drew ?_ | refine blk_alloc ?_ _)); exact BK218.out) hb); have n9_ := A_ (blk_below (g := gb228) (o := .cells #[.int .i64 t221, .int .i64 t222, .int .i64 t223, .slice Ao52 t224.length co52] 33 (0, 0)) (by (with_reducible repeat (first | refine blk_drewN ?_ _ | refine blk_drew ?_ | refine blk_alloc ?_ _)); refine blk_far ?_ NB228_258.out _; (with_reducible repeat (first | refine blk_drewN ?_ _ | refine blk_drew ?_ | refine blk_alloc ?_ _)); refine blk_far ?_ NB228_258.out _; (with_reducible repeat (first | refine blk_drewN ?_ _ | refine blk_drew ?_ | refine blk_alloc ?_ _)); refine blk_far ?_ NB228_258.out _; (with_reducible repeat (first | refine blk_drewN ?_ _ | refine blk_drew ?_ | refine blk_alloc ?_ _)); refine blk_far ?_ NB228_258.out _; (with_reducible repeat (first | refine blk_drewN ?_ _ | refine blk_drew ?_ | refine blk_alloc ?_ _)); exact BK228.out) hb); have n10_ := A_ (blk_below (g := gb258) (o := .cells #[.int .i64 t251, .int .i64 t252, .int .i64 t253, .slice Ao150 t254.length co150] 33 (0, 0)) (by (with_reducible repeat (first | refine blk_drewN ?_ _ | refine blk_drew ?_ | refine blk_alloc ?_ _)); refine blk_put (cs := #[.int .i64 t251, .int .i64 t252, .int .i64 t253, .slice none 0 0]) ?_ 3 _ rfl; (with_reducible repeat (first | refine blk_drewN ?_ _ | refine blk_drew ?_ | refine blk_alloc ?_ _)); refine blk_put (cs := #[.int .i64 t251, .int .i64 t252, .int .i64 0, .slice none 0 0]) ?_ 2 _ rfl; (with_reducible repeat (first | refine blk_drewN ?_ _ | refine blk_drew ?_ | refine blk_alloc ?_ _)); refine blk_put (cs := #[.int .i64 t251, .int .i64 0, .int .i64 0, .slice none 0 0]) ?_ 1 _ rfl; (with_reducible repeat (first | refine blk_drewN ?_ _ | refine blk_drew ?_ | refine blk_alloc ?_ _)); refine blk_put (cs := #[.int .i64 0, .int .i64 0, .int .i64 0, .slice none 0 0]) ?_ 0 _ rfl; (with_reducible repeat (first | refine blk_drewN ?_ _ | refine blk_drew ?_ | refine blk_alloc ?_ _)); exact BK258.out) hb); have n11_ := A_ (below_step (hq HB) hb); clear HO_212003; clear HO_219003; clear HO_229003; clear HO250; clear HO256; clear BK193; clear BK194; clear BK211; clear BK218; clear BK228; clear BK258; clear HB; have HO_212003 := n0_; have HO_219003 := n1_; have HO_229003 := n2_; have HO250 := n3_; have HO256 := n4_; have BK193 := n5_; have BK194 := n6_; have BK211 := n7_; have BK218 := n8_; have BK228 := n9_; have BK258 := n10_; have HB := n11_; clear n0_ n1_ n2_ n3_ n4_ n5_ n6_ n7_ n8_ n9_ n10_ n11_; (try clear hb); (try clear hb2); (try clear hk); (try clear hi)))
             go_meet
             case rel => exact ⟨_, (true), (by first | rfl | (simp; done) | (simp [*]; done)), H', ⟨by have := HJ15.out; have := HJ80.out; first | omega | exact Nat.le_refl _⟩, ⟨by (try simp only [hl219003_80]); (with_reducible repeat (first | apply Kd.R_alloc | apply Kd.R_drewN | apply Kd.R_drew)); exact Kd.R_mono HO_212003.out (fun _ hk => ⟨hk.2.2.1, ⟨hk.2.2.2, hk.2.1⟩⟩)⟩, ⟨by (try simp only [hl219003_80]); (with_reducible repeat (first | apply Kd.R_alloc | apply Kd.R_drewN | apply Kd.R_drew)); exact Kd.R_mono HO_219003.out (fun _ hk => ⟨hk.2.2.1, ⟨hk.2.2.2, hk.2.1⟩⟩)⟩, ⟨by (try simp only [hl219003_80]); (with_reducible repeat (first | apply Kd.R_alloc | apply Kd.R_drewN | apply Kd.R_drew)); exact Kd.R_mono HO_229003.out (fun _ hk => ⟨hk.2.2.1, ⟨hk.2.2.2, hk.2.1⟩⟩)⟩, ⟨by (try simp only [hl219003_80]); (with_reducible repeat (first | apply Kd.R_alloc | apply Kd.R_drewN | apply Kd.R_drew)); exact Kd.R_mono HO256.out (fun _ hk => ⟨hk.2.1, ⟨hk.2.2.1, hk.2.2.2⟩⟩)⟩, ⟨by (try simp only [hl219003_80]); (with_reducible repeat (first | refine blk_drewN ?_ _ | refine blk_drew ?_ | refine blk_alloc ?_ _)); exact BK193.out⟩, ⟨by (try simp only [hl219003_80]); (with_reducible repeat (first | refine blk_drewN ?_ _ | refine blk_drew ?_ | refine blk_alloc ?_ _)); exact BK194.out⟩, ⟨by (try simp only [hl219003_80]); (with_reducible repeat (first | refine blk_drewN ?_ _ | refine blk_drew ?_ | refine blk_alloc ?_ _)); exact BK211.out⟩, ⟨by (try simp only [hl219003_80]); (with_reducible repeat (first | refine blk_drewN ?_ _ | refine blk_drew ?_ | refine blk_alloc ?_ _)); exact BK218.out⟩, ⟨by (try simp only [hl219003_80]); (with_reducible repeat (first | refine blk_drewN ?_ _ | refine blk_drew ?_ | refine blk_alloc ?_ _)); exact BK228.out⟩, ⟨by (try simp only [hl219003_80]); (with_reducible repeat (first | refine blk_drewN ?_ _ | refine blk_drew ?_ | refine blk_alloc ?_ _)); exact BK258.out⟩, ⟨by repeat (first | (with_reducible first | exact HB.out | apply below_alloc | apply pw_below_drewN | apply below_drew1 | refine below_set ?_ GE193.out | refine below_set ?_ GE194.out | refine below_set ?_ GE211.out | refine below_set ?_ GE218.out | refine below_set ?_ GE228.out | refine below_set ?_ GE258.out) | exact HB.out)⟩⟩
           case rest =>
            clear HC131
            try clear c1
            try clear c2
            try clear p2
            try clear c12
            try clear c13
            try clear c15
            try clear c16
            try clear c17
            try clear c21
            try clear c153
            try clear c154
            try clear c155
            try clear c156
            try clear c157
            try clear c158
            try clear c160
            try clear c161
            try clear c162
            try clear c163
            try clear c166
            try clear c167
            try clear c168
            try clear c169
            try clear c170
            try clear c172
            try clear c173
            try clear c174
            try clear c175
            try clear hcz159_0
            try clear hcz159_1
            try clear hcz159_2
            try clear hcz159_3
            try clear hcz164_0
            try clear hcz164_1
            try clear hcz164_2
            try clear hcz164_3
            try clear hcz171_0
            try clear hcz171_1
            try clear hcz171_2
            try clear hcz171_3
            try clear hcz176_0
            try clear hcz176_1
            try clear hcz176_2
            try clear hcz176_3
            try clear hfz159_0
            try clear hfz159_1
            try clear hfz159_2
            try clear hfz159_3
            try clear hfz164_0
            try clear hfz164_1
            try clear hfz164_2
            try clear hfz164_3
            try clear hfz171_0
            try clear hfz171_1
            try clear hfz171_2
            try clear hfz171_3
            try clear hfz176_0
            try clear hfz176_1
            try clear hfz176_2
            try clear hfz176_3
            obtain ⟨kq, x95_130, rfl, HA, HJ130, HO_212003, HO_219003, HO_229003, HO_259003, BK193, BK194, BK211, BK218, BK228, BK258, HB⟩ := hcut
            have hl229003_130 := (Kd.R_reads' HO_229003.out).1
            rw [hl229003_130] at HO_229003
            (try simp only [hl229003_130])
            (try simp only [hl229003_130] at BK193)
            (try simp only [hl229003_130] at BK194)
            (try simp only [hl229003_130] at BK211)
            (try simp only [hl229003_130] at BK218)
            (try simp only [hl229003_130] at BK228)
            (try simp only [hl229003_130] at BK258)
            (try simp only [hl229003_130] at HO_212003)
            (try simp only [hl229003_130] at HO_219003)
            (try simp only [hl229003_130] at HO_259003)
            cases kq with
            | zero => exact absurd HA.out (by simp [laws_FnExactMirrorWalker.j2])
            | succ kj130 =>
             have H := HA.out
             clear HA
             simp only [laws_FnExactMirrorWalker.j2] at H
             by_cases c178 : x95_130 = true
             ·
              subst c178
              have H1 : (some false) = some r := by rw [if_pos rfl] at H; exact H
              clear H
              have H := H1
              clear H1
              obtain rfl := Option.some.inj H
              exact absurd hr_ (by decide)
             ·
              replace c178 := Bool.eq_false_iff.mpr c178
              subst c178
              have H1 : ((laws_heldWalker.f kj130 t221 t222 t223 t241 1).bind fun t260 => (if t260 < 0 then (some false) else (if t260 = t240 then (some true) else (some false)))) = some r := by rw [if_neg (show ¬ (false = true) by decide)] at H; exact H
              clear H
              have H := H1
              clear H1
              replace H := Option.bind_eq_some_iff.mp H
              obtain ⟨t260, A1790, H⟩ := H
              replace H : (if t260 < 0 then (some false) else (if t260 = t240 then (some true) else (some false))) = some r := H
              have A179 := A_ A1790
              clear A1790
              by_cases c180 : t260 < 0
              ·
               rw [if_pos c180] at H
               have c180b0 : decide (t260 < 0) = true := decide_eq_true c180
               clear c180
               obtain rfl := Option.some.inj H
               exact absurd hr_ (by decide)
              ·
               rw [if_neg c180] at H
               have c180b0 : decide (t260 < 0) = false := decide_eq_false c180
               clear c180
               by_cases c188 : t260 = t240
               ·
                rw [if_pos c188] at H
                have c188b0 : (t260 == t240) = true := beq_iff_eq.mpr c188
                have c188b1 : (t260 != t240) = false := bne_eq_false_iff_eq.mpr c188
                clear c188
                obtain rfl := Option.some.inj H
                have hnb189 := NB228_193.out
                have hnc189 := NB193_228.out
                have hnb190 := NB228_194.out
                have hnc190 := NB194_228.out
                have hnb191 := NB228_211.out
                have hnc191 := NB211_228.out
                have hnb192 := NB228_218.out
                have hnc192 := NB218_228.out
                have hnb193 := NB228_258.out
                have hnc193 := NB258_228.out
                have hcz194_0 : wc.cell? ⟨gb228, 0, none⟩ = some (.int .i64 t221) := bc BK228 0
                have hcz194_1 : wc.cell? ⟨gb228, 1, none⟩ = some (.int .i64 t222) := bc BK228 1
                have hcz194_2 : wc.cell? ⟨gb228, 2, none⟩ = some (.int .i64 t223) := bc BK228 2
                have hcz194_3 : wc.cell? ⟨gb228, 3, none⟩ = some (.slice Ao52 t241.length co52) := bc BK228 3
                have hfz194_0 := blk_frozen BK228.out 0
                have hfz194_1 := blk_frozen BK228.out 1
                have hfz194_2 := blk_frozen BK228.out 2
                have hfz194_3 := blk_frozen BK228.out 3
                go_wp2_with (first | ((with_reducible refine gate_callee (f := 22) rfl ?_); refine goesL_ (some 98) rfl rfl Try.func22 (by kernel_rfl) rfl #[.agg #[.int .i64 t221, .int .i64 t222, .int .i64 t223, .slice Ao52 t241.length co52], .int .i64 1] rfl gq ?_; (with_reducible refine (laws_heldWalker.calls kj130 t221 t222 t223 _ _ t241 1 t260 _ ?side1 ?side2 A179.out).mono ?_); (case side1 => repeat (first | exact (Kd.R_reads' HO_229003.out).2.2 | (with_reducible refine Kd.C_alloc ?_ _) | (with_reducible refine Kd.C_drewN ?_ _) | (with_reducible refine Kd.C_drew ?_))); (case side2 => exact (Kd.R_reads' HO_229003.out).2.1); rintro e w195 ⟨rfl, hb⟩; refine ⟨_, rfl, ?_⟩; have n0_ := A_ (Kd.R_below (rq HO_212003) hb); have n1_ := A_ (Kd.R_below (rq HO_219003) hb); have n2_ := A_ (Kd.R_below (rq HO_229003) hb); have n3_ := A_ (Kd.R_below (rq HO_259003) hb); have n4_ := A_ (blk_below (bq BK193) hb); have n5_ := A_ (blk_below (bq BK194) hb); have n6_ := A_ (blk_below (bq BK211) hb); have n7_ := A_ (blk_below (bq BK218) hb); have n8_ := A_ (blk_below (bq BK228) hb); have n9_ := A_ (blk_below (bq BK258) hb); have n10_ := A_ (below_step (hq HB) hb); clear HO_212003; clear HO_219003; clear HO_229003; clear HO_259003; clear BK193; clear BK194; clear BK211; clear BK218; clear BK228; clear BK258; clear HB; have HO_212003 := n0_; have HO_219003 := n1_; have HO_229003 := n2_; have HO_259003 := n3_; have BK193 := n4_; have BK194 := n5_; have BK211 := n6_; have BK218 := n7_; have BK228 := n8_; have BK258 := n9_; have HB := n10_; clear n0_ n1_ n2_ n3_ n4_ n5_ n6_ n7_ n8_ n9_ n10_; (try clear hb); (try clear hb2); (try clear hk); (try clear hi)))
                go_ret
                exact ⟨by first | rfl | (simp [errW_none, errW_some] <;> rfl) | (simp [*, errW_none, errW_some] <;> rfl), by repeat (first | (with_reducible first | exact HB.out | apply below_alloc | apply pw_below_drewN | apply below_drew1 | refine below_set ?_ GE193.out | refine below_set ?_ GE194.out | refine below_set ?_ GE211.out | refine below_set ?_ GE218.out | refine below_set ?_ GE228.out | refine below_set ?_ GE258.out) | exact HB.out)⟩
               ·
                rw [if_neg c188] at H
                have c188b0 : (t260 == t240) = false := beq_eq_false_iff_ne.mpr c188
                have c188b1 : (t260 != t240) = true := bne_iff_ne.mpr c188
                obtain rfl := Option.some.inj H
                exact absurd hr_ (by decide)
          ·
           rw [if_neg c127] at H
           have c127b0 : (t242 == t240) = false := beq_eq_false_iff_ne.mpr c127
           have c127b1 : (t242 != t240) = true := bne_iff_ne.mpr c127
           obtain rfl := Option.some.inj H
           exact absurd hr_ (by decide)
     ·
      replace c79 := Bool.eq_false_iff.mpr c79
      subst c79
      have H1 : (some false) = some r := by rw [if_neg (show ¬ (false = true) by decide)] at H; exact H
      clear H
      have H := H1
      clear H1
      obtain rfl := Option.some.inj H
      exact absurd hr_ (by decide)
end Go.Proofs.Ytppkommlmloenaa.PFnExactMirrorWalker
