-- Told shorter still by shrink2.py.
-- Printed, and told shorter by this session's program shrink.py.
-- Printed by this session's program myprint.py.
import Derived.Test.YthgbkekfekcfaaaMapFnExactFirstArrival
import Derived.Test.YthgbkekfekcfaaaPFnExactFirstArrivalx0
import Derived.Test.YthgbkekfekcfaaaPFnExactFirstArrivalx4
import Derived.Test.YthgbkekfekcfaaaPFnExactFirstArrivalx5
namespace Go.Proofs.Ythgbkekfekcfaaa.PFnExactFirstArrival
open Go.RowKit Go.Proofs.Ythgbkekfekcfaaa.Own Go.Proofs.YthgbkekfekcfaaaW.PrintWords Go.Proofs.YthgbkekfekcfaaaW.PrintLast Go.Proofs.YthgbkekfekcfaaaW.PrintMore
attribute [local go_sem] max2_int min2_int max_two min_two max_three min_three max_four min_four   -- for this text's walks alone
set_option linter.unusedVariables false
set_option linter.unusedSimpArgs false

/-! ### impl_least__Road_arrives: function 39 -/
mutual
def impl_least__Road_arrives.l0 : Nat → List (S61) → Int → List Int → Int → Int → Int → Bool → Int → Bool → Option (Int × Bool)
  | 0, _, _, _, _, _, _, _, _, _ => none
  | k + 1, x1, x3, x12, x13, x14, x5000, x5001, x250000, x250001 => if x14 ≤ x3 then (impl_least__Road_arrives.l1 k x1 x3 x12 x13 x14 (shl .i64 1 (x1.length : Int)) 0 x5000 x5001 x250000 x250001) else ((impl_found.f x13).bind fun bt258 => (some (bt258.1, bt258.2)))
def impl_least__Road_arrives.l1 : Nat → List (S61) → Int → List Int → Int → Int → Int → Int → Int → Bool → Int → Bool → Option (Int × Bool)
  | 0, _, _, _, _, _, _, _, _, _, _, _ => none
  | k + 1, x1, x3, x12, x13, x14, x44, x45, x5000, x5001, x250000, x250001 => if x45 < x44 then ((impl_mget.f k x12 x45 x14).bind fun bt260 => (if bt260.2 = true then (if x14 = x3 then (if x13 < 0 then (impl_least__Road_arrives.j2 k x1 x3 x12 x13 x14 x45 bt260.1 x44 x45 true x5000 x5001 x250000 x250001) else (impl_least__Road_arrives.j2 k x1 x3 x12 x13 x14 x45 bt260.1 x44 x45 (decide (bt260.1 < x13)) x5000 x5001 x250000 x250001)) else (impl_least__Road_arrives.j2 k x1 x3 x12 x13 x14 x45 bt260.1 x44 x45 false x5000 x5001 x250000 x250001)) else (impl_least__Road_arrives.l1 k x1 x3 x12 x13 x14 x44 (wrap64 (x45 + 1)) x5000 x5001 x250000 x250001))) else (impl_least__Road_arrives.l0 k x1 x3 x12 x13 (wrap64 (x14 + 1)) x5000 x5001 x250000 x250001)
def impl_least__Road_arrives.j2 : Nat → List (S61) → Int → List Int → Int → Int → Int → Int → Int → Int → Bool → Int → Bool → Int → Bool → Option (Int × Bool)
  | 0, _, _, _, _, _, _, _, _, _, _, _, _, _, _ => none
  | k + 1, x1, x3, x12, x13, x14, x15, x16, x44, x45, x69, x5000, x5001, x250000, x250001 => if x69 = true then (impl_least__Road_arrives.j3 k x1 x3 x12 x16 x14 x15 x16 x44 x45 x5000 x5001 x250000 x250001) else (impl_least__Road_arrives.j3 k x1 x3 x12 x13 x14 x15 x16 x44 x45 x5000 x5001 x250000 x250001)
def impl_least__Road_arrives.j3 : Nat → List (S61) → Int → List Int → Int → Int → Int → Int → Int → Int → Int → Bool → Int → Bool → Option (Int × Bool)
  | 0, _, _, _, _, _, _, _, _, _, _, _, _, _ => none
  | k + 1, x1, x3, x12, x13, x14, x15, x16, x44, x45, x5000, x5001, x250000, x250001 => impl_least__Road_arrives.l2 k x1 x3 x12 x13 x14 x15 x16 x44 x45 x1 (x1.length : Int) 0 x5000 x5001 x250000 x250001
def impl_least__Road_arrives.l2 : Nat → List (S61) → Int → List Int → Int → Int → Int → Int → Int → Int → List (S61) → Int → Int → Int → Bool → Int → Bool → Option (Int × Bool)
  | 0, _, _, _, _, _, _, _, _, _, _, _, _, _, _, _, _ => none
  | k + 1, x1, x3, x12, x13, x14, x15, x16, x44, x45, x71, x72, x73, x5000, x5001, x250000, x250001 => if x73 < x72 then (if 0 ≤ x73 then (if x73 < (x71.length : Int) then (impl_least__Road_arrives.l3 k x1 x3 x12 x13 x14 x15 x16 x73 (wrap64 (x14 + 1)) x44 x45 x71 x72 x73 x5000 x5001 x250000 x250001 ((rd_T61 x71 x73).f0) ((rd_T61 x71 x73).f1) ((rd_T61 x71 x73).f2)) else (none)) else (none)) else (impl_least__Road_arrives.l1 k x1 x3 x12 x13 x14 x44 (wrap64 (x45 + 1)) x5000 x5001 x250000 x250001)
def impl_least__Road_arrives.l3 : Nat → List (S61) → Int → List Int → Int → Int → Int → Int → Int → Int → Int → Int → List (S61) → Int → Int → Int → Bool → Int → Bool → Int → Int → Int → Option (Int × Bool)
  | 0, _, _, _, _, _, _, _, _, _, _, _, _, _, _, _, _, _, _, _, _, _ => none
  | k + 1, x1, x3, x12, x13, x14, x15, x16, x18, x20, x44, x45, x71, x72, x73, x5000, x5001, x250000, x250001, x264000, x264001, x264002 => if x20 ≤ x3 then (if 0 ≤ x18 then (if (Go.bits .and .i64 (shr .i64 x15 x18) 1) = 0 then ((impl_Road_steps.f x250000 x250001 x264000 x264001 x264002 x14 x20).bind fun t264 => (impl_least__Road_arrives.j6 k x1 x3 x12 x13 x14 x15 x16 x18 x20 x44 x45 x71 x72 x73 (decide (t264 ≤ x264001)) x5000 x5001 x250000 x250001 x264000 x264001 x264002)) else (impl_least__Road_arrives.j6 k x1 x3 x12 x13 x14 x15 x16 x18 x20 x44 x45 x71 x72 x73 false x5000 x5001 x250000 x250001 x264000 x264001 x264002)) else (none)) else (impl_least__Road_arrives.j6 k x1 x3 x12 x13 x14 x15 x16 x18 x20 x44 x45 x71 x72 x73 false x5000 x5001 x250000 x250001 x264000 x264001 x264002)
def impl_least__Road_arrives.j6 : Nat → List (S61) → Int → List Int → Int → Int → Int → Int → Int → Int → Int → Int → List (S61) → Int → Int → Bool → Int → Bool → Int → Bool → Int → Int → Int → Option (Int × Bool)
  | 0, _, _, _, _, _, _, _, _, _, _, _, _, _, _, _, _, _, _, _, _, _, _ => none
  | k + 1, x1, x3, x12, x13, x14, x15, x16, x18, x20, x44, x45, x71, x72, x73, x99, x5000, x5001, x250000, x250001, x264000, x264001, x264002 => if x99 = true then (if 0 ≤ x18 then ((impl_Road_arrives.f x5000 x5001 x264000 x264001 x264002 x16 x14 x20).bind fun t265 => ((impl_mget.f k x12 (Go.bits .or .i64 x15 (shl .i64 1 x18)) x20).bind fun bt267 => (if bt267.2 = true then (if t265 < bt267.1 then ((impl_mput.f k x12 (Go.bits .or .i64 x15 (shl .i64 1 x18)) x20 t265).bind fun t269 => (impl_least__Road_arrives.l3 k x1 x3 t269 x13 x14 x15 x16 x18 (wrap64 (x20 + 1)) x44 x45 x71 x72 x73 x5000 x5001 x250000 x250001 x264000 x264001 x264002)) else (impl_least__Road_arrives.l3 k x1 x3 x12 x13 x14 x15 x16 x18 (wrap64 (x20 + 1)) x44 x45 x71 x72 x73 x5000 x5001 x250000 x250001 x264000 x264001 x264002)) else ((impl_mput.f k x12 (Go.bits .or .i64 x15 (shl .i64 1 x18)) x20 t265).bind fun t270 => (impl_least__Road_arrives.l3 k x1 x3 t270 x13 x14 x15 x16 x18 (wrap64 (x20 + 1)) x44 x45 x71 x72 x73 x5000 x5001 x250000 x250001 x264000 x264001 x264002))))) else (none)) else (impl_least__Road_arrives.l2 k x1 x3 x12 x13 x14 x15 x16 x44 x45 x71 x72 (wrap64 (x73 + 1)) x5000 x5001 x250000 x250001)
end
def impl_least__Road_arrives.f (k : Nat) (a0_0 : Int) (a0_1 : Bool) (l1 : List (S61)) (a2 : Int) (a3 : Int) (a4_0 : Int) (a4_1 : Bool) : Option (Int × Bool) := (impl_isCarried.f k a0_0 a0_1 l1 (([a2, a3] : List Int))).bind fun t253 => (if t253 = true then ((impl_mnew.f k).bind fun t254 => ((impl_mput.f k t254 0 a2 0).bind fun t257 => (impl_least__Road_arrives.l0 k l1 a3 t257 (-1) a2 a4_0 a4_1 a0_0 a0_1))) else (some (0, false)))
theorem impl_least__Road_arrives.mono_l : ∀ k, (∀ y0 y1 y2 y3 y4 y5 y6 y7 y8, LeO (impl_least__Road_arrives.l0 k y0 y1 y2 y3 y4 y5 y6 y7 y8) (impl_least__Road_arrives.l0 (k + 1) y0 y1 y2 y3 y4 y5 y6 y7 y8)) ∧ (∀ y0 y1 y2 y3 y4 y5 y6 y7 y8 y9 y10, LeO (impl_least__Road_arrives.l1 k y0 y1 y2 y3 y4 y5 y6 y7 y8 y9 y10) (impl_least__Road_arrives.l1 (k + 1) y0 y1 y2 y3 y4 y5 y6 y7 y8 y9 y10)) ∧ (∀ y0 y1 y2 y3 y4 y5 y6 y7 y8 y9 y10 y11 y12 y13, LeO (impl_least__Road_arrives.j2 k y0 y1 y2 y3 y4 y5 y6 y7 y8 y9 y10 y11 y12 y13) (impl_least__Road_arrives.j2 (k + 1) y0 y1 y2 y3 y4 y5 y6 y7 y8 y9 y10 y11 y12 y13)) ∧ (∀ y0 y1 y2 y3 y4 y5 y6 y7 y8 y9 y10 y11 y12, LeO (impl_least__Road_arrives.j3 k y0 y1 y2 y3 y4 y5 y6 y7 y8 y9 y10 y11 y12) (impl_least__Road_arrives.j3 (k + 1) y0 y1 y2 y3 y4 y5 y6 y7 y8 y9 y10 y11 y12)) ∧ (∀ y0 y1 y2 y3 y4 y5 y6 y7 y8 y9 y10 y11 y12 y13 y14 y15, LeO (impl_least__Road_arrives.l2 k y0 y1 y2 y3 y4 y5 y6 y7 y8 y9 y10 y11 y12 y13 y14 y15) (impl_least__Road_arrives.l2 (k + 1) y0 y1 y2 y3 y4 y5 y6 y7 y8 y9 y10 y11 y12 y13 y14 y15)) ∧ (∀ y0 y1 y2 y3 y4 y5 y6 y7 y8 y9 y10 y11 y12 y13 y14 y15 y16 y17 y18 y19 y20, LeO (impl_least__Road_arrives.l3 k y0 y1 y2 y3 y4 y5 y6 y7 y8 y9 y10 y11 y12 y13 y14 y15 y16 y17 y18 y19 y20) (impl_least__Road_arrives.l3 (k + 1) y0 y1 y2 y3 y4 y5 y6 y7 y8 y9 y10 y11 y12 y13 y14 y15 y16 y17 y18 y19 y20)) ∧ (∀ y0 y1 y2 y3 y4 y5 y6 y7 y8 y9 y10 y11 y12 y13 y14 y15 y16 y17 y18 y19 y20 y21, LeO (impl_least__Road_arrives.j6 k y0 y1 y2 y3 y4 y5 y6 y7 y8 y9 y10 y11 y12 y13 y14 y15 y16 y17 y18 y19 y20 y21) (impl_least__Road_arrives.j6 (k + 1) y0 y1 y2 y3 y4 y5 y6 y7 y8 y9 y10 y11 y12 y13 y14 y15 y16 y17 y18 y19 y20 y21))
  | 0 => ⟨fun _ _ _ _ _ _ _ _ _ r h => by simp [impl_least__Road_arrives.l0] at h, fun _ _ _ _ _ _ _ _ _ _ _ r h => by simp [impl_least__Road_arrives.l1] at h, fun _ _ _ _ _ _ _ _ _ _ _ _ _ _ r h => by simp [impl_least__Road_arrives.j2] at h, fun _ _ _ _ _ _ _ _ _ _ _ _ _ r h => by simp [impl_least__Road_arrives.j3] at h, fun _ _ _ _ _ _ _ _ _ _ _ _ _ _ _ _ r h => by simp [impl_least__Road_arrives.l2] at h, fun _ _ _ _ _ _ _ _ _ _ _ _ _ _ _ _ _ _ _ _ _ r h => by simp [impl_least__Road_arrives.l3] at h, fun _ _ _ _ _ _ _ _ _ _ _ _ _ _ _ _ _ _ _ _ _ _ r h => by simp [impl_least__Road_arrives.j6] at h⟩
  | k + 1 => by
    obtain ⟨ih0, ih1, ih2, ih3, ih4, ih5, ih6⟩ := impl_least__Road_arrives.mono_l k
    refine ⟨?_, ?_, ?_, ?_, ?_, ?_, ?_⟩
    · intro y0 y1 y2 y3 y4 y5 y6 y7 y8
      unfold impl_least__Road_arrives.l0
      repeat' first
      | (with_reducible exact ih0 _ _ _ _ _ _ _ _ _)
      | (with_reducible exact ih1 _ _ _ _ _ _ _ _ _ _ _)
      | (with_reducible exact ih2 _ _ _ _ _ _ _ _ _ _ _ _ _ _)
      | (with_reducible exact ih3 _ _ _ _ _ _ _ _ _ _ _ _ _)
      | (with_reducible exact ih4 _ _ _ _ _ _ _ _ _ _ _ _ _ _ _ _)
      | (with_reducible exact ih5 _ _ _ _ _ _ _ _ _ _ _ _ _ _ _ _ _ _ _ _ _)
      | (with_reducible exact ih6 _ _ _ _ _ _ _ _ _ _ _ _ _ _ _ _ _ _ _ _ _ _)
      | (with_reducible exact impl_isCarried.mono _ _ _ _ _)
      | (with_reducible exact impl_mget.mono _ _ _ _)
      | (with_reducible exact impl_mnew.mono _)
      | (with_reducible exact impl_mput.mono _ _ _ _ _)
      | (with_reducible exact LeO.refl _)
      | (with_reducible exact LeO.none _)
      | (with_reducible refine LeO.ite ?_ ?_)
      | (with_reducible refine LeO.bind ?_ (fun _ => ?_))
      | exact ih0 _ _ _ _ _ _ _ _ _
      | exact ih1 _ _ _ _ _ _ _ _ _ _ _
      | exact ih2 _ _ _ _ _ _ _ _ _ _ _ _ _ _
      | exact ih3 _ _ _ _ _ _ _ _ _ _ _ _ _
      | exact ih4 _ _ _ _ _ _ _ _ _ _ _ _ _ _ _ _
      | exact ih5 _ _ _ _ _ _ _ _ _ _ _ _ _ _ _ _ _ _ _ _ _
      | exact ih6 _ _ _ _ _ _ _ _ _ _ _ _ _ _ _ _ _ _ _ _ _ _
      | exact impl_isCarried.mono _ _ _ _ _
      | exact impl_mget.mono _ _ _ _
      | exact impl_mnew.mono _
      | exact impl_mput.mono _ _ _ _ _
      | exact LeO.none _
      | refine LeO.ite ?_ ?_
      | refine LeO.bind ?_ (fun _ => ?_)
    · intro y0 y1 y2 y3 y4 y5 y6 y7 y8 y9 y10
      unfold impl_least__Road_arrives.l1
      repeat' first
      | (with_reducible exact ih0 _ _ _ _ _ _ _ _ _)
      | (with_reducible exact ih1 _ _ _ _ _ _ _ _ _ _ _)
      | (with_reducible exact ih2 _ _ _ _ _ _ _ _ _ _ _ _ _ _)
      | (with_reducible exact ih3 _ _ _ _ _ _ _ _ _ _ _ _ _)
      | (with_reducible exact ih4 _ _ _ _ _ _ _ _ _ _ _ _ _ _ _ _)
      | (with_reducible exact ih5 _ _ _ _ _ _ _ _ _ _ _ _ _ _ _ _ _ _ _ _ _)
      | (with_reducible exact ih6 _ _ _ _ _ _ _ _ _ _ _ _ _ _ _ _ _ _ _ _ _ _)
      | (with_reducible exact impl_isCarried.mono _ _ _ _ _)
      | (with_reducible exact impl_mget.mono _ _ _ _)
      | (with_reducible exact impl_mnew.mono _)
      | (with_reducible exact impl_mput.mono _ _ _ _ _)
      | (with_reducible exact LeO.refl _)
      | (with_reducible exact LeO.none _)
      | (with_reducible refine LeO.ite ?_ ?_)
      | (with_reducible refine LeO.bind ?_ (fun _ => ?_))
      | exact ih0 _ _ _ _ _ _ _ _ _
      | exact ih1 _ _ _ _ _ _ _ _ _ _ _
      | exact ih2 _ _ _ _ _ _ _ _ _ _ _ _ _ _
      | exact ih3 _ _ _ _ _ _ _ _ _ _ _ _ _
      | exact ih4 _ _ _ _ _ _ _ _ _ _ _ _ _ _ _ _
      | exact ih5 _ _ _ _ _ _ _ _ _ _ _ _ _ _ _ _ _ _ _ _ _
      | exact ih6 _ _ _ _ _ _ _ _ _ _ _ _ _ _ _ _ _ _ _ _ _ _
      | exact impl_isCarried.mono _ _ _ _ _
      | exact impl_mget.mono _ _ _ _
      | exact impl_mnew.mono _
      | exact impl_mput.mono _ _ _ _ _
      | exact LeO.none _
      | refine LeO.ite ?_ ?_
      | refine LeO.bind ?_ (fun _ => ?_)
    · intro y0 y1 y2 y3 y4 y5 y6 y7 y8 y9 y10 y11 y12 y13
      unfold impl_least__Road_arrives.j2
      repeat' first
      | (with_reducible exact ih0 _ _ _ _ _ _ _ _ _)
      | (with_reducible exact ih1 _ _ _ _ _ _ _ _ _ _ _)
      | (with_reducible exact ih2 _ _ _ _ _ _ _ _ _ _ _ _ _ _)
      | (with_reducible exact ih3 _ _ _ _ _ _ _ _ _ _ _ _ _)
      | (with_reducible exact ih4 _ _ _ _ _ _ _ _ _ _ _ _ _ _ _ _)
      | (with_reducible exact ih5 _ _ _ _ _ _ _ _ _ _ _ _ _ _ _ _ _ _ _ _ _)
      | (with_reducible exact ih6 _ _ _ _ _ _ _ _ _ _ _ _ _ _ _ _ _ _ _ _ _ _)
      | (with_reducible exact impl_isCarried.mono _ _ _ _ _)
      | (with_reducible exact impl_mget.mono _ _ _ _)
      | (with_reducible exact impl_mnew.mono _)
      | (with_reducible exact impl_mput.mono _ _ _ _ _)
      | (with_reducible exact LeO.refl _)
      | (with_reducible exact LeO.none _)
      | (with_reducible refine LeO.ite ?_ ?_)
      | (with_reducible refine LeO.bind ?_ (fun _ => ?_))
      | exact ih0 _ _ _ _ _ _ _ _ _
      | exact ih1 _ _ _ _ _ _ _ _ _ _ _
      | exact ih2 _ _ _ _ _ _ _ _ _ _ _ _ _ _
      | exact ih3 _ _ _ _ _ _ _ _ _ _ _ _ _
      | exact ih4 _ _ _ _ _ _ _ _ _ _ _ _ _ _ _ _
      | exact ih5 _ _ _ _ _ _ _ _ _ _ _ _ _ _ _ _ _ _ _ _ _
      | exact ih6 _ _ _ _ _ _ _ _ _ _ _ _ _ _ _ _ _ _ _ _ _ _
      | exact impl_isCarried.mono _ _ _ _ _
      | exact impl_mget.mono _ _ _ _
      | exact impl_mnew.mono _
      | exact impl_mput.mono _ _ _ _ _
      | exact LeO.none _
      | refine LeO.ite ?_ ?_
      | refine LeO.bind ?_ (fun _ => ?_)
    · intro y0 y1 y2 y3 y4 y5 y6 y7 y8 y9 y10 y11 y12
      unfold impl_least__Road_arrives.j3
      repeat' first
      | (with_reducible exact ih0 _ _ _ _ _ _ _ _ _)
      | (with_reducible exact ih1 _ _ _ _ _ _ _ _ _ _ _)
      | (with_reducible exact ih2 _ _ _ _ _ _ _ _ _ _ _ _ _ _)
      | (with_reducible exact ih3 _ _ _ _ _ _ _ _ _ _ _ _ _)
      | (with_reducible exact ih4 _ _ _ _ _ _ _ _ _ _ _ _ _ _ _ _)
      | (with_reducible exact ih5 _ _ _ _ _ _ _ _ _ _ _ _ _ _ _ _ _ _ _ _ _)
      | (with_reducible exact ih6 _ _ _ _ _ _ _ _ _ _ _ _ _ _ _ _ _ _ _ _ _ _)
      | (with_reducible exact impl_isCarried.mono _ _ _ _ _)
      | (with_reducible exact impl_mget.mono _ _ _ _)
      | (with_reducible exact impl_mnew.mono _)
      | (with_reducible exact impl_mput.mono _ _ _ _ _)
      | (with_reducible exact LeO.refl _)
      | (with_reducible exact LeO.none _)
      | (with_reducible refine LeO.ite ?_ ?_)
      | (with_reducible refine LeO.bind ?_ (fun _ => ?_))
      | exact ih0 _ _ _ _ _ _ _ _ _
      | exact ih1 _ _ _ _ _ _ _ _ _ _ _
      | exact ih2 _ _ _ _ _ _ _ _ _ _ _ _ _ _
      | exact ih3 _ _ _ _ _ _ _ _ _ _ _ _ _
      | exact ih4 _ _ _ _ _ _ _ _ _ _ _ _ _ _ _ _
      | exact ih5 _ _ _ _ _ _ _ _ _ _ _ _ _ _ _ _ _ _ _ _ _
      | exact ih6 _ _ _ _ _ _ _ _ _ _ _ _ _ _ _ _ _ _ _ _ _ _
      | exact impl_isCarried.mono _ _ _ _ _
      | exact impl_mget.mono _ _ _ _
      | exact impl_mnew.mono _
      | exact impl_mput.mono _ _ _ _ _
      | exact LeO.none _
      | refine LeO.ite ?_ ?_
      | refine LeO.bind ?_ (fun _ => ?_)
    · intro y0 y1 y2 y3 y4 y5 y6 y7 y8 y9 y10 y11 y12 y13 y14 y15
      unfold impl_least__Road_arrives.l2
      repeat' first
      | (with_reducible exact ih0 _ _ _ _ _ _ _ _ _)
      | (with_reducible exact ih1 _ _ _ _ _ _ _ _ _ _ _)
      | (with_reducible exact ih2 _ _ _ _ _ _ _ _ _ _ _ _ _ _)
      | (with_reducible exact ih3 _ _ _ _ _ _ _ _ _ _ _ _ _)
      | (with_reducible exact ih4 _ _ _ _ _ _ _ _ _ _ _ _ _ _ _ _)
      | (with_reducible exact ih5 _ _ _ _ _ _ _ _ _ _ _ _ _ _ _ _ _ _ _ _ _)
      | (with_reducible exact ih6 _ _ _ _ _ _ _ _ _ _ _ _ _ _ _ _ _ _ _ _ _ _)
      | (with_reducible exact impl_isCarried.mono _ _ _ _ _)
      | (with_reducible exact impl_mget.mono _ _ _ _)
      | (with_reducible exact impl_mnew.mono _)
      | (with_reducible exact impl_mput.mono _ _ _ _ _)
      | (with_reducible exact LeO.refl _)
      | (with_reducible exact LeO.none _)
      | (with_reducible refine LeO.ite ?_ ?_)
      | (with_reducible refine LeO.bind ?_ (fun _ => ?_))
      | exact ih0 _ _ _ _ _ _ _ _ _
      | exact ih1 _ _ _ _ _ _ _ _ _ _ _
      | exact ih2 _ _ _ _ _ _ _ _ _ _ _ _ _ _
      | exact ih3 _ _ _ _ _ _ _ _ _ _ _ _ _
      | exact ih4 _ _ _ _ _ _ _ _ _ _ _ _ _ _ _ _
      | exact ih5 _ _ _ _ _ _ _ _ _ _ _ _ _ _ _ _ _ _ _ _ _
      | exact ih6 _ _ _ _ _ _ _ _ _ _ _ _ _ _ _ _ _ _ _ _ _ _
      | exact impl_isCarried.mono _ _ _ _ _
      | exact impl_mget.mono _ _ _ _
      | exact impl_mnew.mono _
      | exact impl_mput.mono _ _ _ _ _
      | exact LeO.none _
      | refine LeO.ite ?_ ?_
      | refine LeO.bind ?_ (fun _ => ?_)
    · intro y0 y1 y2 y3 y4 y5 y6 y7 y8 y9 y10 y11 y12 y13 y14 y15 y16 y17 y18 y19 y20
      unfold impl_least__Road_arrives.l3
      repeat' first
      | (with_reducible exact ih0 _ _ _ _ _ _ _ _ _)
      | (with_reducible exact ih1 _ _ _ _ _ _ _ _ _ _ _)
      | (with_reducible exact ih2 _ _ _ _ _ _ _ _ _ _ _ _ _ _)
      | (with_reducible exact ih3 _ _ _ _ _ _ _ _ _ _ _ _ _)
      | (with_reducible exact ih4 _ _ _ _ _ _ _ _ _ _ _ _ _ _ _ _)
      | (with_reducible exact ih5 _ _ _ _ _ _ _ _ _ _ _ _ _ _ _ _ _ _ _ _ _)
      | (with_reducible exact ih6 _ _ _ _ _ _ _ _ _ _ _ _ _ _ _ _ _ _ _ _ _ _)
      | (with_reducible exact impl_isCarried.mono _ _ _ _ _)
      | (with_reducible exact impl_mget.mono _ _ _ _)
      | (with_reducible exact impl_mnew.mono _)
      | (with_reducible exact impl_mput.mono _ _ _ _ _)
      | (with_reducible exact LeO.refl _)
      | (with_reducible exact LeO.none _)
      | (with_reducible refine LeO.ite ?_ ?_)
      | (with_reducible refine LeO.bind ?_ (fun _ => ?_))
      | exact ih0 _ _ _ _ _ _ _ _ _
      | exact ih1 _ _ _ _ _ _ _ _ _ _ _
      | exact ih2 _ _ _ _ _ _ _ _ _ _ _ _ _ _
      | exact ih3 _ _ _ _ _ _ _ _ _ _ _ _ _
      | exact ih4 _ _ _ _ _ _ _ _ _ _ _ _ _ _ _ _
      | exact ih5 _ _ _ _ _ _ _ _ _ _ _ _ _ _ _ _ _ _ _ _ _
      | exact ih6 _ _ _ _ _ _ _ _ _ _ _ _ _ _ _ _ _ _ _ _ _ _
      | exact impl_isCarried.mono _ _ _ _ _
      | exact impl_mget.mono _ _ _ _
      | exact impl_mnew.mono _
      | exact impl_mput.mono _ _ _ _ _
      | exact LeO.none _
      | refine LeO.ite ?_ ?_
      | refine LeO.bind ?_ (fun _ => ?_)
    · intro y0 y1 y2 y3 y4 y5 y6 y7 y8 y9 y10 y11 y12 y13 y14 y15 y16 y17 y18 y19 y20 y21
      unfold impl_least__Road_arrives.j6
      repeat' first
      | (with_reducible exact ih0 _ _ _ _ _ _ _ _ _)
      | (with_reducible exact ih1 _ _ _ _ _ _ _ _ _ _ _)
      | (with_reducible exact ih2 _ _ _ _ _ _ _ _ _ _ _ _ _ _)
      | (with_reducible exact ih3 _ _ _ _ _ _ _ _ _ _ _ _ _)
      | (with_reducible exact ih4 _ _ _ _ _ _ _ _ _ _ _ _ _ _ _ _)
      | (with_reducible exact ih5 _ _ _ _ _ _ _ _ _ _ _ _ _ _ _ _ _ _ _ _ _)
      | (with_reducible exact ih6 _ _ _ _ _ _ _ _ _ _ _ _ _ _ _ _ _ _ _ _ _ _)
      | (with_reducible exact impl_isCarried.mono _ _ _ _ _)
      | (with_reducible exact impl_mget.mono _ _ _ _)
      | (with_reducible exact impl_mnew.mono _)
      | (with_reducible exact impl_mput.mono _ _ _ _ _)
      | (with_reducible exact LeO.refl _)
      | (with_reducible exact LeO.none _)
      | (with_reducible refine LeO.ite ?_ ?_)
      | (with_reducible refine LeO.bind ?_ (fun _ => ?_))
      | exact ih0 _ _ _ _ _ _ _ _ _
      | exact ih1 _ _ _ _ _ _ _ _ _ _ _
      | exact ih2 _ _ _ _ _ _ _ _ _ _ _ _ _ _
      | exact ih3 _ _ _ _ _ _ _ _ _ _ _ _ _
      | exact ih4 _ _ _ _ _ _ _ _ _ _ _ _ _ _ _ _
      | exact ih5 _ _ _ _ _ _ _ _ _ _ _ _ _ _ _ _ _ _ _ _ _
      | exact ih6 _ _ _ _ _ _ _ _ _ _ _ _ _ _ _ _ _ _ _ _ _ _
      | exact impl_isCarried.mono _ _ _ _ _
      | exact impl_mget.mono _ _ _ _
      | exact impl_mnew.mono _
      | exact impl_mput.mono _ _ _ _ _
      | exact LeO.none _
      | refine LeO.ite ?_ ?_
      | refine LeO.bind ?_ (fun _ => ?_)
theorem impl_least__Road_arrives.mono : ∀ a0 a1 a2 a3 a4 a5 a6 k, LeO (impl_least__Road_arrives.f k a0 a1 a2 a3 a4 a5 a6) (impl_least__Road_arrives.f (k + 1) a0 a1 a2 a3 a4 a5 a6) := by
  intro a0 a1 a2 a3 a4 a5 a6 k
  obtain ⟨ih0, ih1, ih2, ih3, ih4, ih5, ih6⟩ := impl_least__Road_arrives.mono_l k
  unfold impl_least__Road_arrives.f
  repeat' first
      | (with_reducible exact ih0 _ _ _ _ _ _ _ _ _)
      | (with_reducible exact ih1 _ _ _ _ _ _ _ _ _ _ _)
      | (with_reducible exact ih2 _ _ _ _ _ _ _ _ _ _ _ _ _ _)
      | (with_reducible exact ih3 _ _ _ _ _ _ _ _ _ _ _ _ _)
      | (with_reducible exact ih4 _ _ _ _ _ _ _ _ _ _ _ _ _ _ _ _)
      | (with_reducible exact ih5 _ _ _ _ _ _ _ _ _ _ _ _ _ _ _ _ _ _ _ _ _)
      | (with_reducible exact ih6 _ _ _ _ _ _ _ _ _ _ _ _ _ _ _ _ _ _ _ _ _ _)
      | (with_reducible exact impl_isCarried.mono _ _ _ _ _)
      | (with_reducible exact impl_mget.mono _ _ _ _)
      | (with_reducible exact impl_mnew.mono _)
      | (with_reducible exact impl_mput.mono _ _ _ _ _)
      | (with_reducible exact LeO.refl _)
      | (with_reducible exact LeO.none _)
      | (with_reducible refine LeO.ite ?_ ?_)
      | (with_reducible refine LeO.bind ?_ (fun _ => ?_))
      | exact ih0 _ _ _ _ _ _ _ _ _
      | exact ih1 _ _ _ _ _ _ _ _ _ _ _
      | exact ih2 _ _ _ _ _ _ _ _ _ _ _ _ _ _
      | exact ih3 _ _ _ _ _ _ _ _ _ _ _ _ _
      | exact ih4 _ _ _ _ _ _ _ _ _ _ _ _ _ _ _ _
      | exact ih5 _ _ _ _ _ _ _ _ _ _ _ _ _ _ _ _ _ _ _ _ _
      | exact ih6 _ _ _ _ _ _ _ _ _ _ _ _ _ _ _ _ _ _ _ _ _ _
      | exact impl_isCarried.mono _ _ _ _ _
      | exact impl_mget.mono _ _ _ _
      | exact impl_mnew.mono _
      | exact impl_mput.mono _ _ _ _ _
      | exact LeO.none _
      | refine LeO.ite ?_ ?_
      | refine LeO.bind ?_ (fun _ => ?_)
def impl_least__Road_arrives.T19 : Bool × List (List Nat × List Nat) := (true, [([], []), ([], []), ([0, 1], [0, 1]), ([2], [2]), ([3], [3]), ([3], [3]), ([4, 5, 3], [3, 4, 5]), ([6, 3], [3, 6]), ([7, 3], [3, 7]), ([3, 8], [3, 8]), ([9, 3], [9]), ([10], [10]), ([10], [10]), ([10], [10]), ([10], [10]), ([11, 12, 13, 14, 10, 10], [10, 11, 12, 13, 14]), ([10], [10]), ([16, 10], [10, 16]), ([15, 17, 10], [10, 15, 17]), ([10, 18], [10, 18])])
def impl_least__Road_arrives.B19 : List Nat := [0, 0, 3, 7, 15, 15, 63, 127, 255, 511, 1023, 2047, 2047, 2047, 2047, 32767, 2047, 67583, 262143, 524287]
theorem impl_least__Road_arrives.tab19 : rtab .any (opsOf Try.f39 19) = impl_least__Road_arrives.T19 := by kernel_rfl
theorem impl_least__Road_arrives.bits19 : waitsOk impl_least__Road_arrives.T19.2 impl_least__Road_arrives.B19 = true := by kernel_rfl
def impl_least__Road_arrives.T21 : Bool × List (List Nat × List Nat) := (true, [([], []), ([], []), ([1], [1]), ([0, 2], [0, 2]), ([], []), ([3, 4], [3, 4]), ([], []), ([], []), ([], []), ([], []), ([], []), ([6, 7, 8, 9, 10], [6, 7, 8, 9, 10]), ([], []), ([12, 5, 11, 0, 1, 2, 3, 4, 5, 12], [5, 12]), ([11, 13, 0, 1, 2, 3, 4, 5, 6, 7, 8, 9, 10, 11, 12, 13], [11])])
def impl_least__Road_arrives.B21 : List Nat := [0, 0, 2, 7, 0, 31, 0, 0, 0, 0, 0, 1984, 0, 8191, 16383]
theorem impl_least__Road_arrives.tab21 : rtab .any (opsOf Try.f39 21) = impl_least__Road_arrives.T21 := by kernel_rfl
theorem impl_least__Road_arrives.bits21 : waitsOk impl_least__Road_arrives.T21.2 impl_least__Road_arrives.B21 = true := by kernel_rfl
set_option maxHeartbeats 8000000 in
set_option maxRecDepth 100000 in
theorem impl_least__Road_arrives.calls (k : Nat) (a0_0 : Int) (a0_1 : Bool) (A1 : Option Addr) (c1 : Nat) (l1 : List (S61)) (a2 : Int) (a3 : Int) (a4_0 : Int) (a4_1 : Bool) (r1 : Int) (r2 : Bool) (w : World) (hr1 : Kd.C k61 w A1 l1.length l1) (hc1 : l1.length ≤ c1) (h : impl_least__Road_arrives.f k a0_0 a0_1 l1 a2 a3 a4_0 a4_1 = some (r1, r2)) :
    Calls Try.prog 39 #[.agg #[.int .i64 a0_0, .bool a0_1], .slice A1 l1.length c1, .int .i64 a2, .int .i64 a3, .func (.func 43) #[.agg #[.int .i64 a4_0, .bool a4_1]] #[]] w fun e w' => e = .returned (.tuple #[.int .i64 r1, .bool r2]) ∧ Below w.heap.size w w' := by
 have hu27 := Try.underlying27; have hu87 := Try.underlying87; have hu61 := Try.underlying61; have HR1 := A_ hr1; have HC1 := A_ hc1; clear hr1 hc1; have HB := A_ (Below.refl w.heap.size w); have H : ((impl_isCarried.f k a0_0 a0_1 l1 (([a2, a3] : List Int))).bind fun t253 => (if t253 = true then ((impl_mnew.f k).bind fun t254 => ((impl_mput.f k t254 0 a2 0).bind fun t257 => (impl_least__Road_arrives.l0 k l1 a3 t257 (-1) a2 a4_0 a4_1 a0_0 a0_1))) else (some (0, false)))) = some (r1, r2) := h; clear h
 obtain ⟨y250, hy250⟩ : ∃ y_ : List Int, y_ = (([a2, a3] : List Int)) := ⟨_, rfl⟩
 replace H : ((impl_isCarried.f k a0_0 a0_1 l1 y250).bind fun t253 => (if t253 = true then ((impl_mnew.f k).bind fun t254 => ((impl_mput.f k t254 0 a2 0).bind fun t257 => (impl_least__Road_arrives.l0 k l1 a3 t257 (-1) a2 a4_0 a4_1 a0_0 a0_1))) else (some (0, false)))) = some (r1, r2) := by first | (rw [hy250]; with_reducible exact H) | (have H2_ := (Option.bind_some _ _).symm.trans H; rw [hy250]; with_reducible exact H2_) | (have H2_ := (Option.bind_some _ _).symm.trans H; with_reducible exact H2_) | with_reducible exact H | (rw [hy250]; exact H) | exact H
 have Ny250 := A_ hy250; clear hy250; replace H := bm H; obtain ⟨t253, A6, H⟩ := H; by_cases c7 : t253 = true
 ·
  subst c7
  have H1 : ((impl_mnew.f k).bind fun t254 => ((impl_mput.f k t254 0 a2 0).bind fun t257 => (impl_least__Road_arrives.l0 k l1 a3 t257 (-1) a2 a4_0 a4_1 a0_0 a0_1))) = some (r1, r2) := by rw [if_pos rfl] at H; exact H
  clear H; have H := H1; clear H1; replace H := bm H; obtain ⟨t254, A8, H⟩ := H; replace H := bm H; obtain ⟨t257, A9, H⟩ := H; have H' := A_ H; clear H; go_enter Try.func39, Try.ntmps39
  go_wp2_with (first | ((with_reducible refine gate_dst (N := 5) rfl ?_); refine bx (N := 5) #[.int .i64 a0_0, .bool a0_1] 27 ?_; intro gb249 hg w10 hbox hb; have BK249 := A_ (hbox); have GW249 := A_ (bs hg (hq HB) : w.heap.size ≤ gb249); have GE249 := A_ (bs hg (hq HB) : w.heap.size ≤ gb249); replace HB := A_ (below_step (hq HB) hb); clear hb hbox hg; have hcz11_0 : w10.cell? ⟨gb249, 0, none⟩ = some (.int .i64 a0_0) := bc BK249 0; have hcz11_1 : w10.cell? ⟨gb249, 1, none⟩ = some (.bool a0_1) := bc BK249 1; have hfz11_0 := blk_frozen BK249.out 0; have hfz11_1 := blk_frozen BK249.out 1) | ((with_reducible refine gate_dst (N := 29) rfl ?_); refine Kd.R_lit (Kd.int .i64) _ 3 ?hg (N := 29) ?hd (xs := ([a2, a3] : List Int)) (inner := [.int .i64 a2, .int .i64 a3]) (ok := fun _ => True) (okp := fun _ => True) ?hr ?hp (fun _ hk => hk) trivial (Below.refl _ _) (Nat.le_refl _) (by simp) ?_; (case hd => rfl); (case hg => rfl); (case hr => first | (go_simp; done) | (go_simp; rfl)); (case hp => exact (Reps.one (show Kd.M (Kd.int .i64) _ _ _ a2 [.int .i64 a2] from rfl) (Reps.one (show Kd.M (Kd.int .i64) _ _ _ a3 [.int .i64 a3] from rfl) (Reps.none _ _)))); intro v251 w12 ho13 hb hg_ hnew_; clear hg_ hnew_; (first | rw [← Ny250.out] at ho13 | (simp only [Int.reduceToNat] at ho13; rw [← Ny250.out] at ho13)); have HO252 := A_ (Kd.R_lower ho13 (below_size (hq HB))); replace BK249 := A_ (blk_below (bq BK249) hb); replace HB := A_ (below_step (hq HB) hb); clear hb ho13; obtain ⟨Ao14, co14, eo14⟩ := Kd.R_slice HO252.out; subst eo14) | ((with_reducible refine gate_callee (f := 46) rfl ?_); refine gL (some 30) Try.func46 #[.agg #[.int .i64 a0_0, .bool a0_1], .slice A1 l1.length c1, .slice Ao14 y250.length co14] ?_; (with_reducible refine (impl_isCarried.calls k a0_0 a0_1 _ _ l1 _ _ y250 true _ ?side1 ?side2 ?side3 ?side4 A6.out).mono ?_); (case side1 => exact cq (Kd.C_below HR1.out HB.out)); (case side2 => exact HC1.out); (case side3 => exact cq (Kd.R_reads' HO252.out).2.2); (case side4 => exact (Kd.R_reads' HO252.out).2.1); rintro e w15 ⟨rfl, hb⟩; refine ⟨_, rfl, ?_⟩; replace HO252 := A_ (Kd.R_below (rq HO252) hb); replace BK249 := A_ (blk_below (bq BK249) hb); replace HB := A_ (below_step (hq HB) hb); clear hb) | ((with_reducible refine gate_dst (N := 32) rfl ?_); refine mnew_step (some 32) A8.out (below_size (hq HB)) ?_; intro mb9 w16 ho0 hb; have HO256 := A_ ho0; replace BK249 := A_ (blk_below (bq BK249) hb); replace HB := A_ (below_step (hq HB) hb); clear hb ho0) | ((with_reducible refine gate_put rfl ?_); refine mput_step A9.out (mq HO256) ?side1 ?_; (case side1 => repeat (first | (with_reducible first | exact HB.out | apply below_alloc | apply pw_below_drewN | apply below_drew1 | refine below_set ?_ GE249.out) | exact HB.out)); intro w18 hy0 hb hkp; replace BK249 := A_ (hkp _ _ _ _ (bq BK249)); replace HO256 := A_ (hy0); replace HB := A_ (hb); clear hb hkp hy0))
  go_loopg [13, 14] k (fun kq v13 v14 w' => ∃ (x12_1 : List Int) (x13_1 : Int) (x14_1 : Int), v13 = .int .i64 x13_1 ∧ v14 = .int .i64 x14_1 ∧ Aside0 (impl_least__Road_arrives.l0 kq l1 a3 x12_1 x13_1 x14_1 a4_0 a4_1 a0_0 a0_1 = some (r1, r2)) ∧ Aside0 (kq ≤ k) ∧ Aside0 (Mp w' w.heap.size mb9 x12_1) ∧ Aside0 (w'.heap[gb249]? = some (.cells #[.int .i64 a0_0, .bool a0_1] 27 (0, 0))) ∧ Aside0 (Below w.heap.size w w'))
  case atStart => exact ⟨(t257), ((-1)), (a2), rf, rf, H', ⟨Nat.le_refl _⟩, ⟨mq HO256⟩, ⟨bq BK249⟩, ⟨hq HB⟩⟩
  case round =>
   clear H'; (try clear c7); (try clear hcz11_0); (try clear hcz11_1); (try clear hfz11_0); (try clear hfz11_1); obtain ⟨x12_1, x13_1, x14_1, rfl, rfl, HA, HK1, HO_12, BK249, HB⟩ := hrel; skip
   cases gk with
   | zero => exact absurd HA.out (by simp [impl_least__Road_arrives.l0])
   | succ k1 =>
    have H := HA.out; clear HA; simp only [impl_least__Road_arrives.l0] at H
    by_cases c19 : x14_1 ≤ a3
    ·
     rw [if_pos c19] at H; have c19b0 := decide_eq_true c19; clear c19
     obtain ⟨ji20, hji20⟩ : ∃ j_ : Int, (shl .i64 1 (l1.length : Int)) = j_ := ⟨_, rfl⟩
     replace H : (impl_least__Road_arrives.l1 k1 l1 a3 x12_1 x13_1 x14_1 ji20 0 a4_0 a4_1 a0_0 a0_1) = some (r1, r2) := by first | (rw [hji20] at H; exact H) | (simp only [hji20] at H ⊢; exact H)
     have hji20_ : (IntKind.i64.wrap (1 * 2 ^ min (l1.length : Int).toNat 64)) = ji20 := hji20; have hji20z : (l1.length : Int) ≤ 64 → (IntKind.i64.wrap (1 * 2 ^ (l1.length : Int).toNat)) = ji20 := shl_small hji20; have hji20p : (IntKind.i64.wrap (1 * 2 ^ min l1.length 64)) = ji20 := hji20_; have hji20q : (l1.length : Int) ≤ 64 → (IntKind.i64.wrap (1 * 2 ^ l1.length)) = ji20 := hji20z
     have hji20r : (IntKind.i64.wrap (2 ^ min l1.length 64)) = ji20 := by have h_ := hji20p; rw [Int.one_mul] at h_; exact h_
     have hji20s : (l1.length : Int) ≤ 64 → (IntKind.i64.wrap (2 ^ l1.length)) = ji20 := fun hle_ => by have h_ := hji20q hle_; rw [Int.one_mul] at h_; exact h_
     have hji20u : (IntKind.i64.wrap (2 ^ min (l1.length : Int).toNat 64)) = ji20 := by have h_ := hji20_; rw [Int.one_mul] at h_; exact h_
     have hji20v : (l1.length : Int) ≤ 64 → (IntKind.i64.wrap (2 ^ (l1.length : Int).toNat)) = ji20 := fun hle_ => by have h_ := hji20z hle_; rw [Int.one_mul] at h_; exact h_
     have hji20y : (wrap64 (1 * 2 ^ min (l1.length : Int).toNat 64)) = ji20 := (i64_w _).symm.trans hji20_
     have hji20x : (l1.length : Int) ≤ 64 → (wrap64 (1 * 2 ^ (l1.length : Int).toNat)) = ji20 := fun h_ => (i64_w _).symm.trans (hji20z h_)
     have H' := A_ H; clear H; go_wp2
     go_loopg [13, 45] k1 (fun kq v13 v45 w' => ∃ (x12_2 : List Int) (x13_2 : Int) (x45_2 : Int), v13 = .int .i64 x13_2 ∧ v45 = .int .i64 x45_2 ∧ Aside0 (impl_least__Road_arrives.l1 kq l1 a3 x12_2 x13_2 x14_1 ji20 x45_2 a4_0 a4_1 a0_0 a0_1 = some (r1, r2)) ∧ Aside0 (kq ≤ k1) ∧ Aside0 (Mp w' w.heap.size mb9 x12_2) ∧ Aside0 (w'.heap[gb249]? = some (.cells #[.int .i64 a0_0, .bool a0_1] 27 (0, 0))) ∧ Aside0 (Below w.heap.size w w'))
     case atStart => exact ⟨(x12_1), (x13_1), (0), rf, rf, H', ⟨Nat.le_refl _⟩, ⟨mq HO_12⟩, ⟨by (with_reducible repeat (first | refine blk_drewN ?_ _ | refine blk_drew ?_ | refine blk_alloc ?_ _)); exact BK249.out⟩, ⟨hq HB⟩⟩
     case round =>
      clear H'; (try clear c7); (try clear c19); (try clear c19b0); (try clear hcz11_0); (try clear hcz11_1); (try clear hfz11_0); (try clear hfz11_1); obtain ⟨x12_2, x13_2, x45_2, rfl, rfl, HA, HK2, HO_12, BK249, HB⟩ := hrel; skip
      cases gk with
      | zero => exact absurd HA.out (by simp [impl_least__Road_arrives.l1])
      | succ k2 =>
       have H := HA.out; clear HA; simp only [impl_least__Road_arrives.l1] at H
       by_cases c21 : x45_2 < ji20
       ·
        rw [if_pos c21] at H; have c21b0 := decide_eq_true c21; clear c21; replace H := bm H; obtain ⟨⟨t260, t261⟩, A22, H⟩ := H; (try dsimp only at H); by_cases c23 : t261 = true
        ·
         subst c23
         have H1 : (if x14_1 = a3 then (if x13_2 < 0 then (impl_least__Road_arrives.j2 k2 l1 a3 x12_2 x13_2 x14_1 x45_2 t260 ji20 x45_2 true a4_0 a4_1 a0_0 a0_1) else (impl_least__Road_arrives.j2 k2 l1 a3 x12_2 x13_2 x14_1 x45_2 t260 ji20 x45_2 (decide (t260 < x13_2)) a4_0 a4_1 a0_0 a0_1)) else (impl_least__Road_arrives.j2 k2 l1 a3 x12_2 x13_2 x14_1 x45_2 t260 ji20 x45_2 false a4_0 a4_1 a0_0 a0_1)) = some (r1, r2) := by rw [if_pos rfl] at H; exact H
         clear H; have H := H1; clear H1; have HC24 := A_ H; clear H; go_upto_region 13 with (first | ((with_reducible refine gate_dst (N := 53) rfl ?_); refine mget_step (some 53) A22.out (mq HO_12) ?_; intro w25 hw_; have hb := mq_below hw_; clear hw_; replace HO_12 := A_ (Mp.below (mq HO_12) hb); replace BK249 := A_ (blk_below (bq BK249) hb); replace HB := A_ (below_step (hq HB) hb); clear hb))
         (try simp only [Act.put, List.setIfInBounds_toArray, List.set_cons_zero, List.set_cons_succ]); go_cut [69] (fun v69 wc => ∃ (kq : Nat) (x69_23 : Bool), v69 = .bool x69_23 ∧ Aside0 (impl_least__Road_arrives.j2 kq l1 a3 x12_2 x13_2 x14_1 x45_2 t260 ji20 x45_2 x69_23 a4_0 a4_1 a0_0 a0_1 = some (r1, r2)) ∧ Aside0 (kq ≤ k2) ∧ Aside0 (Mp wc w.heap.size mb9 x12_2) ∧ Aside0 (wc.heap[gb249]? = some (.cells #[.int .i64 a0_0, .bool a0_1] 27 (0, 0))) ∧ Aside0 (Below w.heap.size w wc))
         case first =>
          have H := HC24.out; clear HC24; by_cases c26 : x14_1 = a3
          ·
           rw [if_pos c26] at H; have c26b0 : (x14_1 == a3) = true := beq_iff_eq.mpr c26; have c26b1 : (x14_1 != a3) = false := bne_eq_false_iff_eq.mpr c26; clear c26; (first | rw [c26b0] | (simp only [i64_w, i32_w]; rw [c26b0]) | skip); by_cases c27 : x13_2 < 0
           ·
            rw [if_pos c27] at H; have c27b0 := decide_eq_true c27; clear c27; have H' := A_ H; clear H; go_wp2
            go_meet
            case rel => exact ⟨_, (true), rf, H', ⟨by have := HK1.out; have := HK2.out; first | omega | exact Nat.le_refl _⟩, ⟨mq HO_12⟩, ⟨by (with_reducible repeat (first | refine blk_drewN ?_ _ | refine blk_drew ?_ | refine blk_alloc ?_ _)); exact BK249.out⟩, ⟨hq HB⟩⟩
           ·
            rw [if_neg c27] at H; have c27b0 := decide_eq_false c27; clear c27; have H' := A_ H; clear H; go_wp2
            go_meet
            case rel => exact ⟨_, (decide (t260 < x13_2)), rf, H', ⟨by have := HK1.out; have := HK2.out; first | omega | exact Nat.le_refl _⟩, ⟨mq HO_12⟩, ⟨by (with_reducible repeat (first | refine blk_drewN ?_ _ | refine blk_drew ?_ | refine blk_alloc ?_ _)); exact BK249.out⟩, ⟨hq HB⟩⟩
          ·
           rw [if_neg c26] at H; have c26b0 : (x14_1 == a3) = false := beq_eq_false_iff_ne.mpr c26; have c26b1 : (x14_1 != a3) = true := bne_iff_ne.mpr c26; (first | rw [c26b0] | (simp only [i64_w, i32_w]; rw [c26b0]) | skip); have H' := A_ H; clear H; go_wp2
           go_meet
           case rel => exact ⟨_, (false), rf, H', ⟨by have := HK1.out; have := HK2.out; first | omega | exact Nat.le_refl _⟩, ⟨mq HO_12⟩, ⟨by (with_reducible repeat (first | refine blk_drewN ?_ _ | refine blk_drew ?_ | refine blk_alloc ?_ _)); exact BK249.out⟩, ⟨hq HB⟩⟩
         case rest =>
          clear HC24; (try clear c7); (try clear c19); (try clear c19b0); (try clear c21); (try clear c21b0); (try clear c23); (try clear c26); (try clear c26b0); (try clear c26b1); (try clear c27); (try clear c27b0); (try clear hcz11_0); (try clear hcz11_1); (try clear hfz11_0); (try clear hfz11_1); obtain ⟨kq, x69_23, rfl, HA, HJ23, HO_12, BK249, HB⟩ := hcut
          cases kq with
          | zero => exact absurd HA.out (by simp [impl_least__Road_arrives.j2])
          | succ kj23 =>
           have H := HA.out; clear HA; simp only [impl_least__Road_arrives.j2] at H
           have HC28 := A_ H; clear H; go_upto_if 69 with (fail)
           go_cut [13] (fun v13 wc => ∃ (kq : Nat) (x13_27 : Int), v13 = .int .i64 x13_27 ∧ Aside0 (impl_least__Road_arrives.j3 kq l1 a3 x12_2 x13_27 x14_1 x45_2 t260 ji20 x45_2 a4_0 a4_1 a0_0 a0_1 = some (r1, r2)) ∧ Aside0 (kq ≤ kj23) ∧ Aside0 (Mp wc w.heap.size mb9 x12_2) ∧ Aside0 (wc.heap[gb249]? = some (.cells #[.int .i64 a0_0, .bool a0_1] 27 (0, 0))) ∧ Aside0 (Below w.heap.size w wc))
           case first =>
            have H := HC28.out; clear HC28; by_cases c29 : x69_23 = true
            ·
             subst c29
             have H1 : (impl_least__Road_arrives.j3 kj23 l1 a3 x12_2 t260 x14_1 x45_2 t260 ji20 x45_2 a4_0 a4_1 a0_0 a0_1) = some (r1, r2) := by rw [if_pos rfl] at H; exact H
             clear H; have H := H1; clear H1; have H' := A_ H; clear H; go_wp2
             go_meet
             case rel => exact ⟨_, (t260), rf, H', ⟨by have := HK1.out; have := HK2.out; have := HJ23.out; first | omega | exact Nat.le_refl _⟩, ⟨mq HO_12⟩, ⟨by (with_reducible repeat (first | refine blk_drewN ?_ _ | refine blk_drew ?_ | refine blk_alloc ?_ _)); exact BK249.out⟩, ⟨hq HB⟩⟩
            ·
             replace c29 := Bool.eq_false_iff.mpr c29; subst c29
             have H1 : (impl_least__Road_arrives.j3 kj23 l1 a3 x12_2 x13_2 x14_1 x45_2 t260 ji20 x45_2 a4_0 a4_1 a0_0 a0_1) = some (r1, r2) := by rw [if_neg (show ¬ (false = true) by decide)] at H; exact H
             clear H; have H := H1; clear H1; have H' := A_ H; clear H; go_wp2
             go_meet
             case rel => exact ⟨_, (x13_2), rf, H', ⟨by have := HK1.out; have := HK2.out; have := HJ23.out; first | omega | exact Nat.le_refl _⟩, ⟨mq HO_12⟩, ⟨by (with_reducible repeat (first | refine blk_drewN ?_ _ | refine blk_drew ?_ | refine blk_alloc ?_ _)); exact BK249.out⟩, ⟨hq HB⟩⟩
           case rest =>
            clear HC28; (try clear c7); (try clear c19); (try clear c19b0); (try clear c21); (try clear c21b0); (try clear c23); (try clear c26); (try clear c26b0); (try clear c26b1); (try clear c27); (try clear c27b0); (try clear c29); (try clear hcz11_0); (try clear hcz11_1); (try clear hfz11_0); (try clear hfz11_1); obtain ⟨kq, x13_27, rfl, HA, HJ27, HO_12, BK249, HB⟩ := hcut
            cases kq with
            | zero => exact absurd HA.out (by simp [impl_least__Road_arrives.j3])
            | succ kj27 =>
             have H := HA.out; clear HA; simp only [impl_least__Road_arrives.j3] at H
             have H' := A_ H; clear H; go_wp2
             go_loopg [73] kj27 (fun kq v73 w' => ∃ (x12_5 : List Int) (x73_5 : Int), v73 = .int .i64 x73_5 ∧ Aside0 (impl_least__Road_arrives.l2 kq l1 a3 x12_5 x13_27 x14_1 x45_2 t260 ji20 x45_2 l1 (l1.length : Int) x73_5 a4_0 a4_1 a0_0 a0_1 = some (r1, r2)) ∧ Aside0 (kq ≤ kj27) ∧ Aside0 (Mp w' w.heap.size mb9 x12_5) ∧ Aside0 (w'.heap[gb249]? = some (.cells #[.int .i64 a0_0, .bool a0_1] 27 (0, 0))) ∧ Aside0 (Below w.heap.size w w'))
             case atStart => exact ⟨(x12_2), (0), rf, H', ⟨Nat.le_refl _⟩, ⟨mq HO_12⟩, ⟨by (with_reducible repeat (first | refine blk_drewN ?_ _ | refine blk_drew ?_ | refine blk_alloc ?_ _)); exact BK249.out⟩, ⟨hq HB⟩⟩
             case round =>
              clear H'; (try clear c7); (try clear c19); (try clear c19b0); (try clear c21); (try clear c21b0); (try clear c23); (try clear c26); (try clear c26b0); (try clear c26b1); (try clear c27); (try clear c27b0); (try clear c29); (try clear hcz11_0); (try clear hcz11_1); (try clear hfz11_0); (try clear hfz11_1); obtain ⟨x12_5, x73_5, rfl, HA, HK5, HO_12, BK249, HB⟩ := hrel; skip
              cases gk with
              | zero => exact absurd HA.out (by simp [impl_least__Road_arrives.l2])
              | succ k5 =>
               have H := HA.out; clear HA; simp only [impl_least__Road_arrives.l2] at H
               by_cases c30 : x73_5 < (l1.length : Int)
               ·
                rw [if_pos c30] at H; have c30b0 := decide_eq_true c30; clear c30; by_cases c31 : 0 ≤ x73_5
                ·
                 rw [if_pos c31] at H; have c31b0 := decide_eq_true c31; clear c31; by_cases c32 : x73_5 < (l1.length : Int)
                 ·
                  rw [if_pos c32] at H; have c32b0 := decide_eq_true c32; clear c32; have H' := A_ H; clear H; have p262 : 0 ≤ (x73_5 : Int) := dq; have q262 : x73_5 < (l1.length : Int) := dq; obtain ⟨ad262, e262, hx262_0, hx262_1, hx262_2⟩ := at_T61 HR1.out x73_5 p262 q262
                  cases e262
                  replace hx262_0 := (HB.out.cell (World.block_lt_of_cell? w _ hx262_0)).trans hx262_0; replace hx262_1 := (HB.out.cell (World.block_lt_of_cell? w _ hx262_1)).trans hx262_1; replace hx262_2 := (HB.out.cell (World.block_lt_of_cell? w _ hx262_2)).trans hx262_2; replace p262 := eq_true p262; replace q262 := eq_true q262; go_wp2_with (first | ((with_reducible refine gate_dst (N := 19) rfl ?_); refine bx (N := 19) #[.int .i64 0, .int .i64 0, .int .i64 0] 61 ?_; intro gb263 hg w33 hbox hb; replace HO_12 := A_ (Mp.below (mq HO_12) hb); have BK263 := A_ (hbox); have GW263 := A_ (bs hg (hq HB) : w.heap.size ≤ gb263); have GE263 := A_ (bs hg (hq HB) : w.heap.size ≤ gb263); replace HB := A_ (below_step (hq HB) hb); have NB249_263 := A_ ((by rw [hg]; exact Nat.ne_of_lt (blk_lt (bq BK249)) : gb249 ≠ gb263)); have NB263_249 := A_ ((by rw [hg]; exact Nat.ne_of_gt (blk_lt (bq BK249)) : gb263 ≠ gb249)); replace BK249 := A_ (blk_below (bq BK249) hb); clear hb hbox hg; have hnb34 := NB263_249.out; have hnc34 := NB249_263.out; have hcz35_0 : w33.cell? ⟨gb263, 0, none⟩ = some (.int .i64 0) := bc BK263 0; have hcz35_1 : w33.cell? ⟨gb263, 1, none⟩ = some (.int .i64 0) := bc BK263 1; have hcz35_2 : w33.cell? ⟨gb263, 2, none⟩ = some (.int .i64 0) := bc BK263 2; have hfz35_0 := blk_frozen BK263.out 0; have hfz35_1 := blk_frozen BK263.out 1; have hfz35_2 := blk_frozen BK263.out 2))
                  go_loopg [20] k5 (fun kq v20 w' => ∃ (x12_6 : List Int) (x20_6 : Int), v20 = .int .i64 x20_6 ∧ Aside0 (impl_least__Road_arrives.l3 kq l1 a3 x12_6 x13_27 x14_1 x45_2 t260 x73_5 x20_6 ji20 x45_2 l1 (l1.length : Int) x73_5 a4_0 a4_1 a0_0 a0_1 ((rd_T61 l1 x73_5).f0) ((rd_T61 l1 x73_5).f1) ((rd_T61 l1 x73_5).f2) = some (r1, r2)) ∧ Aside0 (kq ≤ k5) ∧ Aside0 (Mp w' w.heap.size mb9 x12_6) ∧ Aside0 (w'.heap[gb249]? = some (.cells #[.int .i64 a0_0, .bool a0_1] 27 (0, 0))) ∧ Aside0 (w'.heap[gb263]? = some (.cells #[.int .i64 ((rd_T61 l1 x73_5).f0), .int .i64 ((rd_T61 l1 x73_5).f1), .int .i64 ((rd_T61 l1 x73_5).f2)] 61 (0, 0))) ∧ Aside0 (Below w.heap.size w w'))
                  case atStart => exact ⟨(x12_5), (wrap64 (x14_1 + 1)), rf, H', ⟨Nat.le_refl _⟩, ⟨(Mp.set (a := ⟨gb263, 2, none⟩) (Mp.set (a := ⟨gb263, 1, none⟩) (Mp.set (a := ⟨gb263, 0, none⟩) HO_12.out (Mp.ne_cells HO_12.out BK263.out) (.int .i64 ((rd_T61 l1 x73_5).f0))) (Mp.ne_cells HO_12.out BK263.out) (.int .i64 ((rd_T61 l1 x73_5).f1))) (Mp.ne_cells HO_12.out BK263.out) (.int .i64 ((rd_T61 l1 x73_5).f2)))⟩, ⟨by (with_reducible repeat (first | refine blk_drewN ?_ _ | refine blk_drew ?_ | refine blk_alloc ?_ _)); refine blk_far ?_ NB249_263.out _; (with_reducible repeat (first | refine blk_drewN ?_ _ | refine blk_drew ?_ | refine blk_alloc ?_ _)); refine blk_far ?_ NB249_263.out _; (with_reducible repeat (first | refine blk_drewN ?_ _ | refine blk_drew ?_ | refine blk_alloc ?_ _)); refine blk_far ?_ NB249_263.out _; (with_reducible repeat (first | refine blk_drewN ?_ _ | refine blk_drew ?_ | refine blk_alloc ?_ _)); exact BK249.out⟩, ⟨by (with_reducible repeat (first | refine blk_drewN ?_ _ | refine blk_drew ?_ | refine blk_alloc ?_ _)); refine blk_put (cs := #[.int .i64 ((rd_T61 l1 x73_5).f0), .int .i64 ((rd_T61 l1 x73_5).f1), .int .i64 0]) ?_ 2 _ rfl; (with_reducible repeat (first | refine blk_drewN ?_ _ | refine blk_drew ?_ | refine blk_alloc ?_ _)); refine blk_put (cs := #[.int .i64 ((rd_T61 l1 x73_5).f0), .int .i64 0, .int .i64 0]) ?_ 1 _ rfl; (with_reducible repeat (first | refine blk_drewN ?_ _ | refine blk_drew ?_ | refine blk_alloc ?_ _)); refine blk_put (cs := #[.int .i64 0, .int .i64 0, .int .i64 0]) ?_ 0 _ rfl; (with_reducible repeat (first | refine blk_drewN ?_ _ | refine blk_drew ?_ | refine blk_alloc ?_ _)); exact BK263.out⟩, ⟨hq HB⟩⟩
                  case round =>
                   clear H'; (try clear c7); (try clear c19); (try clear c19b0); (try clear c21); (try clear c21b0); (try clear c23); (try clear c26); (try clear c26b0); (try clear c26b1); (try clear c27); (try clear c27b0); (try clear c29); (try clear c30); (try clear c30b0); (try clear c31); (try clear c31b0); (try clear c32); (try clear c32b0); (try clear hcz11_0); (try clear hcz11_1); (try clear hcz35_0); (try clear hcz35_1); (try clear hcz35_2); (try clear hfz11_0); (try clear hfz11_1); (try clear hfz35_0); (try clear hfz35_1); (try clear hfz35_2); (try clear hx262_0); (try clear hx262_1); (try clear hx262_2); (try clear p262); (try clear q262); obtain ⟨x12_6, x20_6, rfl, HA, HK6, HO_12, BK249, BK263, HB⟩ := hrel; skip
                   cases gk with
                   | zero => exact absurd HA.out (by simp [impl_least__Road_arrives.l3])
                   | succ k6 =>
                    have H := HA.out; clear HA; simp only [impl_least__Road_arrives.l3] at H
                    have HC36 := A_ H; clear H; go_upto_region 19 with (fail)
                    go_cut [99] (fun v99 wc => ∃ (kq : Nat) (x99_35 : Bool), v99 = .bool x99_35 ∧ Aside0 (impl_least__Road_arrives.j6 kq l1 a3 x12_6 x13_27 x14_1 x45_2 t260 x73_5 x20_6 ji20 x45_2 l1 (l1.length : Int) x73_5 x99_35 a4_0 a4_1 a0_0 a0_1 ((rd_T61 l1 x73_5).f0) ((rd_T61 l1 x73_5).f1) ((rd_T61 l1 x73_5).f2) = some (r1, r2)) ∧ Aside0 (kq ≤ k6) ∧ Aside0 (Mp wc w.heap.size mb9 x12_6) ∧ Aside0 (wc.heap[gb249]? = some (.cells #[.int .i64 a0_0, .bool a0_1] 27 (0, 0))) ∧ Aside0 (wc.heap[gb263]? = some (.cells #[.int .i64 ((rd_T61 l1 x73_5).f0), .int .i64 ((rd_T61 l1 x73_5).f1), .int .i64 ((rd_T61 l1 x73_5).f2)] 61 (0, 0))) ∧ Aside0 (Below w.heap.size w wc))
                    case first =>
                     have H := HC36.out; clear HC36; by_cases c37 : x20_6 ≤ a3
                     ·
                      rw [if_pos c37] at H; have c37b0 := decide_eq_true c37; clear c37; (first | rw [c37b0] | (simp only [i64_w, i32_w]; rw [c37b0]) | skip); by_cases c38 : 0 ≤ x73_5
                      ·
                       rw [if_pos c38] at H; have c38b0 := eq_true c38; have c38b1 := decide_eq_true c38; clear c38
                       obtain ⟨ji39, hji39⟩ : ∃ j_ : Int, (shr .i64 x45_2 x73_5) = j_ := ⟨_, rfl⟩
                       replace H : (if (Go.bits .and .i64 (ji39) 1) = 0 then ((impl_Road_steps.f a0_0 a0_1 ((rd_T61 l1 x73_5).f0) ((rd_T61 l1 x73_5).f1) ((rd_T61 l1 x73_5).f2) x14_1 x20_6).bind fun t264 => (impl_least__Road_arrives.j6 k6 l1 a3 x12_6 x13_27 x14_1 x45_2 t260 x73_5 x20_6 ji20 x45_2 l1 (l1.length : Int) x73_5 (decide (t264 ≤ ((rd_T61 l1 x73_5).f1))) a4_0 a4_1 a0_0 a0_1 ((rd_T61 l1 x73_5).f0) ((rd_T61 l1 x73_5).f1) ((rd_T61 l1 x73_5).f2))) else (impl_least__Road_arrives.j6 k6 l1 a3 x12_6 x13_27 x14_1 x45_2 t260 x73_5 x20_6 ji20 x45_2 l1 (l1.length : Int) x73_5 false a4_0 a4_1 a0_0 a0_1 ((rd_T61 l1 x73_5).f0) ((rd_T61 l1 x73_5).f1) ((rd_T61 l1 x73_5).f2))) = some (r1, r2) := by first | (rw [hji39] at H; exact H) | (simp only [hji39] at H ⊢; exact H)
                       have hji39_ : (x45_2 / 2 ^ min x73_5.toNat 64) = ji39 := hji39; have hji39z : x73_5 ≤ 64 → (x45_2 / 2 ^ x73_5.toNat) = ji39 := shr_small hji39; by_cases c40 : (Go.bits .and .i64 (ji39) 1) = 0
                       ·
                        rw [if_pos c40] at H; have c40b0 : ((Go.bits .and .i64 (ji39) 1) == 0) = true := beq_iff_eq.mpr c40; have c40b1 : ((Go.bits .and .i64 (ji39) 1) != 0) = false := bne_eq_false_iff_eq.mpr c40; clear c40; replace H := bm H; obtain ⟨t264, A41, H⟩ := H; have H' := A_ H; clear H; try go_wp2
                        replace HO_12 := A_ (Mp.drew HO_12.out); replace BK249 := A_ (blk_drew BK249.out); replace BK263 := A_ (blk_drew BK263.out); replace HB := A_ (below_drew1 HB.out); refine start_ (n := 20) (S := fun w' => w'.cell? ⟨gb249, 0, none⟩ = some (.int .i64 a0_0) ∧ w'.cell? ⟨gb249, 1, none⟩ = some (.bool a0_1) ∧ w'.cell? ⟨gb263, 0, none⟩ = some (.int .i64 ((rd_T61 l1 x73_5).f0)) ∧ w'.cell? ⟨gb263, 1, none⟩ = some (.int .i64 ((rd_T61 l1 x73_5).f1)) ∧ w'.cell? ⟨gb263, 2, none⟩ = some (.int .i64 ((rd_T61 l1 x73_5).f2))) (ds := []) #[false, false, false, false, false, false, false, false, false, false, false, false, false, false, false, false, false, false, false, false] (by kernel_rfl) rfl rfl ⟨bc BK249 0, bc BK249 1, bc BK263 0, bc BK263 1, bc BK263 2⟩ (fun hHeld => ?_); refine with_tabW impl_least__Road_arrives.tab19 impl_least__Road_arrives.bits19 (fun HT_ HW_ => ?_); generalize wr.drew = w42 at HO_12 BK249 BK263 HB hHeld ⊢; refine puT (i := 0) (N := some 80) HT_ #[true, false, false, false, false, false, false, false, false, false, false, false, false, false, false, false, false, false, false, false] ?_; refine puT (i := 1) (N := some 81) HT_ #[true, true, false, false, false, false, false, false, false, false, false, false, false, false, false, false, false, false, false, false] ?_; refine puT (i := 2) (N := some 82) HT_ #[true, true, true, false, false, false, false, false, false, false, false, false, false, false, false, false, false, false, false, false] ?_; refine puT (i := 3) (N := some 83) HT_ #[true, true, true, true, false, false, false, false, false, false, false, false, false, false, false, false, false, false, false, false] ?_; refine puT (i := 4) (N := some 84) HT_ #[true, true, true, true, true, false, false, false, false, false, false, false, false, false, false, false, false, false, false, false] ?_; refine puT (i := 5) (N := some 85) HT_ #[true, true, true, true, true, true, false, false, false, false, false, false, false, false, false, false, false, false, false, false] ?_; refine puT (i := 6) (N := some 86) HT_ #[true, true, true, true, true, true, true, false, false, false, false, false, false, false, false, false, false, false, false, false] ?_; refine puT (i := 7) (N := some 87) HT_ #[true, true, true, true, true, true, true, true, false, false, false, false, false, false, false, false, false, false, false, false] ?_; refine puT (i := 8) (N := some 88) HT_ #[true, true, true, true, true, true, true, true, true, false, false, false, false, false, false, false, false, false, false, false] ?_; refine puT (i := 9) (N := some 89) HT_ #[true, true, true, true, true, true, true, true, true, true, false, false, false, false, false, false, false, false, false, false] ?_; refine puT (i := 10) (N := some 90) HT_ #[true, true, true, true, true, true, true, true, true, true, true, false, false, false, false, false, false, false, false, false] ?_; refine puT (i := 13) (N := some 93) HT_ #[true, true, true, true, true, true, true, true, true, true, true, false, false, true, false, false, false, false, false, false] ?_; refine puT (i := 14) (N := some 94) HT_ #[true, true, true, true, true, true, true, true, true, true, true, false, false, true, true, false, false, false, false, false] ?_; refine puT (i := 16) (N := some 96) HT_ #[true, true, true, true, true, true, true, true, true, true, true, false, false, true, true, false, true, false, false, false] ?_; refine tkT (i := 11) (N := some 91) HT_ HW_ hHeld #[true, true, true, true, true, true, true, true, true, true, true, true, false, true, true, false, true, false, false, false] ?_; refine tkT (i := 12) (N := some 92) HT_ HW_ hHeld #[true, true, true, true, true, true, true, true, true, true, true, true, true, true, true, false, true, false, false, false] ?_; refine tkT (i := 17) (N := some 97) HT_ HW_ hHeld #[true, true, true, true, true, true, true, true, true, true, true, true, true, true, true, false, true, true, false, false] ?_
                        refine onT (i := 15) (N := some 95) HT_ #[true, true, true, true, true, true, true, true, true, true, true, true, true, true, true, true, true, true, false, false] (fun K hK => ?_); refine go_ Try.func41 #[.agg #[.int .i64 a0_0, .bool a0_1], .agg #[.int .i64 ((rd_T61 l1 x73_5).f0), .int .i64 ((rd_T61 l1 x73_5).f1), .int .i64 ((rd_T61 l1 x73_5).f2)], .int .i64 x14_1, .int .i64 x20_6] ?_; with_reducible refine (impl_Road_steps.calls a0_0 a0_1 ((rd_T61 l1 x73_5).f0) ((rd_T61 l1 x73_5).f1) ((rd_T61 l1 x73_5).f2) x14_1 x20_6 t264 _ A41.out).mono ?_
                        rintro e w43 ⟨rfl, hb⟩; refine ⟨_, rfl, ?_⟩; replace HO_12 := A_ (Mp.below (mq HO_12) hb); replace BK249 := A_ (blk_below (bq BK249) hb); replace BK263 := A_ (blk_below (bq BK263) hb); replace HB := A_ (below_step (hq HB) hb); clear hb; refine hK.out _ _ ⟨bc BK249 0, bc BK249 1, bc BK263 0, bc BK263 1, bc BK263 2⟩ (fun hHeld => ?_); clear hK K; refine nq_ (some 95) ?_; refine puT (i := 18) (N := some 98) HT_ #[true, true, true, true, true, true, true, true, true, true, true, true, true, true, true, true, true, true, true, false] ?_; refine puT (i := 19) (N := some 99) HT_ #[true, true, true, true, true, true, true, true, true, true, true, true, true, true, true, true, true, true, true, true] ?_; refine done_ (done_of HT_.out (by kernel_rfl)) ?_; try go_wp2
                        go_meet
                        case rel => exact ⟨_, (decide (t264 ≤ ((rd_T61 l1 x73_5).f1))), rf, H', ⟨by have := HK1.out; have := HK2.out; have := HJ23.out; have := HJ27.out; have := HK5.out; have := HK6.out; first | omega | exact Nat.le_refl _⟩, ⟨mq HO_12⟩, ⟨by (with_reducible repeat (first | refine blk_drewN ?_ _ | refine blk_drew ?_ | refine blk_alloc ?_ _)); exact BK249.out⟩, ⟨by (with_reducible repeat (first | refine blk_drewN ?_ _ | refine blk_drew ?_ | refine blk_alloc ?_ _)); exact BK263.out⟩, ⟨hq HB⟩⟩
                       ·
                        rw [if_neg c40] at H; have c40b0 : ((Go.bits .and .i64 (ji39) 1) == 0) = false := beq_eq_false_iff_ne.mpr c40; have c40b1 : ((Go.bits .and .i64 (ji39) 1) != 0) = true := bne_iff_ne.mpr c40; have H' := A_ H; clear H; try go_wp2
                        replace HO_12 := A_ (Mp.drew HO_12.out); replace BK249 := A_ (blk_drew BK249.out); replace BK263 := A_ (blk_drew BK263.out); replace HB := A_ (below_drew1 HB.out); refine start_ (n := 20) (S := fun w' => True) (ds := []) #[false, false, false, false, false, false, false, false, false, false, false, false, false, false, false, false, false, false, false, false] (by kernel_rfl) rfl rfl trivial (fun hHeld => ?_); refine with_tabW impl_least__Road_arrives.tab19 impl_least__Road_arrives.bits19 (fun HT_ HW_ => ?_); generalize wr.drew = w44 at HO_12 BK249 BK263 HB hHeld ⊢; refine puT (i := 0) (N := some 80) HT_ #[true, false, false, false, false, false, false, false, false, false, false, false, false, false, false, false, false, false, false, false] ?_; refine puT (i := 1) (N := some 81) HT_ #[true, true, false, false, false, false, false, false, false, false, false, false, false, false, false, false, false, false, false, false] ?_; refine puT (i := 2) (N := some 82) HT_ #[true, true, true, false, false, false, false, false, false, false, false, false, false, false, false, false, false, false, false, false] ?_; refine puT (i := 3) (N := some 83) HT_ #[true, true, true, true, false, false, false, false, false, false, false, false, false, false, false, false, false, false, false, false] ?_; refine puT (i := 4) (N := some 84) HT_ #[true, true, true, true, true, false, false, false, false, false, false, false, false, false, false, false, false, false, false, false] ?_; refine puT (i := 5) (N := some 85) HT_ #[true, true, true, true, true, true, false, false, false, false, false, false, false, false, false, false, false, false, false, false] ?_; refine puT (i := 6) (N := some 86) HT_ #[true, true, true, true, true, true, true, false, false, false, false, false, false, false, false, false, false, false, false, false] ?_; refine puT (i := 7) (N := some 87) HT_ #[true, true, true, true, true, true, true, true, false, false, false, false, false, false, false, false, false, false, false, false] ?_; refine puT (i := 8) (N := some 88) HT_ #[true, true, true, true, true, true, true, true, true, false, false, false, false, false, false, false, false, false, false, false] ?_; refine puT (i := 9) (N := some 89) HT_ #[true, true, true, true, true, true, true, true, true, true, false, false, false, false, false, false, false, false, false, false] ?_; refine puT (i := 10) (N := some 90) HT_ #[true, true, true, true, true, true, true, true, true, true, true, false, false, false, false, false, false, false, false, false] ?_; refine pzT (i := 11) (N := some 91) HT_ #[true, true, true, true, true, true, true, true, true, true, true, true, false, false, false, false, false, false, false, false] ?_; refine pzT (i := 12) (N := some 92) HT_ #[true, true, true, true, true, true, true, true, true, true, true, true, true, false, false, false, false, false, false, false] ?_; refine pzT (i := 13) (N := some 93) HT_ #[true, true, true, true, true, true, true, true, true, true, true, true, true, true, false, false, false, false, false, false] ?_; refine pzT (i := 14) (N := some 94) HT_ #[true, true, true, true, true, true, true, true, true, true, true, true, true, true, true, false, false, false, false, false] ?_; refine pzT (i := 15) (N := some 95) HT_ #[true, true, true, true, true, true, true, true, true, true, true, true, true, true, true, true, false, false, false, false] ?_; refine pzT (i := 16) (N := some 96) HT_ #[true, true, true, true, true, true, true, true, true, true, true, true, true, true, true, true, true, false, false, false] ?_; refine pzT (i := 17) (N := some 97) HT_ #[true, true, true, true, true, true, true, true, true, true, true, true, true, true, true, true, true, true, false, false] ?_; refine pzT (i := 18) (N := some 98) HT_ #[true, true, true, true, true, true, true, true, true, true, true, true, true, true, true, true, true, true, true, false] ?_
                        refine puT (i := 19) (N := some 99) HT_ #[true, true, true, true, true, true, true, true, true, true, true, true, true, true, true, true, true, true, true, true] ?_; refine done_ (done_of HT_.out (by kernel_rfl)) ?_; try go_wp2
                        go_meet
                        case rel => exact ⟨_, (false), rf, H', ⟨by have := HK1.out; have := HK2.out; have := HJ23.out; have := HJ27.out; have := HK5.out; have := HK6.out; first | omega | exact Nat.le_refl _⟩, ⟨mq HO_12⟩, ⟨by (with_reducible repeat (first | refine blk_drewN ?_ _ | refine blk_drew ?_ | refine blk_alloc ?_ _)); exact BK249.out⟩, ⟨by (with_reducible repeat (first | refine blk_drewN ?_ _ | refine blk_drew ?_ | refine blk_alloc ?_ _)); exact BK263.out⟩, ⟨hq HB⟩⟩
                      ·
                       rw [if_neg c38] at H; exact absurd H (by simp)
                     ·
                      rw [if_neg c37] at H; have c37b0 := decide_eq_false c37; clear c37; (first | rw [c37b0] | (simp only [i64_w, i32_w]; rw [c37b0]) | skip); have H' := A_ H; clear H; try go_wp2
                      replace HO_12 := A_ (Mp.drew HO_12.out); replace BK249 := A_ (blk_drew BK249.out); replace BK263 := A_ (blk_drew BK263.out); replace HB := A_ (below_drew1 HB.out); refine start_ (n := 20) (S := fun w' => True) (ds := []) #[false, false, false, false, false, false, false, false, false, false, false, false, false, false, false, false, false, false, false, false] (by kernel_rfl) rfl rfl trivial (fun hHeld => ?_); refine with_tabW impl_least__Road_arrives.tab19 impl_least__Road_arrives.bits19 (fun HT_ HW_ => ?_); generalize wr.drew = w45 at HO_12 BK249 BK263 HB hHeld ⊢; refine puT (i := 0) (N := some 80) HT_ #[true, false, false, false, false, false, false, false, false, false, false, false, false, false, false, false, false, false, false, false] ?_; refine puT (i := 1) (N := some 81) HT_ #[true, true, false, false, false, false, false, false, false, false, false, false, false, false, false, false, false, false, false, false] ?_; refine puT (i := 2) (N := some 82) HT_ #[true, true, true, false, false, false, false, false, false, false, false, false, false, false, false, false, false, false, false, false] ?_; refine puT (i := 3) (N := some 83) HT_ #[true, true, true, true, false, false, false, false, false, false, false, false, false, false, false, false, false, false, false, false] ?_; refine pzT (i := 4) (N := some 84) HT_ #[true, true, true, true, true, false, false, false, false, false, false, false, false, false, false, false, false, false, false, false] ?_; refine pzT (i := 5) (N := some 85) HT_ #[true, true, true, true, true, true, false, false, false, false, false, false, false, false, false, false, false, false, false, false] ?_; refine pzT (i := 6) (N := some 86) HT_ #[true, true, true, true, true, true, true, false, false, false, false, false, false, false, false, false, false, false, false, false] ?_; refine pzT (i := 7) (N := some 87) HT_ #[true, true, true, true, true, true, true, true, false, false, false, false, false, false, false, false, false, false, false, false] ?_; refine pzT (i := 8) (N := some 88) HT_ #[true, true, true, true, true, true, true, true, true, false, false, false, false, false, false, false, false, false, false, false] ?_; refine puT (i := 9) (N := some 89) HT_ #[true, true, true, true, true, true, true, true, true, true, false, false, false, false, false, false, false, false, false, false] ?_; refine puT (i := 10) (N := some 90) HT_ #[true, true, true, true, true, true, true, true, true, true, true, false, false, false, false, false, false, false, false, false] ?_; refine pzT (i := 11) (N := some 91) HT_ #[true, true, true, true, true, true, true, true, true, true, true, true, false, false, false, false, false, false, false, false] ?_; refine pzT (i := 12) (N := some 92) HT_ #[true, true, true, true, true, true, true, true, true, true, true, true, true, false, false, false, false, false, false, false] ?_; refine pzT (i := 13) (N := some 93) HT_ #[true, true, true, true, true, true, true, true, true, true, true, true, true, true, false, false, false, false, false, false] ?_; refine pzT (i := 14) (N := some 94) HT_ #[true, true, true, true, true, true, true, true, true, true, true, true, true, true, true, false, false, false, false, false] ?_; refine pzT (i := 15) (N := some 95) HT_ #[true, true, true, true, true, true, true, true, true, true, true, true, true, true, true, true, false, false, false, false] ?_; refine pzT (i := 16) (N := some 96) HT_ #[true, true, true, true, true, true, true, true, true, true, true, true, true, true, true, true, true, false, false, false] ?_; refine pzT (i := 17) (N := some 97) HT_ #[true, true, true, true, true, true, true, true, true, true, true, true, true, true, true, true, true, true, false, false] ?_; refine pzT (i := 18) (N := some 98) HT_ #[true, true, true, true, true, true, true, true, true, true, true, true, true, true, true, true, true, true, true, false] ?_
                      refine puT (i := 19) (N := some 99) HT_ #[true, true, true, true, true, true, true, true, true, true, true, true, true, true, true, true, true, true, true, true] ?_; refine done_ (done_of HT_.out (by kernel_rfl)) ?_; try go_wp2
                      go_meet
                      case rel => exact ⟨_, (false), rf, H', ⟨by have := HK1.out; have := HK2.out; have := HJ23.out; have := HJ27.out; have := HK5.out; have := HK6.out; first | omega | exact Nat.le_refl _⟩, ⟨mq HO_12⟩, ⟨by (with_reducible repeat (first | refine blk_drewN ?_ _ | refine blk_drew ?_ | refine blk_alloc ?_ _)); exact BK249.out⟩, ⟨by (with_reducible repeat (first | refine blk_drewN ?_ _ | refine blk_drew ?_ | refine blk_alloc ?_ _)); exact BK263.out⟩, ⟨hq HB⟩⟩
                    case rest =>
                     clear HC36; (try clear c7); (try clear c19); (try clear c19b0); (try clear c21); (try clear c21b0); (try clear c23); (try clear c26); (try clear c26b0); (try clear c26b1); (try clear c27); (try clear c27b0); (try clear c29); (try clear c30); (try clear c30b0); (try clear c31); (try clear c31b0); (try clear c32); (try clear c32b0); (try clear c37); (try clear c37b0); (try clear c38); (try clear c38b0); (try clear c38b1); (try clear c40); (try clear c40b0); (try clear c40b1); (try clear hcz11_0); (try clear hcz11_1); (try clear hcz35_0); (try clear hcz35_1); (try clear hcz35_2); (try clear hfz11_0); (try clear hfz11_1); (try clear hfz35_0); (try clear hfz35_1); (try clear hfz35_2); (try clear hx262_0); (try clear hx262_1); (try clear hx262_2); (try clear p262); (try clear q262); obtain ⟨kq, x99_35, rfl, HA, HJ35, HO_12, BK249, BK263, HB⟩ := hcut
                     cases kq with
                     | zero => exact absurd HA.out (by simp [impl_least__Road_arrives.j6])
                     | succ kj35 =>
                      have H := HA.out; clear HA; simp only [impl_least__Road_arrives.j6] at H
                      by_cases c46 : x99_35 = true
                      ·
                       subst c46
                       have H1 : (if 0 ≤ x73_5 then ((impl_Road_arrives.f a4_0 a4_1 ((rd_T61 l1 x73_5).f0) ((rd_T61 l1 x73_5).f1) ((rd_T61 l1 x73_5).f2) t260 x14_1 x20_6).bind fun t265 => ((impl_mget.f kj35 x12_6 (Go.bits .or .i64 x45_2 (shl .i64 1 x73_5)) x20_6).bind fun bt267 => (if bt267.2 = true then (if t265 < bt267.1 then ((impl_mput.f kj35 x12_6 (Go.bits .or .i64 x45_2 (shl .i64 1 x73_5)) x20_6 t265).bind fun t269 => (impl_least__Road_arrives.l3 kj35 l1 a3 t269 x13_27 x14_1 x45_2 t260 x73_5 (wrap64 (x20_6 + 1)) ji20 x45_2 l1 (l1.length : Int) x73_5 a4_0 a4_1 a0_0 a0_1 ((rd_T61 l1 x73_5).f0) ((rd_T61 l1 x73_5).f1) ((rd_T61 l1 x73_5).f2))) else (impl_least__Road_arrives.l3 kj35 l1 a3 x12_6 x13_27 x14_1 x45_2 t260 x73_5 (wrap64 (x20_6 + 1)) ji20 x45_2 l1 (l1.length : Int) x73_5 a4_0 a4_1 a0_0 a0_1 ((rd_T61 l1 x73_5).f0) ((rd_T61 l1 x73_5).f1) ((rd_T61 l1 x73_5).f2))) else ((impl_mput.f kj35 x12_6 (Go.bits .or .i64 x45_2 (shl .i64 1 x73_5)) x20_6 t265).bind fun t270 => (impl_least__Road_arrives.l3 kj35 l1 a3 t270 x13_27 x14_1 x45_2 t260 x73_5 (wrap64 (x20_6 + 1)) ji20 x45_2 l1 (l1.length : Int) x73_5 a4_0 a4_1 a0_0 a0_1 ((rd_T61 l1 x73_5).f0) ((rd_T61 l1 x73_5).f1) ((rd_T61 l1 x73_5).f2)))))) else (none)) = some (r1, r2) := by rw [if_pos rfl] at H; exact H
                       clear H; have H := H1; clear H1; by_cases c47 : 0 ≤ x73_5
                       ·
                        rw [if_pos c47] at H; have c47b0 := eq_true c47; have c47b1 := decide_eq_true c47; clear c47
                        obtain ⟨ji48, hji48⟩ : ∃ j_ : Int, (shl .i64 1 x73_5) = j_ := ⟨_, rfl⟩
                        replace H : ((impl_Road_arrives.f a4_0 a4_1 ((rd_T61 l1 x73_5).f0) ((rd_T61 l1 x73_5).f1) ((rd_T61 l1 x73_5).f2) t260 x14_1 x20_6).bind fun t265 => ((impl_mget.f kj35 x12_6 (Go.bits .or .i64 x45_2 (ji48)) x20_6).bind fun bt267 => (if bt267.2 = true then (if t265 < bt267.1 then ((impl_mput.f kj35 x12_6 (Go.bits .or .i64 x45_2 (ji48)) x20_6 t265).bind fun t269 => (impl_least__Road_arrives.l3 kj35 l1 a3 t269 x13_27 x14_1 x45_2 t260 x73_5 (wrap64 (x20_6 + 1)) ji20 x45_2 l1 (l1.length : Int) x73_5 a4_0 a4_1 a0_0 a0_1 ((rd_T61 l1 x73_5).f0) ((rd_T61 l1 x73_5).f1) ((rd_T61 l1 x73_5).f2))) else (impl_least__Road_arrives.l3 kj35 l1 a3 x12_6 x13_27 x14_1 x45_2 t260 x73_5 (wrap64 (x20_6 + 1)) ji20 x45_2 l1 (l1.length : Int) x73_5 a4_0 a4_1 a0_0 a0_1 ((rd_T61 l1 x73_5).f0) ((rd_T61 l1 x73_5).f1) ((rd_T61 l1 x73_5).f2))) else ((impl_mput.f kj35 x12_6 (Go.bits .or .i64 x45_2 (ji48)) x20_6 t265).bind fun t270 => (impl_least__Road_arrives.l3 kj35 l1 a3 t270 x13_27 x14_1 x45_2 t260 x73_5 (wrap64 (x20_6 + 1)) ji20 x45_2 l1 (l1.length : Int) x73_5 a4_0 a4_1 a0_0 a0_1 ((rd_T61 l1 x73_5).f0) ((rd_T61 l1 x73_5).f1) ((rd_T61 l1 x73_5).f2)))))) = some (r1, r2) := by first | (rw [hji48] at H; exact H) | (simp only [hji48] at H ⊢; exact H)
                        have hji48_ : (IntKind.i64.wrap (1 * 2 ^ min x73_5.toNat 64)) = ji48 := hji48; have hji48z : x73_5 ≤ 64 → (IntKind.i64.wrap (1 * 2 ^ x73_5.toNat)) = ji48 := shl_small hji48
                        have hji48u : (IntKind.i64.wrap (2 ^ min x73_5.toNat 64)) = ji48 := by have h_ := hji48_; rw [Int.one_mul] at h_; exact h_
                        have hji48v : x73_5 ≤ 64 → (IntKind.i64.wrap (2 ^ x73_5.toNat)) = ji48 := fun hle_ => by have h_ := hji48z hle_; rw [Int.one_mul] at h_; exact h_
                        have hji48y : (wrap64 (1 * 2 ^ min x73_5.toNat 64)) = ji48 := (i64_w _).symm.trans hji48_
                        have hji48x : x73_5 ≤ 64 → (wrap64 (1 * 2 ^ x73_5.toNat)) = ji48 := fun h_ => (i64_w _).symm.trans (hji48z h_)
                        replace H := bm H; obtain ⟨t265, A49, H⟩ := H; replace H := bm H; obtain ⟨⟨t267, t268⟩, A50, H⟩ := H; (try dsimp only at H); by_cases c51 : t268 = true
                        ·
                         subst c51
                         have H1 : (if t265 < t267 then ((impl_mput.f kj35 x12_6 (Go.bits .or .i64 x45_2 (ji48)) x20_6 t265).bind fun t269 => (impl_least__Road_arrives.l3 kj35 l1 a3 t269 x13_27 x14_1 x45_2 t260 x73_5 (wrap64 (x20_6 + 1)) ji20 x45_2 l1 (l1.length : Int) x73_5 a4_0 a4_1 a0_0 a0_1 ((rd_T61 l1 x73_5).f0) ((rd_T61 l1 x73_5).f1) ((rd_T61 l1 x73_5).f2))) else (impl_least__Road_arrives.l3 kj35 l1 a3 x12_6 x13_27 x14_1 x45_2 t260 x73_5 (wrap64 (x20_6 + 1)) ji20 x45_2 l1 (l1.length : Int) x73_5 a4_0 a4_1 a0_0 a0_1 ((rd_T61 l1 x73_5).f0) ((rd_T61 l1 x73_5).f1) ((rd_T61 l1 x73_5).f2))) = some (r1, r2) := by rw [if_pos rfl] at H; exact H
                         clear H; have H := H1; clear H1; by_cases c52 : t265 < t267
                         ·
                          rw [if_pos c52] at H; have c52b0 := decide_eq_true c52; clear c52; replace H := bm H; obtain ⟨t269, A53, H⟩ := H; have H' := A_ H; clear H; try go_wp2
                          replace HO_12 := A_ (Mp.drew HO_12.out); replace BK249 := A_ (blk_drew BK249.out); replace BK263 := A_ (blk_drew BK263.out); replace HB := A_ (below_drew1 HB.out); refine start_ (n := 15) (S := fun w' => w'.cell? ⟨gb263, 0, none⟩ = some (.int .i64 ((rd_T61 l1 x73_5).f0)) ∧ w'.cell? ⟨gb263, 1, none⟩ = some (.int .i64 ((rd_T61 l1 x73_5).f1)) ∧ w'.cell? ⟨gb263, 2, none⟩ = some (.int .i64 ((rd_T61 l1 x73_5).f2))) (ds := []) #[false, false, false, false, false, false, false, false, false, false, false, false, false, false, false] (by kernel_rfl) rfl rfl ⟨bc BK263 0, bc BK263 1, bc BK263 2⟩ (fun hHeld => ?_); refine with_tabW impl_least__Road_arrives.tab21 impl_least__Road_arrives.bits21 (fun HT_ HW_ => ?_); generalize wc.drew = w54 at HO_12 BK249 BK263 HB hHeld ⊢; refine puT (i := 0) (N := some 102) HT_ #[true, false, false, false, false, false, false, false, false, false, false, false, false, false, false] ?_; refine puT (i := 1) (N := some 103) HT_ #[true, true, false, false, false, false, false, false, false, false, false, false, false, false, false] ?_; refine puT (i := 2) (N := some 104) HT_ #[true, true, true, false, false, false, false, false, false, false, false, false, false, false, false] ?_; refine puT (i := 3) (N := some 105) HT_ #[true, true, true, true, false, false, false, false, false, false, false, false, false, false, false] ?_; refine puT (i := 4) (N := some 106) HT_ #[true, true, true, true, true, false, false, false, false, false, false, false, false, false, false] ?_; refine puT (i := 5) (N := some 107) HT_ #[true, true, true, true, true, true, false, false, false, false, false, false, false, false, false] ?_; refine puT (i := 6) (N := some 108) HT_ #[true, true, true, true, true, true, true, false, false, false, false, false, false, false, false] ?_; refine puT (i := 8) (N := some 110) HT_ #[true, true, true, true, true, true, true, false, true, false, false, false, false, false, false] ?_; refine puT (i := 9) (N := some 111) HT_ #[true, true, true, true, true, true, true, false, true, true, false, false, false, false, false] ?_; refine puT (i := 10) (N := some 112) HT_ #[true, true, true, true, true, true, true, false, true, true, true, false, false, false, false] ?_; refine tkT (i := 7) (N := some 109) HT_ HW_ hHeld #[true, true, true, true, true, true, true, true, true, true, true, false, false, false, false] ?_; refine join_ (σ := Nat) 2 #[true, true, true, true, true, true, true, true, true, true, true, true, true, false, false] (fun s_ => [(113, .int .i64 t265), (21, .pointer (some ⟨s_, 0, none⟩))]) (fun s_ w' => (w'.cell? ⟨gb263, 0, none⟩ = some (.int .i64 ((rd_T61 l1 x73_5).f0)) ∧ w'.cell? ⟨gb263, 1, none⟩ = some (.int .i64 ((rd_T61 l1 x73_5).f1)) ∧ w'.cell? ⟨gb263, 2, none⟩ = some (.int .i64 ((rd_T61 l1 x73_5).f2))) ∧ (Mp w' w.heap.size mb9 x12_6) ∧ (w'.heap[gb249]? = some (.cells #[.int .i64 a0_0, .bool a0_1] 27 (0, 0))) ∧ (w'.heap[gb263]? = some (.cells #[.int .i64 ((rd_T61 l1 x73_5).f0), .int .i64 ((rd_T61 l1 x73_5).f1), .int .i64 ((rd_T61 l1 x73_5).f2)] 61 (0, 0))) ∧ (w'.heap[s_]? = some (.cells #[.int .i64 0, .int .i64 0] 87 (0, 0))) ∧ (w.heap.size ≤ s_) ∧ (w.heap.size ≤ s_) ∧ (gb249 ≠ s_) ∧ (s_ ≠ gb249) ∧ (gb263 ≠ s_) ∧ (s_ ≠ gb263) ∧ (Below w.heap.size w w')) ?_ ?_
                          rotate_left
                          ·
                           intro hCont; refine two_ (i := 11) (j := 12) (Ni := some 113) (Nj := some 21) #[true, true, true, true, true, true, true, true, true, true, true, true, false, false, false] #[true, true, true, true, true, true, true, true, true, true, true, false, true, false, false] rfl rfl rfl rfl (two_of HT_.out (by kernel_rfl)) (by decide) (by decide) (fun K hK => ?_) (fun K hK => ?_)
                           ·
                            refine goV_ Try.func43 #[.agg #[.int .i64 a4_0, .bool a4_1], .agg #[.int .i64 ((rd_T61 l1 x73_5).f0), .int .i64 ((rd_T61 l1 x73_5).f1), .int .i64 ((rd_T61 l1 x73_5).f2)], .int .i64 t260, .int .i64 x14_1, .int .i64 x20_6] ?_; with_reducible refine (impl_Road_arrives.calls a4_0 a4_1 ((rd_T61 l1 x73_5).f0) ((rd_T61 l1 x73_5).f1) ((rd_T61 l1 x73_5).f2) t260 x14_1 x20_6 t265 _ A49.out).mono ?_
                            rintro e w55 ⟨rfl, hb⟩; refine ⟨_, rfl, ?_⟩; replace HO_12 := A_ (Mp.below (mq HO_12) hb); replace BK249 := A_ (blk_below (bq BK249) hb); replace BK263 := A_ (blk_below (bq BK263) hb); replace HB := A_ (below_step (hq HB) hb); clear hb; refine hK.out _ _ ⟨bc BK263 0, bc BK263 1, bc BK263 2⟩ (fun hHeld => ?_); clear hK K; refine nq_ (some 113) ?_; refine onT (i := 12) (N := some 21) HT_ #[true, true, true, true, true, true, true, true, true, true, true, true, true, false, false] (fun K hK => ?_); refine box_step ?hg (N := 21) ?hd (cs := #[.int .i64 0, .int .i64 0]) (t := 87) ?hr ?_; (case hd => rfl); (case hg => rfl); (case hr => first | (go_simp; done) | (go_simp; rfl)); intro gb266 hg w56 hbox hb; have n0_ := A_ (Mp.below (mq HO_12) hb); have n1_ := A_ (blk_below (bq BK249) hb); have n2_ := A_ (blk_below (bq BK263) hb); have n3_ := A_ (below_step (hq HB) hb); have n4_ := A_ (hbox); have n5_ := A_ (bs hg (hq HB) : w.heap.size ≤ gb266); have n6_ := A_ (bs hg (hq HB) : w.heap.size ≤ gb266); have n7_ := A_ ((by rw [hg]; exact Nat.ne_of_lt (blk_lt (bq BK249)) : gb249 ≠ gb266)); have n8_ := A_ ((by rw [hg]; exact Nat.ne_of_gt (blk_lt (bq BK249)) : gb266 ≠ gb249)); have n9_ := A_ ((by rw [hg]; exact Nat.ne_of_lt (blk_lt (bq BK263)) : gb263 ≠ gb266)); have n10_ := A_ ((by rw [hg]; exact Nat.ne_of_gt (blk_lt (bq BK263)) : gb266 ≠ gb263)); clear HO_12 BK249 BK263 HB; have HO_12 := n0_; have BK249 := n1_; have BK263 := n2_; have HB := n3_; have BK266 := n4_; have GW266 := n5_; have GE266 := n6_; have NB249_266 := n7_; have NB266_249 := n8_; have NB263_266 := n9_; have NB266_263 := n10_; clear n0_ n1_ n2_ n3_ n4_ n5_ n6_ n7_ n8_ n9_ n10_ hb hbox hg; refine hK.out _ _ ⟨bc BK263 0, bc BK263 1, bc BK263 2⟩ (fun hHeld => ?_); clear hK K; refine nq_ (some 21) ?_; exact norm_ (by simp only [putAll, Act.put, List.setIfInBounds_toArray, List.set_cons_zero, List.set_cons_succ]) (hCont (gb266) _ ⟨hHeld, (mq HO_12), (bq BK249), (bq BK263), (bq BK266), GW266.out, GE266.out, NB249_266.out, NB266_249.out, NB263_266.out, NB266_263.out, (hq HB)⟩)
                           ·
                            refine box_step ?hg (N := 21) ?hd (cs := #[.int .i64 0, .int .i64 0]) (t := 87) ?hr ?_; (case hd => rfl); (case hg => rfl); (case hr => first | (go_simp; done) | (go_simp; rfl)); intro gb266 hg w55 hbox hb; have n0_ := A_ (Mp.below (mq HO_12) hb); have n1_ := A_ (blk_below (bq BK249) hb); have n2_ := A_ (blk_below (bq BK263) hb); have n3_ := A_ (below_step (hq HB) hb); have n4_ := A_ (hbox); have n5_ := A_ (bs hg (hq HB) : w.heap.size ≤ gb266); have n6_ := A_ (bs hg (hq HB) : w.heap.size ≤ gb266); have n7_ := A_ ((by rw [hg]; exact Nat.ne_of_lt (blk_lt (bq BK249)) : gb249 ≠ gb266)); have n8_ := A_ ((by rw [hg]; exact Nat.ne_of_gt (blk_lt (bq BK249)) : gb266 ≠ gb249)); have n9_ := A_ ((by rw [hg]; exact Nat.ne_of_lt (blk_lt (bq BK263)) : gb263 ≠ gb266)); have n10_ := A_ ((by rw [hg]; exact Nat.ne_of_gt (blk_lt (bq BK263)) : gb266 ≠ gb263)); clear HO_12 BK249 BK263 HB; have HO_12 := n0_; have BK249 := n1_; have BK263 := n2_; have HB := n3_; have BK266 := n4_; have GW266 := n5_; have GE266 := n6_; have NB249_266 := n7_; have NB266_249 := n8_; have NB263_266 := n9_; have NB266_263 := n10_; clear n0_ n1_ n2_ n3_ n4_ n5_ n6_ n7_ n8_ n9_ n10_ hb hbox hg; refine hK.out _ _ ⟨bc BK263 0, bc BK263 1, bc BK263 2⟩ (fun hHeld => ?_); clear hK K; refine nq_ (some 21) ?_; refine onT (i := 11) (N := some 113) HT_ #[true, true, true, true, true, true, true, true, true, true, true, true, true, false, false] (fun K hK => ?_); refine goV_ Try.func43 #[.agg #[.int .i64 a4_0, .bool a4_1], .agg #[.int .i64 ((rd_T61 l1 x73_5).f0), .int .i64 ((rd_T61 l1 x73_5).f1), .int .i64 ((rd_T61 l1 x73_5).f2)], .int .i64 t260, .int .i64 x14_1, .int .i64 x20_6] ?_; with_reducible refine (impl_Road_arrives.calls a4_0 a4_1 ((rd_T61 l1 x73_5).f0) ((rd_T61 l1 x73_5).f1) ((rd_T61 l1 x73_5).f2) t260 x14_1 x20_6 t265 _ A49.out).mono ?_
                            rintro e w56 ⟨rfl, hb⟩; refine ⟨_, rfl, ?_⟩; replace HO_12 := A_ (Mp.below (mq HO_12) hb); replace BK249 := A_ (blk_below (bq BK249) hb); replace BK263 := A_ (blk_below (bq BK263) hb); replace BK266 := A_ (blk_below (bq BK266) hb); replace HB := A_ (below_step (hq HB) hb); clear hb; refine hK.out _ _ ⟨bc BK263 0, bc BK263 1, bc BK263 2⟩ (fun hHeld => ?_); clear hK K; refine nq_ (some 113) ?_; exact norm_ (by simp only [putAll, Act.put, List.setIfInBounds_toArray, List.set_cons_zero, List.set_cons_succ]) (hCont (gb266) _ ⟨hHeld, (mq HO_12), (bq BK249), (bq BK263), (bq BK266), GW266.out, GE266.out, NB249_266.out, NB266_249.out, NB263_266.out, NB266_263.out, (hq HB)⟩)
                          rintro gb266 w57 ⟨hS_, h0_, h1_, h2_, h3_, h4_, h5_, h6_, h7_, h8_, h9_, h10_⟩
                          have n0_ : Aside0 (Mp w57 w.heap.size mb9 x12_6) := ⟨h0_⟩
                          have n1_ : Aside0 (w57.heap[gb249]? = some (.cells #[.int .i64 a0_0, .bool a0_1] 27 (0, 0))) := ⟨h1_⟩
                          have n2_ : Aside0 (w57.heap[gb263]? = some (.cells #[.int .i64 ((rd_T61 l1 x73_5).f0), .int .i64 ((rd_T61 l1 x73_5).f1), .int .i64 ((rd_T61 l1 x73_5).f2)] 61 (0, 0))) := ⟨h2_⟩
                          have n3_ : Aside0 (w57.heap[gb266]? = some (.cells #[.int .i64 0, .int .i64 0] 87 (0, 0))) := ⟨h3_⟩
                          have n4_ : Aside0 (w.heap.size ≤ gb266) := ⟨h4_⟩
                          have n5_ : Aside0 (w.heap.size ≤ gb266) := ⟨h5_⟩
                          have n6_ : Aside0 (gb249 ≠ gb266) := ⟨h6_⟩
                          have n7_ : Aside0 (gb266 ≠ gb249) := ⟨h7_⟩
                          have n8_ : Aside0 (gb263 ≠ gb266) := ⟨h8_⟩
                          have n9_ : Aside0 (gb266 ≠ gb263) := ⟨h9_⟩
                          have n10_ : Aside0 (Below w.heap.size w w57) := ⟨h10_⟩
                          clear HO_12 BK249 BK263 HB h0_ h1_ h2_ h3_ h4_ h5_ h6_ h7_ h8_ h9_ h10_; have HO_12 := n0_; have BK249 := n1_; have BK263 := n2_; have BK266 := n3_; have GW266 := n4_; have GE266 := n5_; have NB249_266 := n6_; have NB266_249 := n7_; have NB263_266 := n8_; have NB266_263 := n9_; have HB := n10_; clear n0_ n1_ n2_ n3_ n4_ n5_ n6_ n7_ n8_ n9_ n10_; have hHeld : w57.cell? ⟨gb263, 0, none⟩ = some (.int .i64 ((rd_T61 l1 x73_5).f0)) ∧ w57.cell? ⟨gb263, 1, none⟩ = some (.int .i64 ((rd_T61 l1 x73_5).f1)) ∧ w57.cell? ⟨gb263, 2, none⟩ = some (.int .i64 ((rd_T61 l1 x73_5).f2)) := hS_; refine norm_ (a' := ?_) ?_ ?_
                          rotate_left
                          ·
                           simp only [putAll, Act.put, List.setIfInBounds_toArray, List.set_cons_zero, List.set_cons_succ]
                           rfl
                          refine onT (i := 13) (N := none) HT_ #[true, true, true, true, true, true, true, true, true, true, true, true, true, true, false] (fun K hK => ?_); have hs58 : w57.cell? ⟨gb266, 0, none⟩ = some (.int .i64 0) := bc BK266 0; have hfs58 := blk_frozen BK266.out 0; have hns58_0 := NB249_266.out; have hns58_1 := NB263_266.out; have hms58_0 := NB266_249.out; have hms58_1 := NB266_263.out; have hs59 : w57.cell? ⟨gb266, 1, none⟩ = some (.int .i64 0) := bc BK266 1; have hfs59 := blk_frozen BK266.out 1; have hns59_0 := NB249_266.out; have hns59_1 := NB263_266.out; have hms59_0 := NB266_249.out; have hms59_1 := NB266_263.out; refine skip_ (w1 := ?_) (by rfl) rfl ?_ ?_
                          rotate_left
                          ·
                           go_simp
                           rfl
                          refine hK.out _ _ ⟨((cell_far (p := ⟨gb266, _, none⟩) NB263_266.out _).trans (((cell_far (p := ⟨gb266, _, none⟩) NB263_266.out _).trans (hHeld.1)))), ((cell_far (p := ⟨gb266, _, none⟩) NB263_266.out _).trans (((cell_far (p := ⟨gb266, _, none⟩) NB263_266.out _).trans (hHeld.2.1)))), ((cell_far (p := ⟨gb266, _, none⟩) NB263_266.out _).trans (((cell_far (p := ⟨gb266, _, none⟩) NB263_266.out _).trans (hHeld.2.2))))⟩ (fun hHeld => ?_); clear hK K; refine puT (i := 14) (N := some 22) HT_ #[true, true, true, true, true, true, true, true, true, true, true, true, true, true, true] ?_; refine done_ (done_of HT_.out (by kernel_rfl)) ?_; have hnb60 := NB266_249.out; have hnc60 := NB249_266.out; have hnb61 := NB266_263.out; have hnc61 := NB263_266.out; have hcz62_0 : w57.cell? ⟨gb266, 0, none⟩ = some (.int .i64 0) := bc BK266 0; have hcz62_1 : w57.cell? ⟨gb266, 1, none⟩ = some (.int .i64 0) := bc BK266 1; have hfz62_0 := blk_frozen BK266.out 0; have hfz62_1 := blk_frozen BK266.out 1; try go_wp2_with (first | ((with_reducible refine gate_dst (N := 117) rfl ?_); refine mget_step (some 117) A50.out (Mp.set (a := ⟨gb266, 1, none⟩) (Mp.set (a := ⟨gb266, 0, none⟩) HO_12.out (Mp.ne_cells HO_12.out BK266.out) (.int .i64 (Go.bits .or .i64 x45_2 (ji48)))) (Mp.ne_cells HO_12.out BK266.out) (.int .i64 x20_6)) ?_ (hx := by first | (simp only [hji48]; rfl) | rfl); intro w63 hw_; have hb := mq_below hw_; clear hw_; replace HO_12 := A_ (Mp.below ((Mp.set (a := ⟨gb266, 1, none⟩) (Mp.set (a := ⟨gb266, 0, none⟩) HO_12.out (Mp.ne_cells HO_12.out BK266.out) (.int .i64 (Go.bits .or .i64 x45_2 (ji48)))) (Mp.ne_cells HO_12.out BK266.out) (.int .i64 x20_6))) hb); replace BK249 := A_ (blk_below (g := gb249) (o := .cells #[.int .i64 a0_0, .bool a0_1] 27 (0, 0)) (by (with_reducible repeat (first | refine blk_drewN ?_ _ | refine blk_drew ?_ | refine blk_alloc ?_ _)); refine blk_far ?_ NB249_266.out _; (with_reducible repeat (first | refine blk_drewN ?_ _ | refine blk_drew ?_ | refine blk_alloc ?_ _)); refine blk_far ?_ NB249_266.out _; (with_reducible repeat (first | refine blk_drewN ?_ _ | refine blk_drew ?_ | refine blk_alloc ?_ _)); exact BK249.out) hb); replace BK263 := A_ (blk_below (g := gb263) (o := .cells #[.int .i64 ((rd_T61 l1 x73_5).f0), .int .i64 ((rd_T61 l1 x73_5).f1), .int .i64 ((rd_T61 l1 x73_5).f2)] 61 (0, 0)) (by (with_reducible repeat (first | refine blk_drewN ?_ _ | refine blk_drew ?_ | refine blk_alloc ?_ _)); refine blk_far ?_ NB263_266.out _; (with_reducible repeat (first | refine blk_drewN ?_ _ | refine blk_drew ?_ | refine blk_alloc ?_ _)); refine blk_far ?_ NB263_266.out _; (with_reducible repeat (first | refine blk_drewN ?_ _ | refine blk_drew ?_ | refine blk_alloc ?_ _)); exact BK263.out) hb); replace BK266 := A_ (blk_below (g := gb266) (o := .cells #[.int .i64 (Go.bits .or .i64 x45_2 (ji48)), .int .i64 x20_6] 87 (0, 0)) (by (with_reducible repeat (first | refine blk_drewN ?_ _ | refine blk_drew ?_ | refine blk_alloc ?_ _)); refine blk_put (cs := #[.int .i64 (Go.bits .or .i64 x45_2 (ji48)), .int .i64 0]) ?_ 1 _ rfl; (with_reducible repeat (first | refine blk_drewN ?_ _ | refine blk_drew ?_ | refine blk_alloc ?_ _)); refine blk_put (cs := #[.int .i64 0, .int .i64 0]) ?_ 0 _ rfl; (with_reducible repeat (first | refine blk_drewN ?_ _ | refine blk_drew ?_ | refine blk_alloc ?_ _)); exact BK266.out) hb); replace HB := A_ (below_step (hq HB) hb); clear hb; have hcz64_0 : w63.cell? ⟨gb266, 0, none⟩ = some (.int .i64 (Go.bits .or .i64 x45_2 (ji48))) := bc BK266 0; have hcz64_1 : w63.cell? ⟨gb266, 1, none⟩ = some (.int .i64 x20_6) := bc BK266 1; have hfz64_0 := blk_frozen BK266.out 0; have hfz64_1 := blk_frozen BK266.out 1) | ((with_reducible refine gate_put rfl ?_); refine mput_step A53.out (mq HO_12) ?side1 ?_ (hx := by first | (simp only [hji48]; rfl) | rfl); (case side1 => repeat (first | (with_reducible first | exact HB.out | apply below_alloc | apply pw_below_drewN | apply below_drew1 | refine below_set ?_ GE249.out | refine below_set ?_ GE263.out | refine below_set ?_ GE266.out) | exact HB.out)); intro w65 hy0 hb hkp; replace BK249 := A_ (hkp _ _ _ _ (bq BK249)); replace BK263 := A_ (hkp _ _ _ _ (bq BK263)); replace BK266 := A_ (hkp _ _ _ _ (bq BK266)); replace HO_12 := A_ (hy0); replace HB := A_ (hb); clear hb hkp hy0))
                          go_roundg kj35
                          case measure => have := HK1.out; have := HK2.out; have := HJ23.out; have := HJ27.out; have := HK5.out; have := HK6.out; have := HJ35.out; omega
                          case rel => exact ⟨(t269), (wrap64 (x20_6 + 1)), rf, H', ⟨by have := HK1.out; have := HK2.out; have := HJ23.out; have := HJ27.out; have := HK5.out; have := HK6.out; have := HJ35.out; omega⟩, ⟨mq HO_12⟩, ⟨by (with_reducible repeat (first | refine blk_drewN ?_ _ | refine blk_drew ?_ | refine blk_alloc ?_ _)); exact BK249.out⟩, ⟨by (with_reducible repeat (first | refine blk_drewN ?_ _ | refine blk_drew ?_ | refine blk_alloc ?_ _)); exact BK263.out⟩, ⟨hq HB⟩⟩
                         ·
                          rw [if_neg c52] at H; have c52b0 := decide_eq_false c52; clear c52; have H' := A_ H; clear H; try go_wp2
                          replace HO_12 := A_ (Mp.drew HO_12.out); replace BK249 := A_ (blk_drew BK249.out); replace BK263 := A_ (blk_drew BK263.out); replace HB := A_ (below_drew1 HB.out); refine start_ (n := 15) (S := fun w' => w'.cell? ⟨gb263, 0, none⟩ = some (.int .i64 ((rd_T61 l1 x73_5).f0)) ∧ w'.cell? ⟨gb263, 1, none⟩ = some (.int .i64 ((rd_T61 l1 x73_5).f1)) ∧ w'.cell? ⟨gb263, 2, none⟩ = some (.int .i64 ((rd_T61 l1 x73_5).f2))) (ds := []) #[false, false, false, false, false, false, false, false, false, false, false, false, false, false, false] (by kernel_rfl) rfl rfl ⟨bc BK263 0, bc BK263 1, bc BK263 2⟩ (fun hHeld => ?_); refine with_tabW impl_least__Road_arrives.tab21 impl_least__Road_arrives.bits21 (fun HT_ HW_ => ?_); generalize wc.drew = w66 at HO_12 BK249 BK263 HB hHeld ⊢; refine puT (i := 0) (N := some 102) HT_ #[true, false, false, false, false, false, false, false, false, false, false, false, false, false, false] ?_; refine puT (i := 1) (N := some 103) HT_ #[true, true, false, false, false, false, false, false, false, false, false, false, false, false, false] ?_; refine puT (i := 2) (N := some 104) HT_ #[true, true, true, false, false, false, false, false, false, false, false, false, false, false, false] ?_; refine puT (i := 3) (N := some 105) HT_ #[true, true, true, true, false, false, false, false, false, false, false, false, false, false, false] ?_; refine puT (i := 4) (N := some 106) HT_ #[true, true, true, true, true, false, false, false, false, false, false, false, false, false, false] ?_; refine puT (i := 5) (N := some 107) HT_ #[true, true, true, true, true, true, false, false, false, false, false, false, false, false, false] ?_; refine puT (i := 6) (N := some 108) HT_ #[true, true, true, true, true, true, true, false, false, false, false, false, false, false, false] ?_; refine puT (i := 8) (N := some 110) HT_ #[true, true, true, true, true, true, true, false, true, false, false, false, false, false, false] ?_; refine puT (i := 9) (N := some 111) HT_ #[true, true, true, true, true, true, true, false, true, true, false, false, false, false, false] ?_; refine puT (i := 10) (N := some 112) HT_ #[true, true, true, true, true, true, true, false, true, true, true, false, false, false, false] ?_; refine tkT (i := 7) (N := some 109) HT_ HW_ hHeld #[true, true, true, true, true, true, true, true, true, true, true, false, false, false, false] ?_; refine join_ (σ := Nat) 2 #[true, true, true, true, true, true, true, true, true, true, true, true, true, false, false] (fun s_ => [(113, .int .i64 t265), (21, .pointer (some ⟨s_, 0, none⟩))]) (fun s_ w' => (w'.cell? ⟨gb263, 0, none⟩ = some (.int .i64 ((rd_T61 l1 x73_5).f0)) ∧ w'.cell? ⟨gb263, 1, none⟩ = some (.int .i64 ((rd_T61 l1 x73_5).f1)) ∧ w'.cell? ⟨gb263, 2, none⟩ = some (.int .i64 ((rd_T61 l1 x73_5).f2))) ∧ (Mp w' w.heap.size mb9 x12_6) ∧ (w'.heap[gb249]? = some (.cells #[.int .i64 a0_0, .bool a0_1] 27 (0, 0))) ∧ (w'.heap[gb263]? = some (.cells #[.int .i64 ((rd_T61 l1 x73_5).f0), .int .i64 ((rd_T61 l1 x73_5).f1), .int .i64 ((rd_T61 l1 x73_5).f2)] 61 (0, 0))) ∧ (w'.heap[s_]? = some (.cells #[.int .i64 0, .int .i64 0] 87 (0, 0))) ∧ (w.heap.size ≤ s_) ∧ (w.heap.size ≤ s_) ∧ (gb249 ≠ s_) ∧ (s_ ≠ gb249) ∧ (gb263 ≠ s_) ∧ (s_ ≠ gb263) ∧ (Below w.heap.size w w')) ?_ ?_
                          rotate_left
                          ·
                           intro hCont; refine two_ (i := 11) (j := 12) (Ni := some 113) (Nj := some 21) #[true, true, true, true, true, true, true, true, true, true, true, true, false, false, false] #[true, true, true, true, true, true, true, true, true, true, true, false, true, false, false] rfl rfl rfl rfl (two_of HT_.out (by kernel_rfl)) (by decide) (by decide) (fun K hK => ?_) (fun K hK => ?_)
                           ·
                            refine goV_ Try.func43 #[.agg #[.int .i64 a4_0, .bool a4_1], .agg #[.int .i64 ((rd_T61 l1 x73_5).f0), .int .i64 ((rd_T61 l1 x73_5).f1), .int .i64 ((rd_T61 l1 x73_5).f2)], .int .i64 t260, .int .i64 x14_1, .int .i64 x20_6] ?_; with_reducible refine (impl_Road_arrives.calls a4_0 a4_1 ((rd_T61 l1 x73_5).f0) ((rd_T61 l1 x73_5).f1) ((rd_T61 l1 x73_5).f2) t260 x14_1 x20_6 t265 _ A49.out).mono ?_
                            rintro e w67 ⟨rfl, hb⟩; refine ⟨_, rfl, ?_⟩; replace HO_12 := A_ (Mp.below (mq HO_12) hb); replace BK249 := A_ (blk_below (bq BK249) hb); replace BK263 := A_ (blk_below (bq BK263) hb); replace HB := A_ (below_step (hq HB) hb); clear hb; refine hK.out _ _ ⟨bc BK263 0, bc BK263 1, bc BK263 2⟩ (fun hHeld => ?_); clear hK K; refine nq_ (some 113) ?_; refine onT (i := 12) (N := some 21) HT_ #[true, true, true, true, true, true, true, true, true, true, true, true, true, false, false] (fun K hK => ?_); refine box_step ?hg (N := 21) ?hd (cs := #[.int .i64 0, .int .i64 0]) (t := 87) ?hr ?_; (case hd => rfl); (case hg => rfl); (case hr => first | (go_simp; done) | (go_simp; rfl)); intro gb266 hg w68 hbox hb; have n0_ := A_ (Mp.below (mq HO_12) hb); have n1_ := A_ (blk_below (bq BK249) hb); have n2_ := A_ (blk_below (bq BK263) hb); have n3_ := A_ (below_step (hq HB) hb); have n4_ := A_ (hbox); have n5_ := A_ (bs hg (hq HB) : w.heap.size ≤ gb266); have n6_ := A_ (bs hg (hq HB) : w.heap.size ≤ gb266); have n7_ := A_ ((by rw [hg]; exact Nat.ne_of_lt (blk_lt (bq BK249)) : gb249 ≠ gb266)); have n8_ := A_ ((by rw [hg]; exact Nat.ne_of_gt (blk_lt (bq BK249)) : gb266 ≠ gb249)); have n9_ := A_ ((by rw [hg]; exact Nat.ne_of_lt (blk_lt (bq BK263)) : gb263 ≠ gb266)); have n10_ := A_ ((by rw [hg]; exact Nat.ne_of_gt (blk_lt (bq BK263)) : gb266 ≠ gb263)); clear HO_12 BK249 BK263 HB; have HO_12 := n0_; have BK249 := n1_; have BK263 := n2_; have HB := n3_; have BK266 := n4_; have GW266 := n5_; have GE266 := n6_; have NB249_266 := n7_; have NB266_249 := n8_; have NB263_266 := n9_; have NB266_263 := n10_; clear n0_ n1_ n2_ n3_ n4_ n5_ n6_ n7_ n8_ n9_ n10_ hb hbox hg; refine hK.out _ _ ⟨bc BK263 0, bc BK263 1, bc BK263 2⟩ (fun hHeld => ?_); clear hK K; refine nq_ (some 21) ?_; exact norm_ (by simp only [putAll, Act.put, List.setIfInBounds_toArray, List.set_cons_zero, List.set_cons_succ]) (hCont (gb266) _ ⟨hHeld, (mq HO_12), (bq BK249), (bq BK263), (bq BK266), GW266.out, GE266.out, NB249_266.out, NB266_249.out, NB263_266.out, NB266_263.out, (hq HB)⟩)
                           ·
                            refine box_step ?hg (N := 21) ?hd (cs := #[.int .i64 0, .int .i64 0]) (t := 87) ?hr ?_; (case hd => rfl); (case hg => rfl); (case hr => first | (go_simp; done) | (go_simp; rfl)); intro gb266 hg w67 hbox hb; have n0_ := A_ (Mp.below (mq HO_12) hb); have n1_ := A_ (blk_below (bq BK249) hb); have n2_ := A_ (blk_below (bq BK263) hb); have n3_ := A_ (below_step (hq HB) hb); have n4_ := A_ (hbox); have n5_ := A_ (bs hg (hq HB) : w.heap.size ≤ gb266); have n6_ := A_ (bs hg (hq HB) : w.heap.size ≤ gb266); have n7_ := A_ ((by rw [hg]; exact Nat.ne_of_lt (blk_lt (bq BK249)) : gb249 ≠ gb266)); have n8_ := A_ ((by rw [hg]; exact Nat.ne_of_gt (blk_lt (bq BK249)) : gb266 ≠ gb249)); have n9_ := A_ ((by rw [hg]; exact Nat.ne_of_lt (blk_lt (bq BK263)) : gb263 ≠ gb266)); have n10_ := A_ ((by rw [hg]; exact Nat.ne_of_gt (blk_lt (bq BK263)) : gb266 ≠ gb263)); clear HO_12 BK249 BK263 HB; have HO_12 := n0_; have BK249 := n1_; have BK263 := n2_; have HB := n3_; have BK266 := n4_; have GW266 := n5_; have GE266 := n6_; have NB249_266 := n7_; have NB266_249 := n8_; have NB263_266 := n9_; have NB266_263 := n10_; clear n0_ n1_ n2_ n3_ n4_ n5_ n6_ n7_ n8_ n9_ n10_ hb hbox hg; refine hK.out _ _ ⟨bc BK263 0, bc BK263 1, bc BK263 2⟩ (fun hHeld => ?_); clear hK K; refine nq_ (some 21) ?_; refine onT (i := 11) (N := some 113) HT_ #[true, true, true, true, true, true, true, true, true, true, true, true, true, false, false] (fun K hK => ?_); refine goV_ Try.func43 #[.agg #[.int .i64 a4_0, .bool a4_1], .agg #[.int .i64 ((rd_T61 l1 x73_5).f0), .int .i64 ((rd_T61 l1 x73_5).f1), .int .i64 ((rd_T61 l1 x73_5).f2)], .int .i64 t260, .int .i64 x14_1, .int .i64 x20_6] ?_; with_reducible refine (impl_Road_arrives.calls a4_0 a4_1 ((rd_T61 l1 x73_5).f0) ((rd_T61 l1 x73_5).f1) ((rd_T61 l1 x73_5).f2) t260 x14_1 x20_6 t265 _ A49.out).mono ?_
                            rintro e w68 ⟨rfl, hb⟩; refine ⟨_, rfl, ?_⟩; replace HO_12 := A_ (Mp.below (mq HO_12) hb); replace BK249 := A_ (blk_below (bq BK249) hb); replace BK263 := A_ (blk_below (bq BK263) hb); replace BK266 := A_ (blk_below (bq BK266) hb); replace HB := A_ (below_step (hq HB) hb); clear hb; refine hK.out _ _ ⟨bc BK263 0, bc BK263 1, bc BK263 2⟩ (fun hHeld => ?_); clear hK K; refine nq_ (some 113) ?_; exact norm_ (by simp only [putAll, Act.put, List.setIfInBounds_toArray, List.set_cons_zero, List.set_cons_succ]) (hCont (gb266) _ ⟨hHeld, (mq HO_12), (bq BK249), (bq BK263), (bq BK266), GW266.out, GE266.out, NB249_266.out, NB266_249.out, NB263_266.out, NB266_263.out, (hq HB)⟩)
                          rintro gb266 w69 ⟨hS_, h0_, h1_, h2_, h3_, h4_, h5_, h6_, h7_, h8_, h9_, h10_⟩
                          have n0_ : Aside0 (Mp w69 w.heap.size mb9 x12_6) := ⟨h0_⟩
                          have n1_ : Aside0 (w69.heap[gb249]? = some (.cells #[.int .i64 a0_0, .bool a0_1] 27 (0, 0))) := ⟨h1_⟩
                          have n2_ : Aside0 (w69.heap[gb263]? = some (.cells #[.int .i64 ((rd_T61 l1 x73_5).f0), .int .i64 ((rd_T61 l1 x73_5).f1), .int .i64 ((rd_T61 l1 x73_5).f2)] 61 (0, 0))) := ⟨h2_⟩
                          have n3_ : Aside0 (w69.heap[gb266]? = some (.cells #[.int .i64 0, .int .i64 0] 87 (0, 0))) := ⟨h3_⟩
                          have n4_ : Aside0 (w.heap.size ≤ gb266) := ⟨h4_⟩
                          have n5_ : Aside0 (w.heap.size ≤ gb266) := ⟨h5_⟩
                          have n6_ : Aside0 (gb249 ≠ gb266) := ⟨h6_⟩
                          have n7_ : Aside0 (gb266 ≠ gb249) := ⟨h7_⟩
                          have n8_ : Aside0 (gb263 ≠ gb266) := ⟨h8_⟩
                          have n9_ : Aside0 (gb266 ≠ gb263) := ⟨h9_⟩
                          have n10_ : Aside0 (Below w.heap.size w w69) := ⟨h10_⟩
                          clear HO_12 BK249 BK263 HB h0_ h1_ h2_ h3_ h4_ h5_ h6_ h7_ h8_ h9_ h10_; have HO_12 := n0_; have BK249 := n1_; have BK263 := n2_; have BK266 := n3_; have GW266 := n4_; have GE266 := n5_; have NB249_266 := n6_; have NB266_249 := n7_; have NB263_266 := n8_; have NB266_263 := n9_; have HB := n10_; clear n0_ n1_ n2_ n3_ n4_ n5_ n6_ n7_ n8_ n9_ n10_; have hHeld : w69.cell? ⟨gb263, 0, none⟩ = some (.int .i64 ((rd_T61 l1 x73_5).f0)) ∧ w69.cell? ⟨gb263, 1, none⟩ = some (.int .i64 ((rd_T61 l1 x73_5).f1)) ∧ w69.cell? ⟨gb263, 2, none⟩ = some (.int .i64 ((rd_T61 l1 x73_5).f2)) := hS_; refine norm_ (a' := ?_) ?_ ?_
                          rotate_left
                          ·
                           simp only [putAll, Act.put, List.setIfInBounds_toArray, List.set_cons_zero, List.set_cons_succ]
                           rfl
                          refine onT (i := 13) (N := none) HT_ #[true, true, true, true, true, true, true, true, true, true, true, true, true, true, false] (fun K hK => ?_); have hs70 : w69.cell? ⟨gb266, 0, none⟩ = some (.int .i64 0) := bc BK266 0; have hfs70 := blk_frozen BK266.out 0; have hns70_0 := NB249_266.out; have hns70_1 := NB263_266.out; have hms70_0 := NB266_249.out; have hms70_1 := NB266_263.out; have hs71 : w69.cell? ⟨gb266, 1, none⟩ = some (.int .i64 0) := bc BK266 1; have hfs71 := blk_frozen BK266.out 1; have hns71_0 := NB249_266.out; have hns71_1 := NB263_266.out; have hms71_0 := NB266_249.out; have hms71_1 := NB266_263.out; refine skip_ (w1 := ?_) (by rfl) rfl ?_ ?_
                          rotate_left
                          ·
                           go_simp
                           rfl
                          refine hK.out _ _ ⟨((cell_far (p := ⟨gb266, _, none⟩) NB263_266.out _).trans (((cell_far (p := ⟨gb266, _, none⟩) NB263_266.out _).trans (hHeld.1)))), ((cell_far (p := ⟨gb266, _, none⟩) NB263_266.out _).trans (((cell_far (p := ⟨gb266, _, none⟩) NB263_266.out _).trans (hHeld.2.1)))), ((cell_far (p := ⟨gb266, _, none⟩) NB263_266.out _).trans (((cell_far (p := ⟨gb266, _, none⟩) NB263_266.out _).trans (hHeld.2.2))))⟩ (fun hHeld => ?_); clear hK K; refine puT (i := 14) (N := some 22) HT_ #[true, true, true, true, true, true, true, true, true, true, true, true, true, true, true] ?_; refine done_ (done_of HT_.out (by kernel_rfl)) ?_; have hnb72 := NB266_249.out; have hnc72 := NB249_266.out; have hnb73 := NB266_263.out; have hnc73 := NB263_266.out; have hcz74_0 : w69.cell? ⟨gb266, 0, none⟩ = some (.int .i64 0) := bc BK266 0; have hcz74_1 : w69.cell? ⟨gb266, 1, none⟩ = some (.int .i64 0) := bc BK266 1; have hfz74_0 := blk_frozen BK266.out 0; have hfz74_1 := blk_frozen BK266.out 1; try go_wp2_with (first | ((with_reducible refine gate_dst (N := 117) rfl ?_); refine mget_step (some 117) A50.out (Mp.set (a := ⟨gb266, 1, none⟩) (Mp.set (a := ⟨gb266, 0, none⟩) HO_12.out (Mp.ne_cells HO_12.out BK266.out) (.int .i64 (Go.bits .or .i64 x45_2 (ji48)))) (Mp.ne_cells HO_12.out BK266.out) (.int .i64 x20_6)) ?_ (hx := by first | (simp only [hji48]; rfl) | rfl); intro w75 hw_; have hb := mq_below hw_; clear hw_; replace HO_12 := A_ (Mp.below ((Mp.set (a := ⟨gb266, 1, none⟩) (Mp.set (a := ⟨gb266, 0, none⟩) HO_12.out (Mp.ne_cells HO_12.out BK266.out) (.int .i64 (Go.bits .or .i64 x45_2 (ji48)))) (Mp.ne_cells HO_12.out BK266.out) (.int .i64 x20_6))) hb); replace BK249 := A_ (blk_below (g := gb249) (o := .cells #[.int .i64 a0_0, .bool a0_1] 27 (0, 0)) (by (with_reducible repeat (first | refine blk_drewN ?_ _ | refine blk_drew ?_ | refine blk_alloc ?_ _)); refine blk_far ?_ NB249_266.out _; (with_reducible repeat (first | refine blk_drewN ?_ _ | refine blk_drew ?_ | refine blk_alloc ?_ _)); refine blk_far ?_ NB249_266.out _; (with_reducible repeat (first | refine blk_drewN ?_ _ | refine blk_drew ?_ | refine blk_alloc ?_ _)); exact BK249.out) hb); replace BK263 := A_ (blk_below (g := gb263) (o := .cells #[.int .i64 ((rd_T61 l1 x73_5).f0), .int .i64 ((rd_T61 l1 x73_5).f1), .int .i64 ((rd_T61 l1 x73_5).f2)] 61 (0, 0)) (by (with_reducible repeat (first | refine blk_drewN ?_ _ | refine blk_drew ?_ | refine blk_alloc ?_ _)); refine blk_far ?_ NB263_266.out _; (with_reducible repeat (first | refine blk_drewN ?_ _ | refine blk_drew ?_ | refine blk_alloc ?_ _)); refine blk_far ?_ NB263_266.out _; (with_reducible repeat (first | refine blk_drewN ?_ _ | refine blk_drew ?_ | refine blk_alloc ?_ _)); exact BK263.out) hb); replace BK266 := A_ (blk_below (g := gb266) (o := .cells #[.int .i64 (Go.bits .or .i64 x45_2 (ji48)), .int .i64 x20_6] 87 (0, 0)) (by (with_reducible repeat (first | refine blk_drewN ?_ _ | refine blk_drew ?_ | refine blk_alloc ?_ _)); refine blk_put (cs := #[.int .i64 (Go.bits .or .i64 x45_2 (ji48)), .int .i64 0]) ?_ 1 _ rfl; (with_reducible repeat (first | refine blk_drewN ?_ _ | refine blk_drew ?_ | refine blk_alloc ?_ _)); refine blk_put (cs := #[.int .i64 0, .int .i64 0]) ?_ 0 _ rfl; (with_reducible repeat (first | refine blk_drewN ?_ _ | refine blk_drew ?_ | refine blk_alloc ?_ _)); exact BK266.out) hb); replace HB := A_ (below_step (hq HB) hb); clear hb))
                          go_roundg kj35
                          case measure => have := HK1.out; have := HK2.out; have := HJ23.out; have := HJ27.out; have := HK5.out; have := HK6.out; have := HJ35.out; omega
                          case rel => exact ⟨(x12_6), (wrap64 (x20_6 + 1)), rf, H', ⟨by have := HK1.out; have := HK2.out; have := HJ23.out; have := HJ27.out; have := HK5.out; have := HK6.out; have := HJ35.out; omega⟩, ⟨mq HO_12⟩, ⟨by (with_reducible repeat (first | refine blk_drewN ?_ _ | refine blk_drew ?_ | refine blk_alloc ?_ _)); exact BK249.out⟩, ⟨by (with_reducible repeat (first | refine blk_drewN ?_ _ | refine blk_drew ?_ | refine blk_alloc ?_ _)); exact BK263.out⟩, ⟨hq HB⟩⟩
                        ·
                         replace c51 := Bool.eq_false_iff.mpr c51; subst c51
                         have H1 : ((impl_mput.f kj35 x12_6 (Go.bits .or .i64 x45_2 (ji48)) x20_6 t265).bind fun t270 => (impl_least__Road_arrives.l3 kj35 l1 a3 t270 x13_27 x14_1 x45_2 t260 x73_5 (wrap64 (x20_6 + 1)) ji20 x45_2 l1 (l1.length : Int) x73_5 a4_0 a4_1 a0_0 a0_1 ((rd_T61 l1 x73_5).f0) ((rd_T61 l1 x73_5).f1) ((rd_T61 l1 x73_5).f2))) = some (r1, r2) := by rw [if_neg (show ¬ (false = true) by decide)] at H; exact H
                         clear H; have H := H1; clear H1; replace H := bm H; obtain ⟨t270, A76, H⟩ := H; have H' := A_ H; clear H; try go_wp2
                         replace HO_12 := A_ (Mp.drew HO_12.out); replace BK249 := A_ (blk_drew BK249.out); replace BK263 := A_ (blk_drew BK263.out); replace HB := A_ (below_drew1 HB.out); refine start_ (n := 15) (S := fun w' => w'.cell? ⟨gb263, 0, none⟩ = some (.int .i64 ((rd_T61 l1 x73_5).f0)) ∧ w'.cell? ⟨gb263, 1, none⟩ = some (.int .i64 ((rd_T61 l1 x73_5).f1)) ∧ w'.cell? ⟨gb263, 2, none⟩ = some (.int .i64 ((rd_T61 l1 x73_5).f2))) (ds := []) #[false, false, false, false, false, false, false, false, false, false, false, false, false, false, false] (by kernel_rfl) rfl rfl ⟨bc BK263 0, bc BK263 1, bc BK263 2⟩ (fun hHeld => ?_); refine with_tabW impl_least__Road_arrives.tab21 impl_least__Road_arrives.bits21 (fun HT_ HW_ => ?_); generalize wc.drew = w77 at HO_12 BK249 BK263 HB hHeld ⊢; refine puT (i := 0) (N := some 102) HT_ #[true, false, false, false, false, false, false, false, false, false, false, false, false, false, false] ?_; refine puT (i := 1) (N := some 103) HT_ #[true, true, false, false, false, false, false, false, false, false, false, false, false, false, false] ?_; refine puT (i := 2) (N := some 104) HT_ #[true, true, true, false, false, false, false, false, false, false, false, false, false, false, false] ?_; refine puT (i := 3) (N := some 105) HT_ #[true, true, true, true, false, false, false, false, false, false, false, false, false, false, false] ?_; refine puT (i := 4) (N := some 106) HT_ #[true, true, true, true, true, false, false, false, false, false, false, false, false, false, false] ?_; refine puT (i := 5) (N := some 107) HT_ #[true, true, true, true, true, true, false, false, false, false, false, false, false, false, false] ?_; refine puT (i := 6) (N := some 108) HT_ #[true, true, true, true, true, true, true, false, false, false, false, false, false, false, false] ?_; refine puT (i := 8) (N := some 110) HT_ #[true, true, true, true, true, true, true, false, true, false, false, false, false, false, false] ?_; refine puT (i := 9) (N := some 111) HT_ #[true, true, true, true, true, true, true, false, true, true, false, false, false, false, false] ?_; refine puT (i := 10) (N := some 112) HT_ #[true, true, true, true, true, true, true, false, true, true, true, false, false, false, false] ?_; refine tkT (i := 7) (N := some 109) HT_ HW_ hHeld #[true, true, true, true, true, true, true, true, true, true, true, false, false, false, false] ?_; refine join_ (σ := Nat) 2 #[true, true, true, true, true, true, true, true, true, true, true, true, true, false, false] (fun s_ => [(113, .int .i64 t265), (21, .pointer (some ⟨s_, 0, none⟩))]) (fun s_ w' => (w'.cell? ⟨gb263, 0, none⟩ = some (.int .i64 ((rd_T61 l1 x73_5).f0)) ∧ w'.cell? ⟨gb263, 1, none⟩ = some (.int .i64 ((rd_T61 l1 x73_5).f1)) ∧ w'.cell? ⟨gb263, 2, none⟩ = some (.int .i64 ((rd_T61 l1 x73_5).f2))) ∧ (Mp w' w.heap.size mb9 x12_6) ∧ (w'.heap[gb249]? = some (.cells #[.int .i64 a0_0, .bool a0_1] 27 (0, 0))) ∧ (w'.heap[gb263]? = some (.cells #[.int .i64 ((rd_T61 l1 x73_5).f0), .int .i64 ((rd_T61 l1 x73_5).f1), .int .i64 ((rd_T61 l1 x73_5).f2)] 61 (0, 0))) ∧ (w'.heap[s_]? = some (.cells #[.int .i64 0, .int .i64 0] 87 (0, 0))) ∧ (w.heap.size ≤ s_) ∧ (w.heap.size ≤ s_) ∧ (gb249 ≠ s_) ∧ (s_ ≠ gb249) ∧ (gb263 ≠ s_) ∧ (s_ ≠ gb263) ∧ (Below w.heap.size w w')) ?_ ?_
                         rotate_left
                         ·
                          intro hCont; refine two_ (i := 11) (j := 12) (Ni := some 113) (Nj := some 21) #[true, true, true, true, true, true, true, true, true, true, true, true, false, false, false] #[true, true, true, true, true, true, true, true, true, true, true, false, true, false, false] rfl rfl rfl rfl (two_of HT_.out (by kernel_rfl)) (by decide) (by decide) (fun K hK => ?_) (fun K hK => ?_)
                          ·
                           refine goV_ Try.func43 #[.agg #[.int .i64 a4_0, .bool a4_1], .agg #[.int .i64 ((rd_T61 l1 x73_5).f0), .int .i64 ((rd_T61 l1 x73_5).f1), .int .i64 ((rd_T61 l1 x73_5).f2)], .int .i64 t260, .int .i64 x14_1, .int .i64 x20_6] ?_; with_reducible refine (impl_Road_arrives.calls a4_0 a4_1 ((rd_T61 l1 x73_5).f0) ((rd_T61 l1 x73_5).f1) ((rd_T61 l1 x73_5).f2) t260 x14_1 x20_6 t265 _ A49.out).mono ?_
                           rintro e w78 ⟨rfl, hb⟩; refine ⟨_, rfl, ?_⟩; replace HO_12 := A_ (Mp.below (mq HO_12) hb); replace BK249 := A_ (blk_below (bq BK249) hb); replace BK263 := A_ (blk_below (bq BK263) hb); replace HB := A_ (below_step (hq HB) hb); clear hb; refine hK.out _ _ ⟨bc BK263 0, bc BK263 1, bc BK263 2⟩ (fun hHeld => ?_); clear hK K; refine nq_ (some 113) ?_; refine onT (i := 12) (N := some 21) HT_ #[true, true, true, true, true, true, true, true, true, true, true, true, true, false, false] (fun K hK => ?_); refine box_step ?hg (N := 21) ?hd (cs := #[.int .i64 0, .int .i64 0]) (t := 87) ?hr ?_; (case hd => rfl); (case hg => rfl); (case hr => first | (go_simp; done) | (go_simp; rfl)); intro gb266 hg w79 hbox hb; have n0_ := A_ (Mp.below (mq HO_12) hb); have n1_ := A_ (blk_below (bq BK249) hb); have n2_ := A_ (blk_below (bq BK263) hb); have n3_ := A_ (below_step (hq HB) hb); have n4_ := A_ (hbox); have n5_ := A_ (bs hg (hq HB) : w.heap.size ≤ gb266); have n6_ := A_ (bs hg (hq HB) : w.heap.size ≤ gb266); have n7_ := A_ ((by rw [hg]; exact Nat.ne_of_lt (blk_lt (bq BK249)) : gb249 ≠ gb266)); have n8_ := A_ ((by rw [hg]; exact Nat.ne_of_gt (blk_lt (bq BK249)) : gb266 ≠ gb249)); have n9_ := A_ ((by rw [hg]; exact Nat.ne_of_lt (blk_lt (bq BK263)) : gb263 ≠ gb266)); have n10_ := A_ ((by rw [hg]; exact Nat.ne_of_gt (blk_lt (bq BK263)) : gb266 ≠ gb263)); clear HO_12 BK249 BK263 HB; have HO_12 := n0_; have BK249 := n1_; have BK263 := n2_; have HB := n3_; have BK266 := n4_; have GW266 := n5_; have GE266 := n6_; have NB249_266 := n7_; have NB266_249 := n8_; have NB263_266 := n9_; have NB266_263 := n10_; clear n0_ n1_ n2_ n3_ n4_ n5_ n6_ n7_ n8_ n9_ n10_ hb hbox hg; refine hK.out _ _ ⟨bc BK263 0, bc BK263 1, bc BK263 2⟩ (fun hHeld => ?_); clear hK K; refine nq_ (some 21) ?_; exact norm_ (by simp only [putAll, Act.put, List.setIfInBounds_toArray, List.set_cons_zero, List.set_cons_succ]) (hCont (gb266) _ ⟨hHeld, (mq HO_12), (bq BK249), (bq BK263), (bq BK266), GW266.out, GE266.out, NB249_266.out, NB266_249.out, NB263_266.out, NB266_263.out, (hq HB)⟩)
                          ·
                           refine box_step ?hg (N := 21) ?hd (cs := #[.int .i64 0, .int .i64 0]) (t := 87) ?hr ?_; (case hd => rfl); (case hg => rfl); (case hr => first | (go_simp; done) | (go_simp; rfl)); intro gb266 hg w78 hbox hb; have n0_ := A_ (Mp.below (mq HO_12) hb); have n1_ := A_ (blk_below (bq BK249) hb); have n2_ := A_ (blk_below (bq BK263) hb); have n3_ := A_ (below_step (hq HB) hb); have n4_ := A_ (hbox); have n5_ := A_ (bs hg (hq HB) : w.heap.size ≤ gb266); have n6_ := A_ (bs hg (hq HB) : w.heap.size ≤ gb266); have n7_ := A_ ((by rw [hg]; exact Nat.ne_of_lt (blk_lt (bq BK249)) : gb249 ≠ gb266)); have n8_ := A_ ((by rw [hg]; exact Nat.ne_of_gt (blk_lt (bq BK249)) : gb266 ≠ gb249)); have n9_ := A_ ((by rw [hg]; exact Nat.ne_of_lt (blk_lt (bq BK263)) : gb263 ≠ gb266)); have n10_ := A_ ((by rw [hg]; exact Nat.ne_of_gt (blk_lt (bq BK263)) : gb266 ≠ gb263)); clear HO_12 BK249 BK263 HB; have HO_12 := n0_; have BK249 := n1_; have BK263 := n2_; have HB := n3_; have BK266 := n4_; have GW266 := n5_; have GE266 := n6_; have NB249_266 := n7_; have NB266_249 := n8_; have NB263_266 := n9_; have NB266_263 := n10_; clear n0_ n1_ n2_ n3_ n4_ n5_ n6_ n7_ n8_ n9_ n10_ hb hbox hg; refine hK.out _ _ ⟨bc BK263 0, bc BK263 1, bc BK263 2⟩ (fun hHeld => ?_); clear hK K; refine nq_ (some 21) ?_; refine onT (i := 11) (N := some 113) HT_ #[true, true, true, true, true, true, true, true, true, true, true, true, true, false, false] (fun K hK => ?_); refine goV_ Try.func43 #[.agg #[.int .i64 a4_0, .bool a4_1], .agg #[.int .i64 ((rd_T61 l1 x73_5).f0), .int .i64 ((rd_T61 l1 x73_5).f1), .int .i64 ((rd_T61 l1 x73_5).f2)], .int .i64 t260, .int .i64 x14_1, .int .i64 x20_6] ?_; with_reducible refine (impl_Road_arrives.calls a4_0 a4_1 ((rd_T61 l1 x73_5).f0) ((rd_T61 l1 x73_5).f1) ((rd_T61 l1 x73_5).f2) t260 x14_1 x20_6 t265 _ A49.out).mono ?_
                           rintro e w79 ⟨rfl, hb⟩; refine ⟨_, rfl, ?_⟩; replace HO_12 := A_ (Mp.below (mq HO_12) hb); replace BK249 := A_ (blk_below (bq BK249) hb); replace BK263 := A_ (blk_below (bq BK263) hb); replace BK266 := A_ (blk_below (bq BK266) hb); replace HB := A_ (below_step (hq HB) hb); clear hb; refine hK.out _ _ ⟨bc BK263 0, bc BK263 1, bc BK263 2⟩ (fun hHeld => ?_); clear hK K; refine nq_ (some 113) ?_; exact norm_ (by simp only [putAll, Act.put, List.setIfInBounds_toArray, List.set_cons_zero, List.set_cons_succ]) (hCont (gb266) _ ⟨hHeld, (mq HO_12), (bq BK249), (bq BK263), (bq BK266), GW266.out, GE266.out, NB249_266.out, NB266_249.out, NB263_266.out, NB266_263.out, (hq HB)⟩)
                         rintro gb266 w80 ⟨hS_, h0_, h1_, h2_, h3_, h4_, h5_, h6_, h7_, h8_, h9_, h10_⟩
                         have n0_ : Aside0 (Mp w80 w.heap.size mb9 x12_6) := ⟨h0_⟩
                         have n1_ : Aside0 (w80.heap[gb249]? = some (.cells #[.int .i64 a0_0, .bool a0_1] 27 (0, 0))) := ⟨h1_⟩
                         have n2_ : Aside0 (w80.heap[gb263]? = some (.cells #[.int .i64 ((rd_T61 l1 x73_5).f0), .int .i64 ((rd_T61 l1 x73_5).f1), .int .i64 ((rd_T61 l1 x73_5).f2)] 61 (0, 0))) := ⟨h2_⟩
                         have n3_ : Aside0 (w80.heap[gb266]? = some (.cells #[.int .i64 0, .int .i64 0] 87 (0, 0))) := ⟨h3_⟩
                         have n4_ : Aside0 (w.heap.size ≤ gb266) := ⟨h4_⟩
                         have n5_ : Aside0 (w.heap.size ≤ gb266) := ⟨h5_⟩
                         have n6_ : Aside0 (gb249 ≠ gb266) := ⟨h6_⟩
                         have n7_ : Aside0 (gb266 ≠ gb249) := ⟨h7_⟩
                         have n8_ : Aside0 (gb263 ≠ gb266) := ⟨h8_⟩
                         have n9_ : Aside0 (gb266 ≠ gb263) := ⟨h9_⟩
                         have n10_ : Aside0 (Below w.heap.size w w80) := ⟨h10_⟩
                         clear HO_12 BK249 BK263 HB h0_ h1_ h2_ h3_ h4_ h5_ h6_ h7_ h8_ h9_ h10_; have HO_12 := n0_; have BK249 := n1_; have BK263 := n2_; have BK266 := n3_; have GW266 := n4_; have GE266 := n5_; have NB249_266 := n6_; have NB266_249 := n7_; have NB263_266 := n8_; have NB266_263 := n9_; have HB := n10_; clear n0_ n1_ n2_ n3_ n4_ n5_ n6_ n7_ n8_ n9_ n10_; have hHeld : w80.cell? ⟨gb263, 0, none⟩ = some (.int .i64 ((rd_T61 l1 x73_5).f0)) ∧ w80.cell? ⟨gb263, 1, none⟩ = some (.int .i64 ((rd_T61 l1 x73_5).f1)) ∧ w80.cell? ⟨gb263, 2, none⟩ = some (.int .i64 ((rd_T61 l1 x73_5).f2)) := hS_; refine norm_ (a' := ?_) ?_ ?_
                         rotate_left
                         ·
                          simp only [putAll, Act.put, List.setIfInBounds_toArray, List.set_cons_zero, List.set_cons_succ]
                          rfl
                         refine onT (i := 13) (N := none) HT_ #[true, true, true, true, true, true, true, true, true, true, true, true, true, true, false] (fun K hK => ?_); have hs81 : w80.cell? ⟨gb266, 0, none⟩ = some (.int .i64 0) := bc BK266 0; have hfs81 := blk_frozen BK266.out 0; have hns81_0 := NB249_266.out; have hns81_1 := NB263_266.out; have hms81_0 := NB266_249.out; have hms81_1 := NB266_263.out; have hs82 : w80.cell? ⟨gb266, 1, none⟩ = some (.int .i64 0) := bc BK266 1; have hfs82 := blk_frozen BK266.out 1; have hns82_0 := NB249_266.out; have hns82_1 := NB263_266.out; have hms82_0 := NB266_249.out; have hms82_1 := NB266_263.out; refine skip_ (w1 := ?_) (by rfl) rfl ?_ ?_
                         rotate_left
                         ·
                          go_simp
                          rfl
                         refine hK.out _ _ ⟨((cell_far (p := ⟨gb266, _, none⟩) NB263_266.out _).trans (((cell_far (p := ⟨gb266, _, none⟩) NB263_266.out _).trans (hHeld.1)))), ((cell_far (p := ⟨gb266, _, none⟩) NB263_266.out _).trans (((cell_far (p := ⟨gb266, _, none⟩) NB263_266.out _).trans (hHeld.2.1)))), ((cell_far (p := ⟨gb266, _, none⟩) NB263_266.out _).trans (((cell_far (p := ⟨gb266, _, none⟩) NB263_266.out _).trans (hHeld.2.2))))⟩ (fun hHeld => ?_); clear hK K; refine puT (i := 14) (N := some 22) HT_ #[true, true, true, true, true, true, true, true, true, true, true, true, true, true, true] ?_; refine done_ (done_of HT_.out (by kernel_rfl)) ?_; have hnb83 := NB266_249.out; have hnc83 := NB249_266.out; have hnb84 := NB266_263.out; have hnc84 := NB263_266.out; have hcz85_0 : w80.cell? ⟨gb266, 0, none⟩ = some (.int .i64 0) := bc BK266 0; have hcz85_1 : w80.cell? ⟨gb266, 1, none⟩ = some (.int .i64 0) := bc BK266 1; have hfz85_0 := blk_frozen BK266.out 0; have hfz85_1 := blk_frozen BK266.out 1; try go_wp2_with (first | ((with_reducible refine gate_dst (N := 117) rfl ?_); refine mget_step (some 117) A50.out (Mp.set (a := ⟨gb266, 1, none⟩) (Mp.set (a := ⟨gb266, 0, none⟩) HO_12.out (Mp.ne_cells HO_12.out BK266.out) (.int .i64 (Go.bits .or .i64 x45_2 (ji48)))) (Mp.ne_cells HO_12.out BK266.out) (.int .i64 x20_6)) ?_ (hx := by first | (simp only [hji48]; rfl) | rfl); intro w86 hw_; have hb := mq_below hw_; clear hw_; replace HO_12 := A_ (Mp.below ((Mp.set (a := ⟨gb266, 1, none⟩) (Mp.set (a := ⟨gb266, 0, none⟩) HO_12.out (Mp.ne_cells HO_12.out BK266.out) (.int .i64 (Go.bits .or .i64 x45_2 (ji48)))) (Mp.ne_cells HO_12.out BK266.out) (.int .i64 x20_6))) hb); replace BK249 := A_ (blk_below (g := gb249) (o := .cells #[.int .i64 a0_0, .bool a0_1] 27 (0, 0)) (by (with_reducible repeat (first | refine blk_drewN ?_ _ | refine blk_drew ?_ | refine blk_alloc ?_ _)); refine blk_far ?_ NB249_266.out _; (with_reducible repeat (first | refine blk_drewN ?_ _ | refine blk_drew ?_ | refine blk_alloc ?_ _)); refine blk_far ?_ NB249_266.out _; (with_reducible repeat (first | refine blk_drewN ?_ _ | refine blk_drew ?_ | refine blk_alloc ?_ _)); exact BK249.out) hb); replace BK263 := A_ (blk_below (g := gb263) (o := .cells #[.int .i64 ((rd_T61 l1 x73_5).f0), .int .i64 ((rd_T61 l1 x73_5).f1), .int .i64 ((rd_T61 l1 x73_5).f2)] 61 (0, 0)) (by (with_reducible repeat (first | refine blk_drewN ?_ _ | refine blk_drew ?_ | refine blk_alloc ?_ _)); refine blk_far ?_ NB263_266.out _; (with_reducible repeat (first | refine blk_drewN ?_ _ | refine blk_drew ?_ | refine blk_alloc ?_ _)); refine blk_far ?_ NB263_266.out _; (with_reducible repeat (first | refine blk_drewN ?_ _ | refine blk_drew ?_ | refine blk_alloc ?_ _)); exact BK263.out) hb); replace BK266 := A_ (blk_below (g := gb266) (o := .cells #[.int .i64 (Go.bits .or .i64 x45_2 (ji48)), .int .i64 x20_6] 87 (0, 0)) (by (with_reducible repeat (first | refine blk_drewN ?_ _ | refine blk_drew ?_ | refine blk_alloc ?_ _)); refine blk_put (cs := #[.int .i64 (Go.bits .or .i64 x45_2 (ji48)), .int .i64 0]) ?_ 1 _ rfl; (with_reducible repeat (first | refine blk_drewN ?_ _ | refine blk_drew ?_ | refine blk_alloc ?_ _)); refine blk_put (cs := #[.int .i64 0, .int .i64 0]) ?_ 0 _ rfl; (with_reducible repeat (first | refine blk_drewN ?_ _ | refine blk_drew ?_ | refine blk_alloc ?_ _)); exact BK266.out) hb); replace HB := A_ (below_step (hq HB) hb); clear hb; have hcz87_0 : w86.cell? ⟨gb266, 0, none⟩ = some (.int .i64 (Go.bits .or .i64 x45_2 (ji48))) := bc BK266 0; have hcz87_1 : w86.cell? ⟨gb266, 1, none⟩ = some (.int .i64 x20_6) := bc BK266 1; have hfz87_0 := blk_frozen BK266.out 0; have hfz87_1 := blk_frozen BK266.out 1) | ((with_reducible refine gate_put rfl ?_); refine mput_step A76.out (mq HO_12) ?side1 ?_ (hx := by first | (simp only [hji48]; rfl) | rfl); (case side1 => repeat (first | (with_reducible first | exact HB.out | apply below_alloc | apply pw_below_drewN | apply below_drew1 | refine below_set ?_ GE249.out | refine below_set ?_ GE263.out | refine below_set ?_ GE266.out) | exact HB.out)); intro w88 hy0 hb hkp; replace BK249 := A_ (hkp _ _ _ _ (bq BK249)); replace BK263 := A_ (hkp _ _ _ _ (bq BK263)); replace BK266 := A_ (hkp _ _ _ _ (bq BK266)); replace HO_12 := A_ (hy0); replace HB := A_ (hb); clear hb hkp hy0))
                         go_roundg kj35
                         case measure => have := HK1.out; have := HK2.out; have := HJ23.out; have := HJ27.out; have := HK5.out; have := HK6.out; have := HJ35.out; omega
                         case rel => exact ⟨(t270), (wrap64 (x20_6 + 1)), rf, H', ⟨by have := HK1.out; have := HK2.out; have := HJ23.out; have := HJ27.out; have := HK5.out; have := HK6.out; have := HJ35.out; omega⟩, ⟨mq HO_12⟩, ⟨by (with_reducible repeat (first | refine blk_drewN ?_ _ | refine blk_drew ?_ | refine blk_alloc ?_ _)); exact BK249.out⟩, ⟨by (with_reducible repeat (first | refine blk_drewN ?_ _ | refine blk_drew ?_ | refine blk_alloc ?_ _)); exact BK263.out⟩, ⟨hq HB⟩⟩
                       ·
                        rw [if_neg c47] at H; exact absurd H (by simp)
                      ·
                       replace c46 := Bool.eq_false_iff.mpr c46; subst c46
                       have H1 : (impl_least__Road_arrives.l2 kj35 l1 a3 x12_6 x13_27 x14_1 x45_2 t260 ji20 x45_2 l1 (l1.length : Int) (wrap64 (x73_5 + 1)) a4_0 a4_1 a0_0 a0_1) = some (r1, r2) := by rw [if_neg (show ¬ (false = true) by decide)] at H; exact H
                       clear H; have H := H1; clear H1; have H' := A_ H; clear H; go_wp2
                       go_roundg kj35
                       case measure => have := HK1.out; have := HK2.out; have := HJ23.out; have := HJ27.out; have := HK5.out; have := HK6.out; have := HJ35.out; omega
                       case rel => exact ⟨(x12_6), (wrap64 (x73_5 + 1)), rf, H', ⟨by have := HK1.out; have := HK2.out; have := HJ23.out; have := HJ27.out; have := HK5.out; have := HK6.out; have := HJ35.out; omega⟩, ⟨mq HO_12⟩, ⟨by (with_reducible repeat (first | refine blk_drewN ?_ _ | refine blk_drew ?_ | refine blk_alloc ?_ _)); exact BK249.out⟩, ⟨hq HB⟩⟩
                 ·
                  rw [if_neg c32] at H; exact absurd H (by simp)
                ·
                 rw [if_neg c31] at H; exact absurd H (by simp)
               ·
                rw [if_neg c30] at H; have c30b0 := decide_eq_false c30; clear c30; have H' := A_ H; clear H; go_wp2
                go_roundg k5
                case measure => have := HK1.out; have := HK2.out; have := HJ23.out; have := HJ27.out; have := HK5.out; omega
                case rel => exact ⟨(x12_5), (x13_27), (wrap64 (x45_2 + 1)), rf, rf, H', ⟨by have := HK1.out; have := HK2.out; have := HJ23.out; have := HJ27.out; have := HK5.out; omega⟩, ⟨mq HO_12⟩, ⟨by (with_reducible repeat (first | refine blk_drewN ?_ _ | refine blk_drew ?_ | refine blk_alloc ?_ _)); exact BK249.out⟩, ⟨hq HB⟩⟩
        ·
         replace c23 := Bool.eq_false_iff.mpr c23; subst c23
         have H1 : (impl_least__Road_arrives.l1 k2 l1 a3 x12_2 x13_2 x14_1 ji20 (wrap64 (x45_2 + 1)) a4_0 a4_1 a0_0 a0_1) = some (r1, r2) := by rw [if_neg (show ¬ (false = true) by decide)] at H; exact H
         clear H; have H := H1; clear H1; have H' := A_ H; clear H; go_wp2_with (first | ((with_reducible refine gate_dst (N := 53) rfl ?_); refine mget_step (some 53) A22.out (mq HO_12) ?_; intro w89 hw_; have hb := mq_below hw_; clear hw_; replace HO_12 := A_ (Mp.below (mq HO_12) hb); replace BK249 := A_ (blk_below (bq BK249) hb); replace HB := A_ (below_step (hq HB) hb); clear hb))
         go_roundg k2
         case measure => have := HK1.out; have := HK2.out; omega
         case rel => exact ⟨(x12_2), (x13_2), (wrap64 (x45_2 + 1)), rf, rf, H', ⟨by have := HK1.out; have := HK2.out; omega⟩, ⟨mq HO_12⟩, ⟨by (with_reducible repeat (first | refine blk_drewN ?_ _ | refine blk_drew ?_ | refine blk_alloc ?_ _)); exact BK249.out⟩, ⟨hq HB⟩⟩
       ·
        rw [if_neg c21] at H; have c21b0 := decide_eq_false c21; clear c21; have H' := A_ H; clear H; go_wp2
        go_roundg k2
        case measure => have := HK1.out; have := HK2.out; omega
        case rel => exact ⟨(x12_2), (x13_2), (wrap64 (x14_1 + 1)), rf, rf, H', ⟨by have := HK1.out; have := HK2.out; omega⟩, ⟨mq HO_12⟩, ⟨by (with_reducible repeat (first | refine blk_drewN ?_ _ | refine blk_drew ?_ | refine blk_alloc ?_ _)); exact BK249.out⟩, ⟨hq HB⟩⟩
    ·
     rw [if_neg c19] at H; have c19b0 := decide_eq_false c19; clear c19; replace H := bm H; obtain ⟨⟨t258, t259⟩, A90, H⟩ := H; (try dsimp only at H); simp only [Option.some.injEq, Prod.mk.injEq] at H
     obtain ⟨rfl, rfl⟩ := H; go_wp2_with (first | ((with_reducible refine gate_callee (f := 64) rfl ?_); refine gL (some 133) Try.func64 #[.int .i64 x13_1] ?_; (with_reducible refine (impl_found.calls x13_1 t258 t259 _ A90.out).mono ?_); rintro e w91 ⟨rfl, hb⟩; refine ⟨_, rfl, ?_⟩; replace HO_12 := A_ (Mp.below (mq HO_12) hb); replace BK249 := A_ (blk_below (bq BK249) hb); replace HB := A_ (below_step (hq HB) hb); clear hb))
     go_ret2
     exact ⟨rt, hq HB⟩
 ·
  replace c7 := Bool.eq_false_iff.mpr c7; subst c7
  have H1 : (some (0, false)) = some (r1, r2) := by rw [if_neg (show ¬ (false = true) by decide)] at H; exact H
  clear H; have H := H1; clear H1; simp only [Option.some.injEq, Prod.mk.injEq] at H
  obtain ⟨rfl, rfl⟩ := H; go_enter Try.func39, Try.ntmps39
  go_wp2_with (first | ((with_reducible refine gate_dst (N := 5) rfl ?_); refine bx (N := 5) #[.int .i64 a0_0, .bool a0_1] 27 ?_; intro gb249 hg w92 hbox hb; have BK249 := A_ (hbox); have GW249 := A_ (bs hg (hq HB) : w.heap.size ≤ gb249); have GE249 := A_ (bs hg (hq HB) : w.heap.size ≤ gb249); replace HB := A_ (below_step (hq HB) hb); clear hb hbox hg; have hcz93_0 : w92.cell? ⟨gb249, 0, none⟩ = some (.int .i64 a0_0) := bc BK249 0; have hcz93_1 : w92.cell? ⟨gb249, 1, none⟩ = some (.bool a0_1) := bc BK249 1; have hfz93_0 := blk_frozen BK249.out 0; have hfz93_1 := blk_frozen BK249.out 1) | ((with_reducible refine gate_dst (N := 29) rfl ?_); refine Kd.R_lit (Kd.int .i64) _ 3 ?hg (N := 29) ?hd (xs := ([a2, a3] : List Int)) (inner := [.int .i64 a2, .int .i64 a3]) (ok := fun _ => True) (okp := fun _ => True) ?hr ?hp (fun _ hk => hk) trivial (Below.refl _ _) (Nat.le_refl _) (by simp) ?_; (case hd => rfl); (case hg => rfl); (case hr => first | (go_simp; done) | (go_simp; rfl)); (case hp => exact (Reps.one (show Kd.M (Kd.int .i64) _ _ _ a2 [.int .i64 a2] from rfl) (Reps.one (show Kd.M (Kd.int .i64) _ _ _ a3 [.int .i64 a3] from rfl) (Reps.none _ _)))); intro v251 w94 ho95 hb hg_ hnew_; clear hg_ hnew_; (first | rw [← Ny250.out] at ho95 | (simp only [Int.reduceToNat] at ho95; rw [← Ny250.out] at ho95)); have HO252 := A_ (Kd.R_lower ho95 (below_size (hq HB))); replace BK249 := A_ (blk_below (bq BK249) hb); replace HB := A_ (below_step (hq HB) hb); clear hb ho95; obtain ⟨Ao96, co96, eo96⟩ := Kd.R_slice HO252.out; subst eo96) | ((with_reducible refine gate_callee (f := 46) rfl ?_); refine gL (some 30) Try.func46 #[.agg #[.int .i64 a0_0, .bool a0_1], .slice A1 l1.length c1, .slice Ao96 y250.length co96] ?_; (with_reducible refine (impl_isCarried.calls k a0_0 a0_1 _ _ l1 _ _ y250 false _ ?side1 ?side2 ?side3 ?side4 A6.out).mono ?_); (case side1 => exact cq (Kd.C_below HR1.out HB.out)); (case side2 => exact HC1.out); (case side3 => exact cq (Kd.R_reads' HO252.out).2.2); (case side4 => exact (Kd.R_reads' HO252.out).2.1); rintro e w97 ⟨rfl, hb⟩; refine ⟨_, rfl, ?_⟩; replace HO252 := A_ (Kd.R_below (rq HO252) hb); replace BK249 := A_ (blk_below (bq BK249) hb); replace HB := A_ (below_step (hq HB) hb); clear hb))
  go_ret2
  exact ⟨rt, hq HB⟩

end Go.Proofs.Ythgbkekfekcfaaa.PFnExactFirstArrival
