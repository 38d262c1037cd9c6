-- Printed, and told shorter by this session's program shrink.py.
-- Printed by this session's program myprint.py.
import Derived.Test.YtmamhnbhahafgaaPFnLabelsx0
import Derived.Test.YtmamhnbhahafgaaPFnLabelsx3
import Derived.Test.YtmamhnbhahafgaaPFnLabelsx4
namespace Go.Proofs.Ytmamhnbhahafgaa.PFnLabels
open Go.RowKit Go.Proofs.Ytmamhnbhahafgaa.Own Go.Proofs.YtmamhnbhahafgaaW.PrintWords Go.Proofs.YtmamhnbhahafgaaW.PrintLast Go.Proofs.YtmamhnbhahafgaaW.PrintMore
attribute [local go_sem] max2_int min2_int max_two min_two max_three min_three max_four min_four   -- for this text's walks alone
set_option linter.unusedVariables false
set_option linter.unusedSimpArgs false

/-! ### impl_Road_table_1: function 116 -/
def impl_Road_table_1.l0 : Nat → List (List Int) → Int → Int → Int → Bool → Int → Int → Int → List Int → Option ((List (List Int)))
  | 0, _, _, _, _, _, _, _, _, _ => none
  | k + 1, x4, x8, x9, x2000, x2001, x248000, x248001, x248002, x248003 => if x9 < x8 then ((impl_Road_walk.f k x2000 x2001 x9 x248001 x248002 x248003 60).bind fun t251 => (if x4.length < 5864062014805 then (impl_Road_table_1.l0 k (x4 ++ [t251]) x8 (wrap64 (x9 + 1)) x2000 x2001 x9 x248001 x248002 x248003) else (none))) else (some x4)
def impl_Road_table_1.f (k : Nat) (a0_0 : Int) (a0_1 : Int) (a0_2 : Int) (l0_3 : List Int) (a1_0 : Int) (a1_1 : Bool) : Option ((List (List Int))) := impl_Road_table_1.l0 k (([] : List (List Int))) a1_0 0 a1_0 a1_1 a0_0 a0_1 a0_2 l0_3
theorem impl_Road_table_1.mono_l : ∀ k, (∀ y0 y1 y2 y3 y4 y5 y6 y7 y8, LeO (impl_Road_table_1.l0 k y0 y1 y2 y3 y4 y5 y6 y7 y8) (impl_Road_table_1.l0 (k + 1) y0 y1 y2 y3 y4 y5 y6 y7 y8))
  | 0 => fun _ _ _ _ _ _ _ _ _ r h => by simp [impl_Road_table_1.l0] at h
  | k + 1 => by
    have ih0 := impl_Road_table_1.mono_l k
    · intro y0 y1 y2 y3 y4 y5 y6 y7 y8
      unfold impl_Road_table_1.l0
      repeat' first
      | (with_reducible exact ih0 _ _ _ _ _ _ _ _ _)
      | (with_reducible exact impl_Road_walk.mono _ _ _ _ _ _ _ _)
      | (with_reducible exact LeO.refl _)
      | (with_reducible exact LeO.none _)
      | (with_reducible refine LeO.ite ?_ ?_)
      | (with_reducible refine LeO.bind ?_ (fun _ => ?_))
      | exact ih0 _ _ _ _ _ _ _ _ _
      | exact impl_Road_walk.mono _ _ _ _ _ _ _ _
      | exact LeO.none _
      | refine LeO.ite ?_ ?_
      | refine LeO.bind ?_ (fun _ => ?_)
theorem impl_Road_table_1.mono : ∀ a0 a1 a2 a3 a4 a5 k, LeO (impl_Road_table_1.f k a0 a1 a2 a3 a4 a5) (impl_Road_table_1.f (k + 1) a0 a1 a2 a3 a4 a5) := by
  intro a0 a1 a2 a3 a4 a5 k
  have ih0 := impl_Road_table_1.mono_l k
  unfold impl_Road_table_1.f
  repeat' first
      | (with_reducible exact ih0 _ _ _ _ _ _ _ _ _)
      | (with_reducible exact impl_Road_walk.mono _ _ _ _ _ _ _ _)
      | (with_reducible exact LeO.refl _)
      | (with_reducible exact LeO.none _)
      | (with_reducible refine LeO.ite ?_ ?_)
      | (with_reducible refine LeO.bind ?_ (fun _ => ?_))
      | exact ih0 _ _ _ _ _ _ _ _ _
      | exact impl_Road_walk.mono _ _ _ _ _ _ _ _
      | exact LeO.none _
      | refine LeO.ite ?_ ?_
      | refine LeO.bind ?_ (fun _ => ?_)
set_option maxHeartbeats 8000000 in
set_option maxRecDepth 100000 in
theorem impl_Road_table_1.calls (k : Nat) (a0_0 : Int) (a0_1 : Int) (a0_2 : Int) (A0_3 : Option Addr) (c0_3 : Nat) (l0_3 : List Int) (gc1 : Nat) (a1_0 : Int) (a1_1 : Bool) (r : List (List Int)) (w : World) (hb1 : w.heap[gc1]? = some (.cells #[.int .i64 a1_0, .bool a1_1] 25 (0, 0))) (hr0_3 : Kd.C (Kd.int .i64) w A0_3 l0_3.length l0_3) (hc0_3 : l0_3.length ≤ c0_3) (h : impl_Road_table_1.f k a0_0 a0_1 a0_2 l0_3 a1_0 a1_1 = some r) :
    Calls Try.prog 116 #[.agg #[.int .i64 a0_0, .int .i64 a0_1, .int .i64 a0_2, .slice A0_3 l0_3.length c0_3], .pointer (some ⟨gc1, 0, none⟩)] w fun e w' => ∃ v0_ : Value, e = .returned (v0_) ∧ Kd.S (Kd.slice 3 (Kd.int .i64)) 26 w' w.heap.size (fun _ => True) v0_ r ∧ Below w.heap.size w w' := by
 have hu93 := Try.underlying93
 have hu25 := Try.underlying25
 have HR0_3 := A_ hr0_3
 have HC0_3 := A_ hc0_3
 clear hr0_3 hc0_3
 have BK1 := A_ hb1
 clear hb1
 have HB := A_ (Below.refl w.heap.size w)
 have H : (impl_Road_table_1.l0 k (([] : List (List Int))) a1_0 0 a1_0 a1_1 a0_0 a0_1 a0_2 l0_3) = some r := h
 clear h
 obtain ⟨y248, hy248⟩ : ∃ y_ : List (List Int), y_ = (([] : List (List Int))) := ⟨_, rfl⟩
 replace H : (impl_Road_table_1.l0 k y248 a1_0 0 a1_0 a1_1 a0_0 a0_1 a0_2 l0_3) = some r := by first | (rw [hy248]; with_reducible exact H) | (have H2_ := (Option.bind_some _ _).symm.trans H; rw [hy248]; with_reducible exact H2_) | (have H2_ := (Option.bind_some _ _).symm.trans H; with_reducible exact H2_) | with_reducible exact H | (rw [hy248]; exact H) | exact H
 have Ny248 := A_ hy248
 clear hy248
 have H' := A_ H
 clear H
 go_enter Try.func116, Try.ntmps116
 go_wp2_with (first | ((with_reducible refine gate_dst (N := 2) rfl ?_); refine box_event ?hg (N := 2) ?hd (cs := #[.int .i64 a0_0, .int .i64 a0_1, .int .i64 a0_2, .slice A0_3 l0_3.length c0_3]) (t := 93) ?hr ?_; (case hd => rfl); (case hg => rfl); (case hr => first | (go_simp; done) | (go_simp; rfl)); intro gb247 hg w3 hbox hb; have n0_ := A_ (blk_below (bq BK1) hb); have n1_ := A_ (below_step (hq HB) hb); have n2_ := A_ (hbox); have n3_ := A_ ((by rw [hg]; exact (below_size (hq HB)) : w.heap.size ≤ gb247)); have n4_ := A_ ((by rw [hg]; exact (below_size (hq HB)) : w.heap.size ≤ gb247)); have n5_ := A_ ((by rw [hg]; exact Nat.ne_of_lt (blk_lt (bq BK1)) : gc1 ≠ gb247)); have n6_ := A_ ((by rw [hg]; exact Nat.ne_of_gt (blk_lt (bq BK1)) : gb247 ≠ gc1)); clear BK1; clear HB; have BK1 := n0_; have HB := n1_; have BK247 := n2_; have GW247 := n3_; have GE247 := n4_; have NB1_247 := n5_; have NB247_1 := n6_; clear n0_ n1_ n2_ n3_ n4_ n5_ n6_; clear hb hbox hg) | ((with_reducible refine gate_dst (N := 6) rfl ?_); refine Kd.S_lit (Kd.slice 3 (Kd.int .i64)) _ 26 ?hg (N := 6) ?hd (xs := ([] : List (List Int))) (inner := []) (ok := fun _ => True) (okp := fun _ => True) ?hr ?hp (fun _ hk => hk) trivial (Below.refl _ _) (Nat.le_refl _) (by simp) ?_; (case hd => rfl); (case hg => rfl); (case hr => first | (go_simp; done) | (go_simp; rfl)); (case hp => exact (Reps.none _ _)); intro v249 w4 ho5 hb hg_ hnew_; clear hg_ hnew_; (first | rw [← Ny248.out] at ho5 | (simp only [Int.reduceToNat] at ho5; rw [← Ny248.out] at ho5)); have n0_ := A_ (Kd.S_lower ho5 (below_size (hq HB))); have n1_ := A_ (blk_below (bq BK1) hb); have n2_ := A_ (blk_below (bq BK247) hb); have n3_ := A_ (below_step (hq HB) hb); clear BK1; clear BK247; clear HB; have HO250 := n0_; have BK1 := n1_; have BK247 := n2_; have HB := n3_; clear n0_ n1_ n2_ n3_; clear hb ho5; have hnb6 := NB1_247.out; have hnc6 := NB247_1.out; have hcz7_0 : w4.cell? ⟨gc1, 0, none⟩ = some (.int .i64 a1_0) := bc BK1 0; have hcz7_1 : w4.cell? ⟨gc1, 1, none⟩ = some (.bool a1_1) := bc BK1 1; have hfz7_0 := blk_frozen BK1.out 0; have hfz7_1 := blk_frozen BK1.out 1))
 go_loopg [4, 9] k (fun kq v4 v9 w' => ∃ (x4_1 : List (List Int)) (x9_1 : Int) (x248000_1 : Int), v9 = .int .i64 x9_1 ∧ Aside0 (impl_Road_table_1.l0 kq x4_1 a1_0 x9_1 a1_0 a1_1 x248000_1 a0_1 a0_2 l0_3 = some r) ∧ Aside0 (kq ≤ k) ∧ Aside0 (Kd.S (Kd.slice 3 (Kd.int .i64)) 26 w' w.heap.size (fun _ => True) v4 x4_1) ∧ Aside0 (w'.heap[gc1]? = some (.cells #[.int .i64 a1_0, .bool a1_1] 25 (0, 0))) ∧ Aside0 (w'.heap[gb247]? = some (.cells #[.int .i64 x248000_1, .int .i64 a0_1, .int .i64 a0_2, (.slice A0_3 l0_3.length c0_3)] 93 (0, 0))) ∧ Aside0 (Below w.heap.size w w'))
 case atStart => exact ⟨(y248), (0), (a0_0), (by first | rfl | (simp; done) | (simp [*]; done)), H', ⟨Nat.le_refl _⟩, ⟨sq HO250⟩, ⟨bq BK1⟩, ⟨bq BK247⟩, ⟨hq HB⟩⟩
 case round =>
  clear H'
  try clear c1
  try clear p2
  try clear c6
  try clear hcz7_0
  try clear hcz7_1
  try clear hfz7_0
  try clear hfz7_1
  obtain ⟨x4_1, x9_1, x248000_1, rfl, HA, HK1, HO_4, BK1, BK247, HB⟩ := hrel
  cases gk with
  | zero => exact absurd HA.out (by simp [impl_Road_table_1.l0])
  | succ k1 =>
   have H := HA.out
   clear HA
   simp only [impl_Road_table_1.l0] at H
   by_cases c8 : x9_1 < a1_0
   ·
    rw [if_pos c8] at H
    have c8b0 : decide (x9_1 < a1_0) = true := decide_eq_true c8
    clear c8
    replace H := Option.bind_eq_some_iff.mp H
    obtain ⟨t251, A90, H⟩ := H
    replace H : (if x4_1.length < 5864062014805 then (impl_Road_table_1.l0 k1 (x4_1 ++ [t251]) a1_0 (wrap64 (x9_1 + 1)) a1_0 a1_1 x9_1 a0_1 a0_2 l0_3) else (none)) = some r := H
    have A9 := A_ A90
    clear A90
    by_cases c10 : x4_1.length < 5864062014805
    ·
     rw [if_pos c10] at H
     have LMc10 := A_ c10
     clear c10
     obtain ⟨y254, hy254⟩ : ∃ y_ : List (List Int), y_ = (x4_1 ++ [t251]) := ⟨_, rfl⟩
     replace H : (impl_Road_table_1.l0 k1 y254 a1_0 (wrap64 (x9_1 + 1)) a1_0 a1_1 x9_1 a0_1 a0_2 l0_3) = some r := by first | (rw [hy254]; with_reducible exact H) | (have H2_ := (Option.bind_some _ _).symm.trans H; rw [hy254]; with_reducible exact H2_) | (have H2_ := (Option.bind_some _ _).symm.trans H; with_reducible exact H2_) | with_reducible exact H | (rw [hy254]; exact H) | exact H
     have Ny254 := A_ hy254
     clear hy254
     have H' := A_ H
     clear H
     have hnb11 := NB247_1.out
     have hnc11 := NB1_247.out
     have hcz12_0 : wr.cell? ⟨gb247, 0, none⟩ = some (.int .i64 x248000_1) := bc BK247 0
     have hcz12_1 : wr.cell? ⟨gb247, 1, none⟩ = some (.int .i64 a0_1) := bc BK247 1
     have hcz12_2 : wr.cell? ⟨gb247, 2, none⟩ = some (.int .i64 a0_2) := bc BK247 2
     have hcz12_3 : wr.cell? ⟨gb247, 3, none⟩ = some (.slice A0_3 l0_3.length c0_3) := bc BK247 3
     have hfz12_0 := blk_frozen BK247.out 0
     have hfz12_1 := blk_frozen BK247.out 1
     have hfz12_2 := blk_frozen BK247.out 2
     have hfz12_3 := blk_frozen BK247.out 3
     have hcz13_0 : wr.cell? ⟨gc1, 0, none⟩ = some (.int .i64 a1_0) := bc BK1 0
     have hcz13_1 : wr.cell? ⟨gc1, 1, none⟩ = some (.bool a1_1) := bc BK1 1
     have hfz13_0 := blk_frozen BK1.out 0
     have hfz13_1 := blk_frozen BK1.out 1
     go_wp2_with (first | ((with_reducible refine gate_callee (f := 117) rfl ?_); refine goesL_ (some 17) rfl rfl Try.func117 (by kernel_rfl) rfl #[.agg #[.int .i64 a1_0, .bool a1_1], .agg #[.int .i64 x9_1, .int .i64 a0_1, .int .i64 a0_2, .slice A0_3 l0_3.length c0_3], .int .i64 60] rfl gq ?_; (with_reducible refine (impl_Road_walk.calls k1 a1_0 a1_1 x9_1 a0_1 a0_2 _ _ l0_3 60 t251 _ ?side1 ?side2 A9.out).mono ?_); (case side1 => exact Kd.C_below HR0_3.out (hq HB)); (case side2 => exact HC0_3.out); rintro e w14 ⟨v252, rfl, ho0, hb⟩; refine ⟨_, rfl, ?_⟩; have n0_ := A_ (Kd.S_elder' (by (with_reducible repeat (first | apply Kd.S_alloc | apply Kd.S_drewN | apply Kd.S_drew)); exact (Kd.S_mono (Kd.S_far (p := ⟨gb247, 0, none⟩) (Kd.S_types HO_4.out BK247.out (by decide)) (fun _ hk => hk.2) (.int .i64 x9_1)) (fun _ h_ => h_.1))) (Kd.R_base ho0) hb); have n1_ := A_ (Kd.R_lower ho0 (below_size (hq HB))); have n2_ := A_ (blk_below (g := gc1) (o := .cells #[.int .i64 a1_0, .bool a1_1] 25 (0, 0)) (by (with_reducible repeat (first | refine blk_drewN ?_ _ | refine blk_drew ?_ | refine blk_alloc ?_ _)); refine blk_far ?_ NB1_247.out _; (with_reducible repeat (first | refine blk_drewN ?_ _ | refine blk_drew ?_ | refine blk_alloc ?_ _)); exact BK1.out) hb); have n3_ := A_ (blk_below (g := gb247) (o := .cells #[.int .i64 x9_1, .int .i64 a0_1, .int .i64 a0_2, .slice A0_3 l0_3.length c0_3] 93 (0, 0)) (by (with_reducible repeat (first | refine blk_drewN ?_ _ | refine blk_drew ?_ | refine blk_alloc ?_ _)); refine blk_put (cs := #[.int .i64 x248000_1, .int .i64 a0_1, .int .i64 a0_2, .slice A0_3 l0_3.length c0_3]) ?_ 0 _ rfl; (with_reducible repeat (first | refine blk_drewN ?_ _ | refine blk_drew ?_ | refine blk_alloc ?_ _)); exact BK247.out) hb); have n4_ := A_ (below_step (hq HB) hb); clear HO_4; clear BK1; clear BK247; clear HB; have HO_4 := n0_; have HO253 := n1_; have BK1 := n2_; have BK247 := n3_; have HB := n4_; clear n0_ n1_ n2_ n3_ n4_; (try clear hb); (try clear hb2); (try clear hk); (try clear hi); (try clear ho0); obtain ⟨Ao16, co16, eo16⟩ := Kd.R_slice HO253.out; subst eo16) | ((with_reducible refine gate_builtin (b := .append) (xs := #[.tmp 14, .tmp 18]) rfl ?_); at_builtin; refine Kd.S_append (Kd.slice 3 (Kd.int .i64)) (w0 := w) w.heap.size rfl (.tmp 14) (.tmp 18) 40 26 (.slice none 0 0) 24 rfl Try.underlying40 info26 rfl (by decide) (by omega) u4 x4_1 t251 [.slice Ao16 t251.length co16] (fun _ => True) (fun k_ => some k_ = (.slice Ao16 t251.length co16 : Value).ownBlock) rfl rfl ?aP (fun k_ hk_ => ((Kd.R_mono (ok' := fun k_ => ((fun _ => True)) k_ ∧ some k_ ≠ (u4 : Value).ownBlock) (Kd.R_apart' (HO253.out) (Kd.S_typed HO_4.out) (by decide)) (fun k_ hk => ⟨trivial, hk.2⟩))).1 k_ hk_.symm) ?aF ?aO ?aB ?aS ?aL ?_; (case aP => exact Kd.M_row (Kd.R_mono (Kd.R_tight rfl (Kd.R_mono (ok' := fun k_ => ((fun _ => True)) k_ ∧ some k_ ≠ (u4 : Value).ownBlock) (Kd.R_apart' (HO253.out) (Kd.S_typed HO_4.out) (by decide)) (fun k_ hk => ⟨trivial, hk.2⟩))) (fun _ h_ => h_))); (case aB => exact (hq HB)); (case aF => exact (fun _ _ => trivial)); (case aO => exact (by (with_reducible repeat (first | apply Kd.S_alloc | apply Kd.S_drewN | apply Kd.S_drew)); exact Kd.S_mono HO_4.out (fun k_ hk => ⟨trivial, fun e_ => hk.2 e_⟩))); (case aS => exact (below_size (hq HB))); (case aL => have := LMc10.out; omega); intro v255 w15 ho hb hg hat; rw [← Ny254.out] at ho; have n0_ := A_ (blk_grown (g := gc1) (o := .cells #[.int .i64 a1_0, .bool a1_1] 25 (0, 0)) (bq BK1) hg (Kd.S_ne HO_4.out BK1.out (by decide))); have n1_ := A_ (blk_grown (g := gb247) (o := .cells #[.int .i64 x9_1, .int .i64 a0_1, .int .i64 a0_2, .slice A0_3 l0_3.length c0_3] 93 (0, 0)) (bq BK247) hg (Kd.S_ne HO_4.out BK247.out (by decide))); have n2_ := A_ (hb); have n3_ := A_ (ho); clear BK1; clear BK247; clear HB; clear HO_4; clear HO253; have BK1 := n0_; have BK247 := n1_; have HB := n2_; have HO256 := n3_; clear n0_ n1_ n2_ n3_; clear ho hb hg hat))
     go_roundg k1
     case measure => have := HK1.out; omega
     case rel => exact ⟨(y254), (wrap64 (x9_1 + 1)), (x9_1), (by first | rfl | (simp; done) | (simp [*]; done)), H', ⟨by have := HK1.out; omega⟩, ⟨sq HO256⟩, ⟨bq BK1⟩, ⟨bq BK247⟩, ⟨hq HB⟩⟩
    ·
     rw [if_neg c10] at H
     exact absurd H (by simp)
   ·
    rw [if_neg c8] at H
    have c8b0 : decide (x9_1 < a1_0) = false := decide_eq_false c8
    clear c8
    obtain rfl := Option.some.inj H
    go_wp2
    go_ret
    exact ⟨_, rt, sq HO_4, hq HB⟩

/-! ### slices.IndexFunc at rows of ints, whatever the predicate -/
set_option maxHeartbeats 4000000 in
theorem idxf_ints.calls (q : List Int → Option Bool) (g : FuncId) (lb : Array Value) (eg : ∀ args w, (callFunc g args).run Try.prog w = .ok (.enter g args) w) (A0 : Option Addr) (c0 : Nat) (l : List (List Int)) (r : Int) (w : World)
  (hr0 : Kd.C (Kd.slice 3 (Kd.int .i64)) w A0 l.length l) (hc0 : l.length ≤ c0)
  (hp : ∀ (x : List Int) (A' : Option Addr) (c' : Nat) (b : Bool) (W : World), Below w.heap.size w W → Kd.C (Kd.int .i64) W A' x.length x → x.length ≤ c' → q x = some b → Calls Try.prog g (#[.slice A' x.length c'] ++ lb) W fun e W' => e = .returned (.bool b) ∧ Below W.heap.size W W')
  (h : idxO q l 0 = some r) :
    Calls Try.prog 114 #[.slice A0 l.length c0, .func (.func g) #[] lb] w fun e w' => e = .returned (.int .i64 r) ∧ Below w.heap.size w w' := by
 have HR0 := A_ hr0
 have HC0 := A_ hc0
 have HP := A_ hp
 have HI := A_ h
 have hmax : l.length ≤ 9223372036854775807 := hr0.2.1
 clear hr0 hc0 hp h
 go_enter Try.func114, Try.ntmps114
 go_wp2
 go_loopg [5, 8] l.length (fun gg _ s8 wr => ∃ kk : Nat, kk ≤ l.length ∧ l.length - kk ≤ gg ∧ s8 = .int .i64 kk ∧ Aside0 (Below w.heap.size w wr) ∧ Aside0 (idxO q (l.drop kk) kk = some r))
 case atStart => exact ⟨0, Nat.zero_le _, by omega, rfl, ⟨Below.refl _ w⟩, HI⟩
 case round =>
  clear HI
  obtain ⟨kk, hkk, hg, rfl, HB, HI⟩ := hrel
  by_cases hlt : kk < l.length
  ·
   have hltz : (kk : Int) < (l.length : Int) := by omega
   obtain ⟨ad, A3, c3, e3, hx, hl3, hi3⟩ := at_L2 HR0.out (kk : Int) (by omega) (by omega)
   subst e3
   replace hx := (HB.out.cell (World.block_lt_of_cell? w _ hx)).trans hx
   rw [Int.toNat_natCast] at hx
   have h1 := HI.out
   have hg0 : l[kk] = rd_L2 l (kk : Int) := by unfold rd_L2; simp [List.getD_eq_getElem?_getD, List.getElem?_eq_getElem hlt]
   rw [List.drop_eq_getElem_cons hlt, hg0] at h1
   simp only [idxO] at h1
   obtain ⟨b, hq, h2⟩ := Option.bind_eq_some_iff.mp h1
   have hcall := HP.out (rd_L2 l (kk : Int)) A3 c3 b wr HB.out (Kd.C_below hi3 HB.out) hl3 hq
   have H2 := A_ h2
   clear h1 h2 hq hg0 hl3 hi3 HI
   cases b with
   | true =>
    go_wp2_with (go_at_fn g; refine hcall.mono ?_; rintro e w' ⟨rfl, hb'⟩)
    go_ret
    have h3 : some (kk : Int) = some r := by simpa using H2.out
    obtain rfl := Option.some.inj h3
    exact ⟨rfl, below_step HB.out hb'⟩
   | false =>
    go_wp2_with (go_at_fn g; refine hcall.mono ?_; rintro e w' ⟨rfl, hb'⟩)
    go_roundg (l.length - (kk + 1))
    case measure => omega
    case rel => exact ⟨kk + 1, by omega, by omega, by go_num, ⟨below_step HB.out hb'⟩, ⟨by have h3 := H2.out; simpa using h3⟩⟩
  ·
   have hltz : ¬ (kk : Int) < (l.length : Int) := by omega
   have h1 := HI.out
   rw [List.drop_of_length_le (by omega)] at h1
   simp only [idxO] at h1
   have H1 := A_ (Option.some.inj h1)
   clear h1 HI
   go_wp2
   go_ret
   have h3 := H1.out
   subst h3
   exact ⟨rfl, HB.out⟩

/-! ### slices.ContainsFunc at rows of ints, whatever the predicate -/
set_option maxHeartbeats 4000000 in
theorem conf_ints.calls (q : List Int → Option Bool) (g : FuncId) (lb : Array Value) (eg : ∀ args w, (callFunc g args).run Try.prog w = .ok (.enter g args) w) (A0 : Option Addr) (c0 : Nat) (l : List (List Int)) (b : Bool) (w : World)
  (hr0 : Kd.C (Kd.slice 3 (Kd.int .i64)) w A0 l.length l) (hc0 : l.length ≤ c0)
  (hp : ∀ (x : List Int) (A' : Option Addr) (c' : Nat) (b : Bool) (W : World), Below w.heap.size w W → Kd.C (Kd.int .i64) W A' x.length x → x.length ≤ c' → q x = some b → Calls Try.prog g (#[.slice A' x.length c'] ++ lb) W fun e W' => e = .returned (.bool b) ∧ Below W.heap.size W W')
  (h : anyO q l = some b) :
    Calls Try.prog 99 #[.slice A0 l.length c0, .func (.func g) #[] lb] w fun e w' => e = .returned (.bool b) ∧ Below w.heap.size w w' := by
 obtain ⟨r, hr, hb⟩ := idxO_any (i := 0) h
 subst hb
 have hcall := fun W hr0 hp => idxf_ints.calls q g lb eg A0 c0 l r W hr0 hc0 hp hr
 have HR0 := A_ hr0
 have HP := A_ hp
 clear hr0 hp h hr hc0 eg
 have HC := A_ hcall
 clear hcall
 go_enter Try.func99, Try.ntmps99
 go_wp2_with (go_at_call 114; refine (HC.out _ HR0.out HP.out).mono ?_; rintro e w' ⟨rfl, hb'⟩)
 go_ret
 exact ⟨rfl, hb'⟩

/-! ### impl_together$1: the predicate together hands on -/
def togQ (i : Nat) (p : Int) (x : List Int) : Option Bool := if i < x.length then some (rd x (i : Int) != p) else none
def togO (l : List (List Int)) : List Int → Nat → Option Int
  | [], _ => some (-1)
  | p :: t, i => (anyO (togQ i p) l).bind fun b => if b = true then togO l t (i + 1) else some (i : Int)
set_option maxHeartbeats 4000000 in
theorem together_1.calls (i : Nat) (p : Int) (gt gp : Nat) (x : List Int) (A' : Option Addr) (c' : Nat) (b : Bool) (w : World) (hbt : w.heap[gt]? = some (.cells #[.int .i64 i] 3 (0, 0))) (hbp : w.heap[gp]? = some (.cells #[.int .i64 p] 3 (0, 0))) (hr0 : Kd.C (Kd.int .i64) w A' x.length x) (hc0 : x.length ≤ c')
  (h : togQ i p x = some b) :
    Calls Try.prog 123 (#[.slice A' x.length c'] ++ #[.pointer (some ⟨gt, 0, none⟩), .pointer (some ⟨gp, 0, none⟩)]) w fun e w' => e = .returned (.bool b) ∧ Below w.heap.size w w' := by
 unfold togQ at h
 by_cases c : i < x.length
 ·
  rw [if_pos c] at h
  obtain rfl := Option.some.inj h
  clear h
  have hx0 : w.cell? ⟨gt, 0, none⟩ = some (.int .i64 i) := (blk_cell hbt 0).trans rfl
  have hx1 : w.cell? ⟨gp, 0, none⟩ = some (.int .i64 p) := (blk_cell hbp 0).trans rfl
  have p1 : 0 ≤ (i : Int) := by omega
  have q1 : (i : Int) < (x.length : Int) := by omega
  obtain ⟨ad, e, hx⟩ := Kd.at_int hr0 (i : Int) p1 q1
  cases e
  rw [Int.toNat_natCast] at hx
  clear hbt hbp hr0
  go_enter Try.func123, Try.ntmps123
  go_wp2
  repeat (go_quiet (fail); try go_wp2)
  go_ret
  exact ⟨by first | rfl | (simp; done), by repeat (first | exact Below.refl _ _ | apply pw_below_drewN | apply below_drew1)⟩
 ·
  rw [if_neg c] at h
  exact absurd h (by simp)
/-! ### impl_together -/
def impl_together.f (k : Nat) (l0 : List (List Int)) : Option Int := if 0 < (l0.length : Int) then togO l0 (rd_L2 l0 0) 0 else none
theorem impl_together.mono : ∀ a0 k, LeO (impl_together.f k a0) (impl_together.f (k + 1) a0) := by
  intro a0 k
  exact LeO.refl _
set_option maxHeartbeats 8000000 in
set_option maxRecDepth 100000 in
theorem impl_together.calls (k : Nat) (A0 : Option Addr) (c0 : Nat) (l0 : List (List Int)) (r : Int) (w : World) (hr0 : Kd.C (Kd.slice 3 (Kd.int .i64)) w A0 l0.length l0) (hc0 : l0.length ≤ c0) (h : impl_together.f k l0 = some r) :
    Calls Try.prog 118 #[.slice A0 l0.length c0] w fun e w' => e = .returned (.int .i64 r) ∧ Below w.heap.size w w' := by
 unfold impl_together.f at h
 by_cases c : 0 < (l0.length : Int)
 ·
  rw [if_pos c] at h
  have HI := A_ h
  have HR0 := A_ hr0
  have HC0 := A_ hc0
  clear h hr0 hc0
  have EG := A_ (show ∀ (args : Array Value) (w : World), (callFunc 123 args).run Try.prog w = .ok (.enter 123 args) w from enters_of Try.func123 (by kernel_rfl) rfl)
  have p0 : 0 ≤ (0 : Int) := by omega
  obtain ⟨ad0, A1, c1, e0, hx0, hl0, hi0⟩ := at_L2 HR0.out 0 p0 c
  subst e0
  have hlen0 : ((rd_L2 l0 0).length : Int) ≤ 9223372036854775807 := by have := hi0.2.1; omega
  have HR1 := A_ hi0
  have HC1 := A_ hl0
  clear hi0 hl0
  (try rw [show ((0 : Int)).toNat = 0 from rfl] at hx0)
  (try rw [Addr.add_zero'] at hx0)
  generalize rd_L2 l0 0 = row at *
  have qi0 : (0 < l0.length) = True := eq_true (by omega)
  go_enter Try.func118, Try.ntmps118
  go_wp2
  go_loopg [3, 4, 9] row.length (fun gg _ _ s9 wr => ∃ kk : Nat, kk ≤ row.length ∧ row.length - kk ≤ gg ∧ s9 = .int .i64 kk ∧ Aside0 (Below w.heap.size w wr) ∧ Aside0 (togO l0 (row.drop kk) kk = some r))
  case atStart => exact ⟨0, Nat.zero_le _, by omega, rfl, ⟨by repeat (first | exact Below.refl _ _ | apply pw_below_drewN | apply below_drew1)⟩, HI⟩
  case round =>
   clear HI
   obtain ⟨kk, hkk, hg, rfl, HB, HI⟩ := hrel
   by_cases hlt : kk < row.length
   ·
    have hltz : (kk : Int) < (row.length : Int) := by omega
    have hkz : 0 ≤ (kk : Int) := by omega
    obtain ⟨ad2, e2, hx2⟩ := Kd.at_int (Kd.C_below HR1.out HB.out) (kk : Int) hkz hltz
    cases e2
    rw [Int.toNat_natCast] at hx2
    have h1 := HI.out
    rw [List.drop_eq_getElem_cons hlt, show row[kk] = rd row (kk : Int) by unfold rd; simp [List.getD_eq_getElem?_getD, List.getElem?_eq_getElem hlt]] at h1
    simp only [togO] at h1
    obtain ⟨b, hq, h2⟩ := Option.bind_eq_some_iff.mp h1
    have H2 := A_ h2
    have HQ := A_ hq
    clear h1 h2 hq HI
    generalize hp : rd row (kk : Int) = p at *
    cases b with
    | true =>
     go_wp2_with (first | ((with_reducible refine gate_dst (N := 3) rfl ?_); refine box_event ?hg (N := 3) ?hd (cs := #[.int .i64 0]) (t := 3) ?hr ?_; (case hd => rfl); (case hg => rfl); (case hr => first | (go_simp; done) | (go_simp; rfl)); intro gt hg3 w3 hbox3 hb3; have HG3 := A_ hg3; have HX3 := A_ hbox3; have HB3 := A_ hb3; clear hg3 hbox3 hb3) | ((with_reducible refine gate_dst (N := 4) rfl ?_); refine box_event ?hg (N := 4) ?hd (cs := #[.int .i64 0]) (t := 3) ?hr ?_; (case hd => rfl); (case hg => rfl); (case hr => first | (go_simp; done) | (go_simp; rfl)); intro gp hg4 w4 hbox4 hb4; have hg3 := HG3.out; have hbox3 := HX3.out; have hb3 := HB3.out; have hbt4 := blk_below hbox3 hb4; have hne : gt ≠ gp := (by rw [hg4]; exact Nat.ne_of_lt (blk_lt hbox3)); have hne' : gp ≠ gt := fun h_ => hne h_.symm; have hc3 : w4.cell? ⟨gt, 0, none⟩ = some (.int .i64 0) := (blk_cell hbt4 0).trans rfl; have hc4 : w4.cell? ⟨gp, 0, none⟩ = some (.int .i64 0) := (blk_cell hbox4 0).trans rfl; have hf3 := blk_frozen hbt4 0; have hf4 := blk_frozen hbox4 0; have HB4 := A_ (below_step (below_step HB.out hb3) hb4); have GE3 := A_ (show w.heap.size ≤ gt by rw [hg3]; exact below_size HB.out); have GE4 := A_ (show w.heap.size ≤ gp by rw [hg4]; exact below_size (below_step HB.out hb3)); have BT := A_ hbt4; have BP := A_ hbox4; clear hbt4 hbox4 hbox3 hb3 hb4 hg3 hg4 HG3 HX3 HB3) | ((with_reducible refine gate_callee (f := 99) rfl ?_); refine goesL_ (some 16) rfl rfl Try.func99 (by kernel_rfl) rfl #[.slice (some ad0) l0.length c0, .func (.func 123) #[] #[.pointer (some ⟨gt, 0, none⟩), .pointer (some ⟨gp, 0, none⟩)]] rfl (by (try simp only [List.map_toArray, List.map_cons, List.map_nil]); first | done | rfl) ?_; have BT2 := A_ (blk_far (blk_put BT.out 0 (.int .i64 (kk : Int)) rfl) (p := ⟨gp, 0, none⟩) hne (.int .i64 p)); have BP2 := A_ (blk_put (blk_far BP.out (p := ⟨gt, 0, none⟩) hne' (.int .i64 (kk : Int))) 0 (.int .i64 p) rfl); have HB5 := A_ (below_set (j := 0) (v := .int .i64 p) (below_set (j := 0) (v := .int .i64 (kk : Int)) HB4.out GE3.out) GE4.out); (with_reducible refine (conf_ints.calls (togQ kk p) 123 #[.pointer (some ⟨gt, 0, none⟩), .pointer (some ⟨gp, 0, none⟩)] EG.out (some ad0) c0 l0 true _ ?side1 ?side2 ?side3 HQ.out).mono ?_); (case side1 => exact Kd.C_below HR0.out HB5.out); (case side2 => exact HC0.out); (case side3 => exact fun x A' c' b W hbW hC hl hq => together_1.calls kk p gt gp x A' c' b W (blk_below BT2.out hbW) (blk_below BP2.out hbW) hC hl hq); rintro e w10 ⟨rfl, hb⟩; refine ⟨_, rfl, ?_⟩; have HB6 := A_ (below_step HB5.out hb); clear hb))
     go_roundg (row.length - (kk + 1))
     case measure => omega
     case rel => exact ⟨kk + 1, by omega, by omega, by go_num, HB6, ⟨by have h3 := H2.out; simpa using h3⟩⟩
    | false =>
     go_wp2_with (first | ((with_reducible refine gate_dst (N := 3) rfl ?_); refine box_event ?hg (N := 3) ?hd (cs := #[.int .i64 0]) (t := 3) ?hr ?_; (case hd => rfl); (case hg => rfl); (case hr => first | (go_simp; done) | (go_simp; rfl)); intro gt hg3 w3 hbox3 hb3; have HG3 := A_ hg3; have HX3 := A_ hbox3; have HB3 := A_ hb3; clear hg3 hbox3 hb3) | ((with_reducible refine gate_dst (N := 4) rfl ?_); refine box_event ?hg (N := 4) ?hd (cs := #[.int .i64 0]) (t := 3) ?hr ?_; (case hd => rfl); (case hg => rfl); (case hr => first | (go_simp; done) | (go_simp; rfl)); intro gp hg4 w4 hbox4 hb4; have hg3 := HG3.out; have hbox3 := HX3.out; have hb3 := HB3.out; have hbt4 := blk_below hbox3 hb4; have hne : gt ≠ gp := (by rw [hg4]; exact Nat.ne_of_lt (blk_lt hbox3)); have hne' : gp ≠ gt := fun h_ => hne h_.symm; have hc3 : w4.cell? ⟨gt, 0, none⟩ = some (.int .i64 0) := (blk_cell hbt4 0).trans rfl; have hc4 : w4.cell? ⟨gp, 0, none⟩ = some (.int .i64 0) := (blk_cell hbox4 0).trans rfl; have hf3 := blk_frozen hbt4 0; have hf4 := blk_frozen hbox4 0; have HB4 := A_ (below_step (below_step HB.out hb3) hb4); have GE3 := A_ (show w.heap.size ≤ gt by rw [hg3]; exact below_size HB.out); have GE4 := A_ (show w.heap.size ≤ gp by rw [hg4]; exact below_size (below_step HB.out hb3)); have BT := A_ hbt4; have BP := A_ hbox4; clear hbt4 hbox4 hbox3 hb3 hb4 hg3 hg4 HG3 HX3 HB3) | ((with_reducible refine gate_callee (f := 99) rfl ?_); refine goesL_ (some 16) rfl rfl Try.func99 (by kernel_rfl) rfl #[.slice (some ad0) l0.length c0, .func (.func 123) #[] #[.pointer (some ⟨gt, 0, none⟩), .pointer (some ⟨gp, 0, none⟩)]] rfl (by (try simp only [List.map_toArray, List.map_cons, List.map_nil]); first | done | rfl) ?_; have BT2 := A_ (blk_far (blk_put BT.out 0 (.int .i64 (kk : Int)) rfl) (p := ⟨gp, 0, none⟩) hne (.int .i64 p)); have BP2 := A_ (blk_put (blk_far BP.out (p := ⟨gt, 0, none⟩) hne' (.int .i64 (kk : Int))) 0 (.int .i64 p) rfl); have HB5 := A_ (below_set (j := 0) (v := .int .i64 p) (below_set (j := 0) (v := .int .i64 (kk : Int)) HB4.out GE3.out) GE4.out); (with_reducible refine (conf_ints.calls (togQ kk p) 123 #[.pointer (some ⟨gt, 0, none⟩), .pointer (some ⟨gp, 0, none⟩)] EG.out (some ad0) c0 l0 false _ ?side1 ?side2 ?side3 HQ.out).mono ?_); (case side1 => exact Kd.C_below HR0.out HB5.out); (case side2 => exact HC0.out); (case side3 => exact fun x A' c' b W hbW hC hl hq => together_1.calls kk p gt gp x A' c' b W (blk_below BT2.out hbW) (blk_below BP2.out hbW) hC hl hq); rintro e w10 ⟨rfl, hb⟩; refine ⟨_, rfl, ?_⟩; have HB6 := A_ (below_step HB5.out hb); have hc6 : w10.cell? ⟨gt, 0, none⟩ = some (.int .i64 (kk : Int)) := (blk_cell (blk_below BT2.out hb) 0).trans rfl; clear hb))
     go_ret
     have h3 := H2.out
     rw [if_neg (by simp)] at h3
     obtain rfl := Option.some.inj h3
     exact ⟨rfl, HB6.out⟩
   ·
    have hltz : ¬ (kk : Int) < (row.length : Int) := by omega
    have h1 := HI.out
    rw [List.drop_of_length_le (by omega)] at h1
    simp only [togO] at h1
    have H1 := A_ (Option.some.inj h1)
    clear h1 HI
    go_wp2
    go_ret
    have h3 := H1.out
    subst h3
    exact ⟨rfl, HB.out⟩
 ·
  rw [if_neg c] at h
  exact absurd h (by simp)

/-! ### impl_Road_table: function 110 -/
mutual
def impl_Road_table.l0 : Nat → List (List Int) → List (List Int) → List (List Int) → Int → Int → Option ((List (List Int)))
  | 0, _, _, _, _, _ => none
  | k + 1, x8, x9, x22, x23, x24 => if x24 < x23 then (if 0 ≤ x24 then (if x24 < (x22.length : Int) then (impl_Road_table.l1 k x8 x9 (rd_L2 x22 x24) (([] : List Int)) x22 x23 x24 x9 (x9.length : Int) 0) else (none)) else (none)) else (some x8)
def impl_Road_table.l1 : Nat → List (List Int) → List (List Int) → List Int → List Int → List (List Int) → Int → Int → List (List Int) → Int → Int → Option ((List (List Int)))
  | 0, _, _, _, _, _, _, _, _, _, _ => none
  | k + 1, x8, x9, x11, x12, x22, x23, x24, x29, x30, x31 => if x31 < x30 then (if 0 ≤ x31 then (if x31 < (x29.length : Int) then ((impl_together.f k (([x11, rd_L2 x29 x31] : List (List Int)))).bind fun t277 => (if x12.length < 17592186044416 then (impl_Road_table.l1 k x8 x9 x11 (x12 ++ [t277]) x22 x23 x24 x29 x30 (wrap64 (x31 + 1))) else (none))) else (none)) else (none)) else (if x8.length < 5864062014805 then (impl_Road_table.l0 k (x8 ++ [x12]) x9 x22 x23 (wrap64 (x24 + 1))) else (none))
end
def impl_Road_table.f (k : Nat) (a0_0 : Int) (a0_1 : Bool) (a1_0 : Int) (a1_1 : Int) (a1_2 : Int) (l1_3 : List Int) (a2_0 : Int) (a2_1 : Int) (a2_2 : Int) (l2_3 : List Int) : Option ((List (List Int))) := (impl_Road_table_1.f k a2_0 a2_1 a2_2 l2_3 a0_0 a0_1).bind fun t263 => ((impl_Road_table_1.f k a1_0 a1_1 a1_2 l1_3 a0_0 a0_1).bind fun t266 => (impl_Road_table.l0 k (([] : List (List Int))) t263 t266 (t266.length : Int) 0))
theorem impl_Road_table.mono_l : ∀ k, (∀ y0 y1 y2 y3 y4, LeO (impl_Road_table.l0 k y0 y1 y2 y3 y4) (impl_Road_table.l0 (k + 1) y0 y1 y2 y3 y4)) ∧ (∀ y0 y1 y2 y3 y4 y5 y6 y7 y8 y9, LeO (impl_Road_table.l1 k y0 y1 y2 y3 y4 y5 y6 y7 y8 y9) (impl_Road_table.l1 (k + 1) y0 y1 y2 y3 y4 y5 y6 y7 y8 y9))
  | 0 => ⟨fun _ _ _ _ _ r h => by simp [impl_Road_table.l0] at h, fun _ _ _ _ _ _ _ _ _ _ r h => by simp [impl_Road_table.l1] at h⟩
  | k + 1 => by
    obtain ⟨ih0, ih1⟩ := impl_Road_table.mono_l k
    refine ⟨?_, ?_⟩
    · intro y0 y1 y2 y3 y4
      unfold impl_Road_table.l0
      repeat' first
      | (with_reducible exact ih0 _ _ _ _ _)
      | (with_reducible exact ih1 _ _ _ _ _ _ _ _ _ _)
      | (with_reducible exact impl_Road_table_1.mono _ _ _ _ _ _ _)
      | (with_reducible exact impl_together.mono _ _)
      | (with_reducible exact LeO.refl _)
      | (with_reducible exact LeO.none _)
      | (with_reducible refine LeO.ite ?_ ?_)
      | (with_reducible refine LeO.bind ?_ (fun _ => ?_))
      | exact ih0 _ _ _ _ _
      | exact ih1 _ _ _ _ _ _ _ _ _ _
      | exact impl_Road_table_1.mono _ _ _ _ _ _ _
      | exact impl_together.mono _ _
      | exact LeO.none _
      | refine LeO.ite ?_ ?_
      | refine LeO.bind ?_ (fun _ => ?_)
    · intro y0 y1 y2 y3 y4 y5 y6 y7 y8 y9
      unfold impl_Road_table.l1
      repeat' first
      | (with_reducible exact ih0 _ _ _ _ _)
      | (with_reducible exact ih1 _ _ _ _ _ _ _ _ _ _)
      | (with_reducible exact impl_Road_table_1.mono _ _ _ _ _ _ _)
      | (with_reducible exact impl_together.mono _ _)
      | (with_reducible exact LeO.refl _)
      | (with_reducible exact LeO.none _)
      | (with_reducible refine LeO.ite ?_ ?_)
      | (with_reducible refine LeO.bind ?_ (fun _ => ?_))
      | exact ih0 _ _ _ _ _
      | exact ih1 _ _ _ _ _ _ _ _ _ _
      | exact impl_Road_table_1.mono _ _ _ _ _ _ _
      | exact impl_together.mono _ _
      | exact LeO.none _
      | refine LeO.ite ?_ ?_
      | refine LeO.bind ?_ (fun _ => ?_)
theorem impl_Road_table.mono : ∀ a0 a1 a2 a3 a4 a5 a6 a7 a8 a9 k, LeO (impl_Road_table.f k a0 a1 a2 a3 a4 a5 a6 a7 a8 a9) (impl_Road_table.f (k + 1) a0 a1 a2 a3 a4 a5 a6 a7 a8 a9) := by
  intro a0 a1 a2 a3 a4 a5 a6 a7 a8 a9 k
  obtain ⟨ih0, ih1⟩ := impl_Road_table.mono_l k
  unfold impl_Road_table.f
  repeat' first
      | (with_reducible exact ih0 _ _ _ _ _)
      | (with_reducible exact ih1 _ _ _ _ _ _ _ _ _ _)
      | (with_reducible exact impl_Road_table_1.mono _ _ _ _ _ _ _)
      | (with_reducible exact impl_together.mono _ _)
      | (with_reducible exact LeO.refl _)
      | (with_reducible exact LeO.none _)
      | (with_reducible refine LeO.ite ?_ ?_)
      | (with_reducible refine LeO.bind ?_ (fun _ => ?_))
      | exact ih0 _ _ _ _ _
      | exact ih1 _ _ _ _ _ _ _ _ _ _
      | exact impl_Road_table_1.mono _ _ _ _ _ _ _
      | exact impl_together.mono _ _
      | exact LeO.none _
      | refine LeO.ite ?_ ?_
      | refine LeO.bind ?_ (fun _ => ?_)
set_option maxHeartbeats 8000000 in
set_option maxRecDepth 100000 in
theorem impl_Road_table.calls (k : Nat) (a0_0 : Int) (a0_1 : Bool) (a1_0 : Int) (a1_1 : Int) (a1_2 : Int) (A1_3 : Option Addr) (c1_3 : Nat) (l1_3 : List Int) (a2_0 : Int) (a2_1 : Int) (a2_2 : Int) (A2_3 : Option Addr) (c2_3 : Nat) (l2_3 : List Int) (r : List (List Int)) (w : World) (hr1_3 : Kd.C (Kd.int .i64) w A1_3 l1_3.length l1_3) (hc1_3 : l1_3.length ≤ c1_3) (hr2_3 : Kd.C (Kd.int .i64) w A2_3 l2_3.length l2_3) (hc2_3 : l2_3.length ≤ c2_3) (h : impl_Road_table.f k a0_0 a0_1 a1_0 a1_1 a1_2 l1_3 a2_0 a2_1 a2_2 l2_3 = some r) :
    Calls Try.prog 110 #[.agg #[.int .i64 a0_0, .bool a0_1], .agg #[.int .i64 a1_0, .int .i64 a1_1, .int .i64 a1_2, .slice A1_3 l1_3.length c1_3], .agg #[.int .i64 a2_0, .int .i64 a2_1, .int .i64 a2_2, .slice A2_3 l2_3.length c2_3]] w fun e w' => ∃ v0_ : Value, e = .returned (v0_) ∧ Kd.S (Kd.slice 3 (Kd.int .i64)) 26 w' w.heap.size (fun _ => True) v0_ r ∧ Below w.heap.size w w' := by
 have hu25 := Try.underlying25
 have hu93 := Try.underlying93
 have HR1_3 := A_ hr1_3
 have HC1_3 := A_ hc1_3
 clear hr1_3 hc1_3
 have HR2_3 := A_ hr2_3
 have HC2_3 := A_ hc2_3
 clear hr2_3 hc2_3
 have HB := A_ (Below.refl w.heap.size w)
 have H : ((impl_Road_table_1.f k a2_0 a2_1 a2_2 l2_3 a0_0 a0_1).bind fun t263 => ((impl_Road_table_1.f k a1_0 a1_1 a1_2 l1_3 a0_0 a0_1).bind fun t266 => (impl_Road_table.l0 k (([] : List (List Int))) t263 t266 (t266.length : Int) 0))) = some r := h
 clear h
 obtain ⟨y260, hy260⟩ : ∃ y_ : List (List Int), y_ = (([] : List (List Int))) := ⟨_, rfl⟩
 replace H : ((impl_Road_table_1.f k a2_0 a2_1 a2_2 l2_3 a0_0 a0_1).bind fun t263 => ((impl_Road_table_1.f k a1_0 a1_1 a1_2 l1_3 a0_0 a0_1).bind fun t266 => (impl_Road_table.l0 k y260 t263 t266 (t266.length : Int) 0))) = some r := by first | (rw [hy260]; with_reducible exact H) | (have H2_ := (Option.bind_some _ _).symm.trans H; rw [hy260]; with_reducible exact H2_) | (have H2_ := (Option.bind_some _ _).symm.trans H; with_reducible exact H2_) | with_reducible exact H | (rw [hy260]; exact H) | exact H
 have Ny260 := A_ hy260
 clear hy260
 replace H := Option.bind_eq_some_iff.mp H
 obtain ⟨t263, A40, H⟩ := H
 replace H : ((impl_Road_table_1.f k a1_0 a1_1 a1_2 l1_3 a0_0 a0_1).bind fun t266 => (impl_Road_table.l0 k y260 t263 t266 (t266.length : Int) 0)) = some r := H
 have A4 := A_ A40
 clear A40
 replace H := Option.bind_eq_some_iff.mp H
 obtain ⟨t266, A50, H⟩ := H
 replace H : (impl_Road_table.l0 k y260 t263 t266 (t266.length : Int) 0) = some r := H
 have A5 := A_ A50
 clear A50
 have H' := A_ H
 clear H
 go_enter Try.func110, Try.ntmps110
 go_wp2_with (first | ((with_reducible refine gate_dst (N := 3) rfl ?_); refine box_event ?hg (N := 3) ?hd (cs := #[.int .i64 a0_0, .bool a0_1]) (t := 25) ?hr ?_; (case hd => rfl); (case hg => rfl); (case hr => first | (go_simp; done) | (go_simp; rfl)); intro gb257 hg w6 hbox hb; have n0_ := A_ (below_step (hq HB) hb); have n1_ := A_ (hbox); have n2_ := A_ ((by rw [hg]; exact (below_size (hq HB)) : w.heap.size ≤ gb257)); have n3_ := A_ ((by rw [hg]; exact (below_size (hq HB)) : w.heap.size ≤ gb257)); clear HB; have HB := n0_; have BK257 := n1_; have GW257 := n2_; have GE257 := n3_; clear n0_ n1_ n2_ n3_; clear hb hbox hg) | ((with_reducible refine gate_dst (N := 4) rfl ?_); refine box_event ?hg (N := 4) ?hd (cs := #[.int .i64 a1_0, .int .i64 a1_1, .int .i64 a1_2, .slice A1_3 l1_3.length c1_3]) (t := 93) ?hr ?_; (case hd => rfl); (case hg => rfl); (case hr => first | (go_simp; done) | (go_simp; rfl)); intro gb258 hg w7 hbox hb; have n0_ := A_ (blk_below (bq BK257) hb); have n1_ := A_ (below_step (hq HB) hb); have n2_ := A_ (hbox); have n3_ := A_ ((by rw [hg]; exact (below_size (hq HB)) : w.heap.size ≤ gb258)); have n4_ := A_ ((by rw [hg]; exact (below_size (hq HB)) : w.heap.size ≤ gb258)); have n5_ := A_ ((by rw [hg]; exact Nat.ne_of_lt (blk_lt (bq BK257)) : gb257 ≠ gb258)); have n6_ := A_ ((by rw [hg]; exact Nat.ne_of_gt (blk_lt (bq BK257)) : gb258 ≠ gb257)); clear BK257; clear HB; have BK257 := n0_; have HB := n1_; have BK258 := n2_; have GW258 := n3_; have GE258 := n4_; have NB257_258 := n5_; have NB258_257 := n6_; clear n0_ n1_ n2_ n3_ n4_ n5_ n6_; clear hb hbox hg) | ((with_reducible refine gate_dst (N := 5) rfl ?_); refine box_event ?hg (N := 5) ?hd (cs := #[.int .i64 a2_0, .int .i64 a2_1, .int .i64 a2_2, .slice A2_3 l2_3.length c2_3]) (t := 93) ?hr ?_; (case hd => rfl); (case hg => rfl); (case hr => first | (go_simp; done) | (go_simp; rfl)); intro gb259 hg w8 hbox hb; have n0_ := A_ (blk_below (bq BK257) hb); have n1_ := A_ (blk_below (bq BK258) hb); have n2_ := A_ (below_step (hq HB) hb); have n3_ := A_ (hbox); have n4_ := A_ ((by rw [hg]; exact (below_size (hq HB)) : w.heap.size ≤ gb259)); have n5_ := A_ ((by rw [hg]; exact (below_size (hq HB)) : w.heap.size ≤ gb259)); have n6_ := A_ ((by rw [hg]; exact Nat.ne_of_lt (blk_lt (bq BK257)) : gb257 ≠ gb259)); have n7_ := A_ ((by rw [hg]; exact Nat.ne_of_gt (blk_lt (bq BK257)) : gb259 ≠ gb257)); have n8_ := A_ ((by rw [hg]; exact Nat.ne_of_lt (blk_lt (bq BK258)) : gb258 ≠ gb259)); have n9_ := A_ ((by rw [hg]; exact Nat.ne_of_gt (blk_lt (bq BK258)) : gb259 ≠ gb258)); clear BK257; clear BK258; clear HB; have BK257 := n0_; have BK258 := n1_; have HB := n2_; have BK259 := n3_; have GW259 := n4_; have GE259 := n5_; have NB257_259 := n6_; have NB259_257 := n7_; have NB258_259 := n8_; have NB259_258 := n9_; clear n0_ n1_ n2_ n3_ n4_ n5_ n6_ n7_ n8_ n9_; clear hb hbox hg) | ((with_reducible refine gate_dst (N := 16) rfl ?_); refine Kd.S_lit (Kd.slice 3 (Kd.int .i64)) _ 26 ?hg (N := 16) ?hd (xs := ([] : List (List Int))) (inner := []) (ok := fun _ => True) (okp := fun _ => True) ?hr ?hp (fun _ hk => hk) trivial (Below.refl _ _) (Nat.le_refl _) (by simp) ?_; (case hd => rfl); (case hg => rfl); (case hr => first | (go_simp; done) | (go_simp; rfl)); (case hp => exact (Reps.none _ _)); intro v261 w9 ho10 hb hg_ hnew_; clear hg_ hnew_; (first | rw [← Ny260.out] at ho10 | (simp only [Int.reduceToNat] at ho10; rw [← Ny260.out] at ho10)); have n0_ := A_ (Kd.S_lower ho10 (below_size (hq HB))); have n1_ := A_ (blk_below (bq BK257) hb); have n2_ := A_ (blk_below (bq BK258) hb); have n3_ := A_ (blk_below (bq BK259) hb); have n4_ := A_ (below_step (hq HB) hb); clear BK257; clear BK258; clear BK259; clear HB; have HO262 := n0_; have BK257 := n1_; have BK258 := n2_; have BK259 := n3_; have HB := n4_; clear n0_ n1_ n2_ n3_ n4_; clear hb ho10; have hnb11 := NB259_257.out; have hnc11 := NB257_259.out; have hnb12 := NB259_258.out; have hnc12 := NB258_259.out; have hcz13_0 : w9.cell? ⟨gb259, 0, none⟩ = some (.int .i64 a2_0) := bc BK259 0; have hcz13_1 : w9.cell? ⟨gb259, 1, none⟩ = some (.int .i64 a2_1) := bc BK259 1; have hcz13_2 : w9.cell? ⟨gb259, 2, none⟩ = some (.int .i64 a2_2) := bc BK259 2; have hcz13_3 : w9.cell? ⟨gb259, 3, none⟩ = some (.slice A2_3 l2_3.length c2_3) := bc BK259 3; have hfz13_0 := blk_frozen BK259.out 0; have hfz13_1 := blk_frozen BK259.out 1; have hfz13_2 := blk_frozen BK259.out 2; have hfz13_3 := blk_frozen BK259.out 3) | (go_at_call 116; (with_reducible refine (impl_Road_table_1.calls k a2_0 a2_1 a2_2 _ _ l2_3 gb257 a0_0 a0_1 t263 _ ?side1 ?side2 ?side3 A4.out).mono ?_); (case side1 => (with_reducible repeat (first | refine blk_drewN ?_ _ | refine blk_drew ?_ | refine blk_alloc ?_ _)); exact BK257.out); (case side2 => exact cq (Kd.C_below HR2_3.out HB.out)); (case side3 => exact HC2_3.out); rintro e w14 ⟨v264, rfl, ho0, hb⟩; have n0_ := A_ (Kd.S_elder' (sq HO262) (Kd.S_base ho0) hb); have n1_ := A_ (Kd.S_lower (Kd.S_new' ho0 (Kd.S_lt (sq HO262))) (below_size (hq HB))); have n2_ := A_ (blk_below (bq BK257) hb); have n3_ := A_ (blk_below (bq BK258) hb); have n4_ := A_ (blk_below (bq BK259) hb); have n5_ := A_ (below_step (hq HB) hb); clear HO262; clear BK257; clear BK258; clear BK259; clear HB; have HO262 := n0_; have HO265 := n1_; have BK257 := n2_; have BK258 := n3_; have BK259 := n4_; have HB := n5_; clear n0_ n1_ n2_ n3_ n4_ n5_; (try clear hb); (try clear hb2); (try clear hk); (try clear hi); (try clear ho0); have hnb15 := NB258_257.out; have hnc15 := NB257_258.out; have hcz16_0 : w14.cell? ⟨gb258, 0, none⟩ = some (.int .i64 a1_0) := bc BK258 0; have hcz16_1 : w14.cell? ⟨gb258, 1, none⟩ = some (.int .i64 a1_1) := bc BK258 1; have hcz16_2 : w14.cell? ⟨gb258, 2, none⟩ = some (.int .i64 a1_2) := bc BK258 2; have hcz16_3 : w14.cell? ⟨gb258, 3, none⟩ = some (.slice A1_3 l1_3.length c1_3) := bc BK258 3; have hfz16_0 := blk_frozen BK258.out 0; have hfz16_1 := blk_frozen BK258.out 1; have hfz16_2 := blk_frozen BK258.out 2; have hfz16_3 := blk_frozen BK258.out 3) | (go_at_call 116; (with_reducible refine (impl_Road_table_1.calls k a1_0 a1_1 a1_2 _ _ l1_3 gb257 a0_0 a0_1 t266 _ ?side1 ?side2 ?side3 A5.out).mono ?_); (case side1 => (with_reducible repeat (first | refine blk_drewN ?_ _ | refine blk_drew ?_ | refine blk_alloc ?_ _)); exact BK257.out); (case side2 => exact cq (Kd.C_below HR1_3.out HB.out)); (case side3 => exact HC1_3.out); rintro e w17 ⟨v267, rfl, ho0, hb⟩; have n0_ := A_ (Kd.S_elder' (sq HO262) (Kd.S_base ho0) hb); have n1_ := A_ (Kd.S_elder' (sq HO265) (Kd.S_base ho0) hb); have n2_ := A_ (Kd.S_lower (Kd.S_new' (Kd.S_new' ho0 (Kd.S_lt (sq HO262))) (Kd.S_lt (sq HO265))) (below_size (hq HB))); have n3_ := A_ (blk_below (bq BK257) hb); have n4_ := A_ (blk_below (bq BK258) hb); have n5_ := A_ (blk_below (bq BK259) hb); have n6_ := A_ (below_step (hq HB) hb); clear HO262; clear HO265; clear BK257; clear BK258; clear BK259; clear HB; have HO262 := n0_; have HO265 := n1_; have HO268 := n2_; have BK257 := n3_; have BK258 := n4_; have BK259 := n5_; have HB := n6_; clear n0_ n1_ n2_ n3_ n4_ n5_ n6_; (try clear hb); (try clear hb2); (try clear hk); (try clear hi); (try clear ho0); obtain ⟨Ao18, co18, eo18⟩ := Kd.S_slice HO268.out; subst eo18))
 go_loopg [8, 24] k (fun kq v8 v24 w' => ∃ (x8_1 : List (List Int)) (x24_1 : Int), v24 = .int .i64 x24_1 ∧ Aside0 (impl_Road_table.l0 kq x8_1 t263 t266 (t266.length : Int) x24_1 = some r) ∧ Aside0 (kq ≤ k) ∧ Aside0 (Kd.S (Kd.slice 3 (Kd.int .i64)) 26 w' w.heap.size (fun k_ => some k_ ≠ (v264 : Value).ownBlock ∧ some k_ ≠ ((.slice Ao18 t266.length co18) : Value).ownBlock) v8 x8_1) ∧ Aside0 (Kd.S (Kd.slice 3 (Kd.int .i64)) 26 w' w.heap.size (fun k_ => some k_ ≠ (v8 : Value).ownBlock ∧ some k_ ≠ ((.slice Ao18 t266.length co18) : Value).ownBlock) v264 t263) ∧ Aside0 (Kd.S (Kd.slice 3 (Kd.int .i64)) 26 w' w.heap.size (fun k_ => some k_ ≠ (v8 : Value).ownBlock ∧ some k_ ≠ (v264 : Value).ownBlock) (.slice Ao18 t266.length co18) t266) ∧ Aside0 (w'.heap[gb257]? = some (.cells #[.int .i64 a0_0, .bool a0_1] 25 (0, 0))) ∧ Aside0 (w'.heap[gb258]? = some (.cells #[.int .i64 a1_0, .int .i64 a1_1, .int .i64 a1_2, (.slice A1_3 l1_3.length c1_3)] 93 (0, 0))) ∧ Aside0 (w'.heap[gb259]? = some (.cells #[.int .i64 a2_0, .int .i64 a2_1, .int .i64 a2_2, (.slice A2_3 l2_3.length c2_3)] 93 (0, 0))) ∧ Aside0 (Below w.heap.size w w'))
 case atStart => exact ⟨(y260), (0), (by first | rfl | (simp; done) | (simp [*]; done)), H', ⟨Nat.le_refl _⟩, ⟨by (with_reducible repeat (first | apply Kd.S_alloc | apply Kd.S_drewN | apply Kd.S_drew)); exact Kd.S_mono HO262.out (fun _ hk => ⟨hk.1.2, hk.2⟩)⟩, ⟨by (with_reducible repeat (first | apply Kd.S_alloc | apply Kd.S_drewN | apply Kd.S_drew)); exact Kd.S_mono HO265.out (fun _ hk => ⟨hk.1.2, hk.2⟩)⟩, ⟨by (with_reducible repeat (first | apply Kd.S_alloc | apply Kd.S_drewN | apply Kd.S_drew)); exact Kd.S_mono HO268.out (fun _ hk => ⟨hk.1.2, hk.2⟩)⟩, ⟨bq BK257⟩, ⟨bq BK258⟩, ⟨bq BK259⟩, ⟨hq HB⟩⟩
 case round =>
  clear H'
  try clear c1
  try clear c2
  try clear p2
  try clear c11
  try clear c12
  try clear c15
  try clear hcz13_0
  try clear hcz13_1
  try clear hcz13_2
  try clear hcz13_3
  try clear hcz16_0
  try clear hcz16_1
  try clear hcz16_2
  try clear hcz16_3
  try clear hfz13_0
  try clear hfz13_1
  try clear hfz13_2
  try clear hfz13_3
  try clear hfz16_0
  try clear hfz16_1
  try clear hfz16_2
  try clear hfz16_3
  obtain ⟨x8_1, x24_1, rfl, HA, HK1, HO_8, HO_9, HO_22, BK257, BK258, BK259, HB⟩ := hrel
  cases gk with
  | zero => exact absurd HA.out (by simp [impl_Road_table.l0])
  | succ k1 =>
   have H := HA.out
   clear HA
   simp only [impl_Road_table.l0] at H
   by_cases c19 : x24_1 < (t266.length : Int)
   ·
    rw [if_pos c19] at H
    have c19b0 : decide (x24_1 < (t266.length : Int)) = true := decide_eq_true c19
    clear c19
    by_cases c20 : 0 ≤ x24_1
    ·
     rw [if_pos c20] at H
     have c20b0 : decide (0 ≤ x24_1) = true := decide_eq_true c20
     clear c20
     by_cases c21 : x24_1 < (t266.length : Int)
     ·
      rw [if_pos c21] at H
      have c21b0 : decide (x24_1 < (t266.length : Int)) = true := decide_eq_true c21
      clear c21
      obtain ⟨y270, hy270⟩ : ∃ y_ : List Int, y_ = (([] : List Int)) := ⟨_, rfl⟩
      replace H : (impl_Road_table.l1 k1 x8_1 t263 (rd_L2 t266 x24_1) y270 t266 (t266.length : Int) x24_1 t263 (t263.length : Int) 0) = some r := by first | (rw [hy270]; with_reducible exact H) | (have H2_ := (Option.bind_some _ _).symm.trans H; rw [hy270]; with_reducible exact H2_) | (have H2_ := (Option.bind_some _ _).symm.trans H; with_reducible exact H2_) | with_reducible exact H | (rw [hy270]; exact H) | exact H
      have Ny270 := A_ hy270
      clear hy270
      have H' := A_ H
      clear H
      have p269 : 0 ≤ (x24_1 : Int) := of_decide_eq_true (by first | (with_reducible assumption) | assumption)
      have q269 : x24_1 < (t266.length : Int) := of_decide_eq_true (by first | (with_reducible assumption) | assumption)
      obtain ⟨ad269, A269_0, c269_0, e269, hx269_0, hl269_0, hi269_0⟩ := at_L2 (Kd.S_reads' HO_22.out).2.2 x24_1 p269 q269
      cases e269
      obtain ⟨ce269, hce269, hMe269, hcc269⟩ := Kd.S_get HO_22.out [] x24_1 p269 (by first | exact q269 | exact of_decide_eq_true (by first | (with_reducible assumption) | assumption) | (have e_ := (Kd.S_reads' HO_22.out).1; omega))
      obtain ⟨ve269_0, rfl, ge269_0⟩ := hMe269
      have hv269_0 := hcc269 0 _ rfl
      rw [Nat.add_zero, show ((Kd.slice 3 (Kd.int .i64))).sz = 1 from rfl, Nat.mul_one] at hv269_0
      replace hv269_0 := Option.some.inj (hv269_0.symm.trans hx269_0)
      rw [hv269_0] at ge269_0
      have HL269_0 := A_ (show Kd.R (Kd.int .i64) 3 _ _ _ _ (rd_L2 t266 x24_1) from ge269_0)
      clear hv269_0 ge269_0 hcc269 hce269
      have HR269_0 := A_ hi269_0
      have HC269_0 := A_ hl269_0
      clear hi269_0 hl269_0
      replace p269 := eq_true p269
      replace q269 := eq_true q269
      go_wp2_with (first | ((with_reducible refine gate_dst (N := 28) rfl ?_); refine Kd.R_lit (Kd.int .i64) _ 3 ?hg (N := 28) ?hd (xs := ([] : List Int)) (inner := []) (ok := fun _ => True) (okp := fun _ => True) ?hr ?hp (fun _ hk => hk) trivial (Below.refl _ _) (Nat.le_refl _) (by simp) ?_; (case hd => rfl); (case hg => rfl); (case hr => first | (go_simp; done) | (go_simp; rfl)); (case hp => exact (Reps.none _ _)); intro v271 w22 ho23 hb hg_ hnew_; clear hg_ hnew_; (first | rw [← Ny270.out] at ho23 | (simp only [Int.reduceToNat] at ho23; rw [← Ny270.out] at ho23)); have n0_ := A_ (Kd.S_elder' (sq HO_8) (Kd.R_base ho23) hb); have n1_ := A_ (Kd.S_elder' (sq HO_9) (Kd.R_base ho23) hb); have n2_ := A_ (Kd.S_elder' (sq HO_22) (Kd.R_base ho23) hb); have n3_ := A_ (Kd.R_elder' (by (with_reducible repeat (first | apply Kd.R_alloc | apply Kd.R_drewN | apply Kd.R_drew)); exact HL269_0.out) (Kd.R_base ho23) hb); have n4_ := A_ (Kd.R_lower (Kd.R_new' ho23 (Kd.R_lt (by (with_reducible repeat (first | apply Kd.R_alloc | apply Kd.R_drewN | apply Kd.R_drew)); exact HL269_0.out))) (below_size (hq HB))); have n5_ := A_ (blk_below (bq BK257) hb); have n6_ := A_ (blk_below (bq BK258) hb); have n7_ := A_ (blk_below (bq BK259) hb); have n8_ := A_ (Kd.C_below (by repeat (first | (with_reducible exact HR269_0.out) | (with_reducible refine Kd.C_alloc ?_ _) | (with_reducible refine Kd.C_drewN ?_ _) | (with_reducible refine Kd.C_drew ?_) | exact HR269_0.out)) hb); have n9_ := A_ (below_step (hq HB) hb); clear HO_8; clear HO_9; clear HO_22; clear HL269_0; clear BK257; clear BK258; clear BK259; clear HR269_0; clear HB; have HO_8 := n0_; have HO_9 := n1_; have HO_22 := n2_; have HL269_0 := n3_; have HO272 := n4_; have BK257 := n5_; have BK258 := n6_; have BK259 := n7_; have HR269_0 := n8_; have HB := n9_; clear n0_ n1_ n2_ n3_ n4_ n5_ n6_ n7_ n8_ n9_; clear hb ho23; obtain ⟨Ao24, co24, eo24⟩ := Kd.S_slice HO_9.out; subst eo24))
      go_loopg [12, 31] k1 (fun kq v12 v31 w' => ∃ (x12_2 : List Int) (x31_2 : Int), v31 = .int .i64 x31_2 ∧ Aside0 (impl_Road_table.l1 kq x8_1 t263 (rd_L2 t266 x24_1) x12_2 t266 (t266.length : Int) x24_1 t263 (t263.length : Int) x31_2 = some r) ∧ Aside0 (kq ≤ k1) ∧ Aside0 (Kd.S (Kd.slice 3 (Kd.int .i64)) 26 w' w.heap.size (fun k_ => some k_ ≠ ((.slice Ao24 t263.length co24) : Value).ownBlock ∧ some k_ ≠ (v12 : Value).ownBlock ∧ some k_ ≠ ((.slice (some ad269) t266.length co18) : Value).ownBlock ∧ some k_ ≠ ((.slice Ao24 t263.length co24) : Value).ownBlock) u8 x8_1) ∧ Aside0 (Kd.S (Kd.slice 3 (Kd.int .i64)) 26 w' w.heap.size (fun k_ => some k_ ≠ (u8 : Value).ownBlock ∧ some k_ ≠ (v12 : Value).ownBlock ∧ some k_ ≠ ((.slice (some ad269) t266.length co18) : Value).ownBlock) (.slice Ao24 t263.length co24) t263) ∧ Aside0 (Kd.V (Kd.int .i64) 3 w' w.heap.size (fun k_ => some k_ ≠ (u8 : Value).ownBlock ∧ some k_ ≠ ((.slice Ao24 t263.length co24) : Value).ownBlock ∧ some k_ ≠ (v12 : Value).ownBlock ∧ some k_ ≠ ((.slice (some ad269) t266.length co18) : Value).ownBlock ∧ some k_ ≠ ((.slice Ao24 t263.length co24) : Value).ownBlock ∧ k_ ≠ gb257 ∧ k_ ≠ gb258 ∧ k_ ≠ gb259) (.slice A269_0 (rd_L2 t266 x24_1).length c269_0) (rd_L2 t266 x24_1)) ∧ Aside0 (Kd.R (Kd.int .i64) 3 w' w.heap.size (fun _ => True) v12 x12_2) ∧ Aside0 (Kd.S (Kd.slice 3 (Kd.int .i64)) 26 w' w.heap.size (fun k_ => some k_ ≠ (u8 : Value).ownBlock ∧ some k_ ≠ ((.slice Ao24 t263.length co24) : Value).ownBlock ∧ some k_ ≠ (v12 : Value).ownBlock ∧ some k_ ≠ ((.slice Ao24 t263.length co24) : Value).ownBlock) (.slice (some ad269) t266.length co18) t266) ∧ Aside0 (Kd.S (Kd.slice 3 (Kd.int .i64)) 26 w' w.heap.size (fun k_ => some k_ ≠ (u8 : Value).ownBlock ∧ some k_ ≠ (v12 : Value).ownBlock ∧ some k_ ≠ ((.slice (some ad269) t266.length co18) : Value).ownBlock) (.slice Ao24 t263.length co24) t263) ∧ Aside0 (w'.heap[gb257]? = some (.cells #[.int .i64 a0_0, .bool a0_1] 25 (0, 0))) ∧ Aside0 (w'.heap[gb258]? = some (.cells #[.int .i64 a1_0, .int .i64 a1_1, .int .i64 a1_2, (.slice A1_3 l1_3.length c1_3)] 93 (0, 0))) ∧ Aside0 (w'.heap[gb259]? = some (.cells #[.int .i64 a2_0, .int .i64 a2_1, .int .i64 a2_2, (.slice A2_3 l2_3.length c2_3)] 93 (0, 0))) ∧ Aside0 (Below w.heap.size w w'))
      case atStart => exact ⟨(y270), (0), (by first | rfl | (simp; done) | (simp [*]; done)), H', ⟨Nat.le_refl _⟩, ⟨by (with_reducible repeat (first | apply Kd.S_alloc | apply Kd.S_drewN | apply Kd.S_drew)); exact Kd.S_mono HO_8.out (fun _ hk => ⟨hk.1.1, ⟨hk.2, ⟨hk.1.2, hk.1.1⟩⟩⟩)⟩, ⟨by (with_reducible repeat (first | apply Kd.S_alloc | apply Kd.S_drewN | apply Kd.S_drew)); exact Kd.S_mono HO_9.out (fun _ hk => ⟨hk.1.1, ⟨hk.2, hk.1.2⟩⟩)⟩, ⟨Kd.R_V (by (with_reducible repeat (first | apply Kd.R_alloc | apply Kd.R_drewN | apply Kd.R_drew)); exact Kd.R_mono (Kd.R_types (Kd.R_types (Kd.R_types HL269_0.out BK257.out (by decide)) BK258.out (by decide)) BK259.out (by decide)) (fun _ hk => ⟨hk.1.1.1.1.1.1, ⟨hk.1.1.1.1.1.2, ⟨hk.1.1.1.2, ⟨hk.1.1.1.1.2, ⟨hk.1.1.1.1.1.2, ⟨hk.1.1.2, ⟨hk.1.2, hk.2⟩⟩⟩⟩⟩⟩⟩))⟩, ⟨by (with_reducible repeat (first | apply Kd.R_alloc | apply Kd.R_drewN | apply Kd.R_drew)); exact Kd.R_mono HO272.out (fun _ hk => trivial)⟩, ⟨by (with_reducible repeat (first | apply Kd.S_alloc | apply Kd.S_drewN | apply Kd.S_drew)); exact Kd.S_mono HO_22.out (fun _ hk => ⟨hk.1.1, ⟨hk.1.2, ⟨hk.2, hk.1.2⟩⟩⟩)⟩, ⟨by (with_reducible repeat (first | apply Kd.S_alloc | apply Kd.S_drewN | apply Kd.S_drew)); exact Kd.S_mono HO_9.out (fun _ hk => ⟨hk.1.1, ⟨hk.2, hk.1.2⟩⟩)⟩, ⟨bq BK257⟩, ⟨bq BK258⟩, ⟨bq BK259⟩, ⟨hq HB⟩⟩
      case round =>
       clear H'
       try clear c1
       try clear c2
       try clear p2
       try clear q2
       try clear hx2
       try clear c11
       try clear c12
       try clear c15
       try clear c19
       try clear c19b0
       try clear c20
       try clear c20b0
       try clear c21
       try clear c21b0
       try clear hcz13_0
       try clear hcz13_1
       try clear hcz13_2
       try clear hcz13_3
       try clear hcz16_0
       try clear hcz16_1
       try clear hcz16_2
       try clear hcz16_3
       try clear hfz13_0
       try clear hfz13_1
       try clear hfz13_2
       try clear hfz13_3
       try clear hfz16_0
       try clear hfz16_1
       try clear hfz16_2
       try clear hfz16_3
       try clear hx269_0
       try clear p2
       try clear p269
       try clear q269
       obtain ⟨x12_2, x31_2, rfl, HA, HK2, HO_8, HO_9, HO_11, HO_12, HO_22, HO_29, BK257, BK258, BK259, HB⟩ := hrel
       cases gk with
       | zero => exact absurd HA.out (by simp [impl_Road_table.l1])
       | succ k2 =>
        have H := HA.out
        clear HA
        simp only [impl_Road_table.l1] at H
        by_cases c25 : x31_2 < (t263.length : Int)
        ·
         rw [if_pos c25] at H
         have c25b0 : decide (x31_2 < (t263.length : Int)) = true := decide_eq_true c25
         clear c25
         by_cases c26 : 0 ≤ x31_2
         ·
          rw [if_pos c26] at H
          have c26b0 : decide (0 ≤ x31_2) = true := decide_eq_true c26
          clear c26
          by_cases c27 : x31_2 < (t263.length : Int)
          ·
           rw [if_pos c27] at H
           have c27b0 : decide (x31_2 < (t263.length : Int)) = true := decide_eq_true c27
           clear c27
           obtain ⟨y274, hy274⟩ : ∃ y_ : List (List Int), y_ = (([(rd_L2 t266 x24_1), rd_L2 t263 x31_2] : List (List Int))) := ⟨_, rfl⟩
           replace H : ((impl_together.f k2 y274).bind fun t277 => (if x12_2.length < 17592186044416 then (impl_Road_table.l1 k2 x8_1 t263 (rd_L2 t266 x24_1) (x12_2 ++ [t277]) t266 (t266.length : Int) x24_1 t263 (t263.length : Int) (wrap64 (x31_2 + 1))) else (none))) = some r := by first | (rw [hy274]; with_reducible exact H) | (have H2_ := (Option.bind_some _ _).symm.trans H; rw [hy274]; with_reducible exact H2_) | (have H2_ := (Option.bind_some _ _).symm.trans H; with_reducible exact H2_) | with_reducible exact H | (rw [hy274]; exact H) | exact H
           have Ny274 := A_ hy274
           clear hy274
           replace H := Option.bind_eq_some_iff.mp H
           obtain ⟨t277, A280, H⟩ := H
           replace H : (if x12_2.length < 17592186044416 then (impl_Road_table.l1 k2 x8_1 t263 (rd_L2 t266 x24_1) (x12_2 ++ [t277]) t266 (t266.length : Int) x24_1 t263 (t263.length : Int) (wrap64 (x31_2 + 1))) else (none)) = some r := H
           have A28 := A_ A280
           clear A280
           by_cases c29 : x12_2.length < 17592186044416
           ·
            rw [if_pos c29] at H
            have LMc29 := A_ c29
            clear c29
            obtain ⟨y278, hy278⟩ : ∃ y_ : List Int, y_ = (x12_2 ++ [t277]) := ⟨_, rfl⟩
            replace H : (impl_Road_table.l1 k2 x8_1 t263 (rd_L2 t266 x24_1) y278 t266 (t266.length : Int) x24_1 t263 (t263.length : Int) (wrap64 (x31_2 + 1))) = some r := by first | (rw [hy278]; with_reducible exact H) | (have H2_ := (Option.bind_some _ _).symm.trans H; rw [hy278]; with_reducible exact H2_) | (have H2_ := (Option.bind_some _ _).symm.trans H; with_reducible exact H2_) | with_reducible exact H | (rw [hy278]; exact H) | exact H
            have Ny278 := A_ hy278
            clear hy278
            have H' := A_ H
            clear H
            have p273 : 0 ≤ (x31_2 : Int) := of_decide_eq_true (by first | (with_reducible assumption) | assumption)
            have q273 : x31_2 < (t263.length : Int) := of_decide_eq_true (by first | (with_reducible assumption) | assumption)
            obtain ⟨ad273, A273_0, c273_0, e273, hx273_0, hl273_0, hi273_0⟩ := at_L2 (Kd.S_reads' HO_29.out).2.2 x31_2 p273 q273
            cases e273
            obtain ⟨ce273, hce273, hMe273, hcc273⟩ := Kd.S_get HO_29.out [] x31_2 p273 (by first | exact q273 | exact of_decide_eq_true (by first | (with_reducible assumption) | assumption) | (have e_ := (Kd.S_reads' HO_29.out).1; omega))
            obtain ⟨ve273_0, rfl, ge273_0⟩ := hMe273
            have hv273_0 := hcc273 0 _ rfl
            rw [Nat.add_zero, show ((Kd.slice 3 (Kd.int .i64))).sz = 1 from rfl, Nat.mul_one] at hv273_0
            replace hv273_0 := Option.some.inj (hv273_0.symm.trans hx273_0)
            rw [hv273_0] at ge273_0
            have HL273_0 := A_ (show Kd.R (Kd.int .i64) 3 _ _ _ _ (rd_L2 t263 x31_2) from ge273_0)
            clear hv273_0 ge273_0 hcc273 hce273
            have HR273_0 := A_ hi273_0
            have HC273_0 := A_ hl273_0
            clear hi273_0 hl273_0
            replace p273 := eq_true p273
            replace q273 := eq_true q273
            go_wp2_with (first | ((with_reducible refine gate_dst (N := 38) rfl ?_); refine V_lit (Kd.slice 3 (Kd.int .i64)) 0 26 ?hg (N' := 38) ?hd (xs := ([(rd_L2 t266 x24_1), rd_L2 t263 x31_2] : List (List Int))) (inner := [.slice A269_0 (rd_L2 t266 x24_1).length c269_0, .slice A273_0 (rd_L2 t263 x31_2).length c273_0]) ?hr ?hp (by simp) ?_; (case hd => rfl); (case hg => rfl); (case hr => first | (go_simp; done) | (go_simp; rfl)); (case hp => exact (Reps.one (show Kd.FK (Kd.slice 3 (Kd.int .i64)) _ _ (rd_L2 t266 x24_1) [.slice A269_0 (rd_L2 t266 x24_1).length c269_0] from (Kd.FK_slice_mk (And.left (And.right (Kd.V_at HO_11.out))) (Kd.F_mono (Kd.V_F (show Kd.V (Kd.int .i64) 3 _ _ _ (.slice A269_0 (rd_L2 t266 x24_1).length c269_0) (rd_L2 t266 x24_1) from by first | exact HO_11.out | ((with_reducible repeat (first | apply Kd.V_alloc | apply Kd.V_drewN | apply Kd.V_drew)); exact HO_11.out))) (fun _ _ => trivial)))) (Reps.one (show Kd.FK (Kd.slice 3 (Kd.int .i64)) _ _ (rd_L2 t263 x31_2) [.slice A273_0 (rd_L2 t263 x31_2).length c273_0] from (Kd.FK_slice_mk HC273_0.out (Kd.F_mono (Kd.C_F (Kd.heap_int .i64) (by repeat (first | (with_reducible exact HR273_0.out) | (with_reducible refine Kd.C_alloc ?_ _) | (with_reducible refine Kd.C_drewN ?_ _) | (with_reducible refine Kd.C_drew ?_) | exact HR273_0.out))) (fun _ _ => trivial)))) (Reps.none _ _)))); intro v275 w30 ho31 hb; (first | rw [← Ny274.out] at ho31 | (simp only [Int.reduceToNat] at ho31; rw [← Ny274.out] at ho31)); have n0_ := A_ (Kd.S_below (sq HO_8) hb); have n1_ := A_ (Kd.S_below (sq HO_9) hb); have n2_ := A_ (Kd.V_below (vq HO_11) hb); have n3_ := A_ (Kd.R_below (rq HO_12) hb); have n4_ := A_ (Kd.S_below (sq HO_22) hb); have n5_ := A_ (Kd.S_below (sq HO_29) hb); have n6_ := A_ (Kd.R_below (by (with_reducible repeat (first | apply Kd.R_alloc | apply Kd.R_drewN | apply Kd.R_drew)); exact HL273_0.out) hb); have n7_ := A_ (blk_below (bq BK257) hb); have n8_ := A_ (blk_below (bq BK258) hb); have n9_ := A_ (blk_below (bq BK259) hb); have n10_ := A_ (Kd.C_below (by repeat (first | (with_reducible exact HR273_0.out) | (with_reducible refine Kd.C_alloc ?_ _) | (with_reducible refine Kd.C_drewN ?_ _) | (with_reducible refine Kd.C_drew ?_) | exact HR273_0.out)) hb); have n11_ := A_ (below_step (hq HB) hb); have n12_ := A_ (ho31); clear HO_8; clear HO_9; clear HO_11; clear HO_12; clear HO_22; clear HO_29; clear HL273_0; clear BK257; clear BK258; clear BK259; clear HR273_0; clear HB; have HO_8 := n0_; have HO_9 := n1_; have HO_11 := n2_; have HO_12 := n3_; have HO_22 := n4_; have HO_29 := n5_; have HL273_0 := n6_; have BK257 := n7_; have BK258 := n8_; have BK259 := n9_; have HR273_0 := n10_; have HB := n11_; have HO276 := n12_; clear n0_ n1_ n2_ n3_ n4_ n5_ n6_ n7_ n8_ n9_ n10_ n11_ n12_; clear hb ho31; obtain ⟨Ao32, co32, eo32⟩ := Kd.V_slice HO276.out; subst eo32) | ((with_reducible refine gate_callee (f := 118) rfl ?_); refine goesL_ (some 39) rfl rfl Try.func118 (by kernel_rfl) rfl #[.slice Ao32 y274.length co32] rfl gq ?_; (with_reducible refine (impl_together.calls k2 _ _ y274 t277 _ ?side1 ?side2 A28.out).mono ?_); (case side1 => exact cq (Kd.V_reads' HO276.out).2.2); (case side2 => exact (Kd.V_reads' HO276.out).2.1); rintro e w33 ⟨rfl, hb⟩; refine ⟨_, rfl, ?_⟩; have n0_ := A_ (Kd.S_below (sq HO_8) hb); have n1_ := A_ (Kd.S_below (sq HO_9) hb); have n2_ := A_ (Kd.V_below (vq HO_11) hb); have n3_ := A_ (Kd.R_below (rq HO_12) hb); have n4_ := A_ (Kd.S_below (sq HO_22) hb); have n5_ := A_ (Kd.S_below (sq HO_29) hb); have n6_ := A_ (Kd.R_below (by (with_reducible repeat (first | apply Kd.R_alloc | apply Kd.R_drewN | apply Kd.R_drew)); exact HL273_0.out) hb); have n7_ := A_ (Kd.V_below (vq HO276) hb); have n8_ := A_ (blk_below (bq BK257) hb); have n9_ := A_ (blk_below (bq BK258) hb); have n10_ := A_ (blk_below (bq BK259) hb); have n11_ := A_ (Kd.C_below (by repeat (first | (with_reducible exact HR273_0.out) | (with_reducible refine Kd.C_alloc ?_ _) | (with_reducible refine Kd.C_drewN ?_ _) | (with_reducible refine Kd.C_drew ?_) | exact HR273_0.out)) hb); have n12_ := A_ (below_step (hq HB) hb); clear HO_8; clear HO_9; clear HO_11; clear HO_12; clear HO_22; clear HO_29; clear HL273_0; clear HO276; clear BK257; clear BK258; clear BK259; clear HR273_0; clear HB; have HO_8 := n0_; have HO_9 := n1_; have HO_11 := n2_; have HO_12 := n3_; have HO_22 := n4_; have HO_29 := n5_; have HL273_0 := n6_; have HO276 := n7_; have BK257 := n8_; have BK258 := n9_; have BK259 := n10_; have HR273_0 := n11_; have HB := n12_; clear n0_ n1_ n2_ n3_ n4_ n5_ n6_ n7_ n8_ n9_ n10_ n11_ n12_; (try clear hb); (try clear hb2); (try clear hk); (try clear hi)) | ((with_reducible refine gate_builtin (b := .append) (xs := #[.tmp 35, .tmp 40]) rfl ?_); at_builtin; refine Kd.R_append (Kd.int .i64) (w0 := w) w.heap.size rfl (.tmp 35) (.tmp 40) 26 3 (.int .i64 0) 8 rfl Try.underlying26 info3 rfl (by decide) (by omega) u12 x12_2 t277 [.int .i64 t277] (fun _ => True) (fun _ => False) rfl rfl ?aP (fun _ hk => hk.elim) ?aF ?aO ?aB ?aS ?aL ?_; (case aP => exact rfl); (case aB => exact (hq HB)); (case aF => exact (fun _ _ => trivial)); (case aO => exact (rq HO_12)); (case aS => exact (below_size (hq HB))); (case aL => have := LMc29.out; omega); intro v279 w34 ho hb hg hat; rw [← Ny278.out] at ho; have n0_ := A_ (Kd.S_after (ok := (fun k_ => some k_ ≠ (.slice (some ad273) t263.length co24 : Value).ownBlock ∧ some k_ ≠ (.slice (some ad269) t266.length co18 : Value).ownBlock ∧ some k_ ≠ (.slice (some ad273) t263.length co24 : Value).ownBlock)) (by (with_reducible repeat (first | apply Kd.S_alloc | apply Kd.S_drewN | apply Kd.S_drew)); exact Kd.S_mono HO_8.out (fun _ hk => ⟨⟨hk.1, ⟨hk.2.2.1, hk.2.2.2⟩⟩, hk.2.1⟩)) hg hat); have n1_ := A_ (Kd.S_after (ok := (fun k_ => some k_ ≠ (u8 : Value).ownBlock ∧ some k_ ≠ (.slice (some ad269) t266.length co18 : Value).ownBlock)) (by (with_reducible repeat (first | apply Kd.S_alloc | apply Kd.S_drewN | apply Kd.S_drew)); exact Kd.S_mono HO_9.out (fun _ hk => ⟨⟨hk.1, hk.2.2⟩, hk.2.1⟩)) hg hat); have n2_ := A_ (Kd.V_afterv (ok := (fun k_ => some k_ ≠ (u8 : Value).ownBlock ∧ some k_ ≠ (.slice (some ad273) t263.length co24 : Value).ownBlock ∧ some k_ ≠ (.slice (some ad269) t266.length co18 : Value).ownBlock ∧ some k_ ≠ (.slice (some ad273) t263.length co24 : Value).ownBlock ∧ k_ ≠ gb257 ∧ k_ ≠ gb258 ∧ k_ ≠ gb259)) (by (with_reducible repeat (first | apply Kd.V_alloc | apply Kd.V_drewN | apply Kd.V_drew)); exact Kd.V_mono HO_11.out (fun _ hk => ⟨⟨hk.1, ⟨hk.2.1, ⟨hk.2.2.2.1, ⟨hk.2.2.2.2.1, ⟨hk.2.2.2.2.2.1, ⟨hk.2.2.2.2.2.2.1, hk.2.2.2.2.2.2.2⟩⟩⟩⟩⟩⟩, hk.2.2.1⟩)) hg hat); have n3_ := A_ (Kd.S_after (ok := (fun k_ => some k_ ≠ (u8 : Value).ownBlock ∧ some k_ ≠ (.slice (some ad273) t263.length co24 : Value).ownBlock ∧ some k_ ≠ (.slice (some ad273) t263.length co24 : Value).ownBlock)) (by (with_reducible repeat (first | apply Kd.S_alloc | apply Kd.S_drewN | apply Kd.S_drew)); exact Kd.S_mono HO_22.out (fun _ hk => ⟨⟨hk.1, ⟨hk.2.1, hk.2.2.2⟩⟩, hk.2.2.1⟩)) hg hat); have n4_ := A_ (Kd.S_after (ok := (fun k_ => some k_ ≠ (u8 : Value).ownBlock ∧ some k_ ≠ (.slice (some ad269) t266.length co18 : Value).ownBlock)) (by (with_reducible repeat (first | apply Kd.S_alloc | apply Kd.S_drewN | apply Kd.S_drew)); exact Kd.S_mono HO_29.out (fun _ hk => ⟨⟨hk.1, hk.2.2⟩, hk.2.1⟩)) hg hat); have n5_ := A_ (blk_grown (g := gb257) (o := .cells #[.int .i64 a0_0, .bool a0_1] 25 (0, 0)) (bq BK257) hg (Kd.R_ne HO_12.out BK257.out (by decide))); have n6_ := A_ (blk_grown (g := gb258) (o := .cells #[.int .i64 a1_0, .int .i64 a1_1, .int .i64 a1_2, .slice A1_3 l1_3.length c1_3] 93 (0, 0)) (bq BK258) hg (Kd.R_ne HO_12.out BK258.out (by decide))); have n7_ := A_ (blk_grown (g := gb259) (o := .cells #[.int .i64 a2_0, .int .i64 a2_1, .int .i64 a2_2, .slice A2_3 l2_3.length c2_3] 93 (0, 0)) (bq BK259) hg (Kd.R_ne HO_12.out BK259.out (by decide))); have n8_ := A_ (Kd.R_after (ok := (fun k_ => some k_ ≠ (u8 : Value).ownBlock ∧ some k_ ≠ (.slice (some ad269) t266.length co18 : Value).ownBlock ∧ some k_ ≠ (.slice (some ad273) t263.length co24 : Value).ownBlock)) (by (with_reducible repeat (first | apply Kd.R_alloc | apply Kd.R_drewN | apply Kd.R_drew)); exact Kd.R_mono HL273_0.out (fun _ hk => ⟨⟨hk.1.1, ⟨hk.1.2.2, hk.2⟩⟩, hk.1.2.1⟩)) hg hat); have n9_ := A_ (hb); have n10_ := A_ (ho); clear HO_8; clear HO_9; clear HO_11; clear HO_22; clear HO_29; clear BK257; clear BK258; clear BK259; clear HL273_0; clear HB; clear HO_12; have HO_8 := n0_; have HO_9 := n1_; have HO_11 := n2_; have HO_22 := n3_; have HO_29 := n4_; have BK257 := n5_; have BK258 := n6_; have BK259 := n7_; have HL273_0 := n8_; have HB := n9_; have HO280 := n10_; clear n0_ n1_ n2_ n3_ n4_ n5_ n6_ n7_ n8_ n9_ n10_; clear ho hb hg hat))
            go_roundg k2
            case measure => have := HK1.out; have := HK2.out; omega
            case rel => exact ⟨(y278), (wrap64 (x31_2 + 1)), (by first | rfl | (simp; done) | (simp [*]; done)), H', ⟨by have := HK1.out; have := HK2.out; omega⟩, ⟨by (with_reducible repeat (first | apply Kd.S_alloc | apply Kd.S_drewN | apply Kd.S_drew)); exact Kd.S_mono HO_8.out (fun _ hk => ⟨hk.1.1, ⟨hk.2, ⟨hk.1.2.1, hk.1.2.2⟩⟩⟩)⟩, ⟨by (with_reducible repeat (first | apply Kd.S_alloc | apply Kd.S_drewN | apply Kd.S_drew)); exact Kd.S_mono HO_9.out (fun _ hk => ⟨hk.1.1, ⟨hk.2, hk.1.2⟩⟩)⟩, ⟨by (with_reducible repeat (first | apply Kd.V_alloc | apply Kd.V_drewN | apply Kd.V_drew)); exact Kd.V_mono HO_11.out (fun _ hk => ⟨hk.1.1, ⟨hk.1.2.1, ⟨hk.2, ⟨hk.1.2.2.1, ⟨hk.1.2.2.2.1, ⟨hk.1.2.2.2.2.1, ⟨hk.1.2.2.2.2.2.1, hk.1.2.2.2.2.2.2⟩⟩⟩⟩⟩⟩⟩)⟩, ⟨rq HO280⟩, ⟨by (with_reducible repeat (first | apply Kd.S_alloc | apply Kd.S_drewN | apply Kd.S_drew)); exact Kd.S_mono HO_22.out (fun _ hk => ⟨hk.1.1, ⟨hk.1.2.1, ⟨hk.2, hk.1.2.2⟩⟩⟩)⟩, ⟨by (with_reducible repeat (first | apply Kd.S_alloc | apply Kd.S_drewN | apply Kd.S_drew)); exact Kd.S_mono HO_29.out (fun _ hk => ⟨hk.1.1, ⟨hk.2, hk.1.2⟩⟩)⟩, ⟨bq BK257⟩, ⟨bq BK258⟩, ⟨bq BK259⟩, ⟨hq HB⟩⟩
           ·
            rw [if_neg c29] at H
            exact absurd H (by simp)
          ·
           rw [if_neg c27] at H
           exact absurd H (by simp)
         ·
          rw [if_neg c26] at H
          exact absurd H (by simp)
        ·
         rw [if_neg c25] at H
         have c25b0 : decide (x31_2 < (t263.length : Int)) = false := decide_eq_false c25
         clear c25
         by_cases c35 : x8_1.length < 5864062014805
         ·
          rw [if_pos c35] at H
          have LMc35 := A_ c35
          clear c35
          obtain ⟨y281, hy281⟩ : ∃ y_ : List (List Int), y_ = (x8_1 ++ [x12_2]) := ⟨_, rfl⟩
          replace H : (impl_Road_table.l0 k2 y281 t263 t266 (t266.length : Int) (wrap64 (x24_1 + 1))) = some r := by first | (rw [hy281]; with_reducible exact H) | (have H2_ := (Option.bind_some _ _).symm.trans H; rw [hy281]; with_reducible exact H2_) | (have H2_ := (Option.bind_some _ _).symm.trans H; with_reducible exact H2_) | with_reducible exact H | (rw [hy281]; exact H) | exact H
          have Ny281 := A_ hy281
          clear hy281
          have H' := A_ H
          clear H
          obtain ⟨Ao37, co37, eo37⟩ := Kd.R_slice HO_12.out
          subst eo37
          go_wp2_with (first | ((with_reducible refine gate_builtin (b := .append) (xs := #[.tmp 43, .tmp 45]) rfl ?_); at_builtin; refine Kd.S_append (Kd.slice 3 (Kd.int .i64)) (w0 := w) w.heap.size rfl (.tmp 43) (.tmp 45) 40 26 (.slice none 0 0) 24 rfl Try.underlying40 info26 rfl (by decide) (by omega) u8 x8_1 x12_2 [.slice Ao37 x12_2.length co37] (fun k_ => some k_ ≠ (.slice Ao24 t263.length co24 : Value).ownBlock ∧ some k_ ≠ (.slice (some ad269) t266.length co18 : Value).ownBlock ∧ some k_ ≠ (.slice Ao24 t263.length co24 : Value).ownBlock) (fun k_ => some k_ = (.slice Ao37 x12_2.length co37 : Value).ownBlock) rfl rfl ?aP (fun k_ hk_ => ((Kd.R_mono (ok' := fun k_ => ((fun k_ => some k_ ≠ (.slice Ao24 t263.length co24 : Value).ownBlock ∧ some k_ ≠ (.slice (some ad269) t266.length co18 : Value).ownBlock ∧ some k_ ≠ (.slice Ao24 t263.length co24 : Value).ownBlock)) k_ ∧ some k_ ≠ (u8 : Value).ownBlock) (Kd.R_apart' (Kd.R_apart' (Kd.R_apart' (Kd.R_apart' (HO_12.out) (Kd.S_typed HO_9.out) (by decide)) (Kd.S_typed HO_22.out) (by decide)) (Kd.S_typed HO_29.out) (by decide)) (Kd.S_typed HO_8.out) (by decide)) (fun k_ hk => ⟨⟨hk.1.1.1.2, ⟨hk.1.1.2, hk.1.2⟩⟩, hk.2⟩))).1 k_ hk_.symm) ?aF ?aO ?aB ?aS ?aL ?_; (case aP => exact Kd.M_row (Kd.R_mono (Kd.R_tight rfl (Kd.R_mono (ok' := fun k_ => ((fun k_ => some k_ ≠ (.slice Ao24 t263.length co24 : Value).ownBlock ∧ some k_ ≠ (.slice (some ad269) t266.length co18 : Value).ownBlock ∧ some k_ ≠ (.slice Ao24 t263.length co24 : Value).ownBlock)) k_ ∧ some k_ ≠ (u8 : Value).ownBlock) (Kd.R_apart' (Kd.R_apart' (Kd.R_apart' (Kd.R_apart' (HO_12.out) (Kd.S_typed HO_9.out) (by decide)) (Kd.S_typed HO_22.out) (by decide)) (Kd.S_typed HO_29.out) (by decide)) (Kd.S_typed HO_8.out) (by decide)) (fun k_ hk => ⟨⟨hk.1.1.1.2, ⟨hk.1.1.2, hk.1.2⟩⟩, hk.2⟩))) (fun _ h_ => h_))); (case aB => exact (hq HB)); (case aF => exact (fun k_ hk => ⟨Kd.fresh' (Kd.S_lt (sq HO_9)) k_ hk, Kd.fresh' (Kd.S_lt (sq HO_22)) k_ hk, Kd.fresh' (Kd.S_lt (sq HO_29)) k_ hk⟩)); (case aO => exact (by (with_reducible repeat (first | apply Kd.S_alloc | apply Kd.S_drewN | apply Kd.S_drew)); exact Kd.S_mono HO_8.out (fun k_ hk => ⟨⟨hk.1, ⟨hk.2.2.1, hk.2.2.2⟩⟩, fun e_ => hk.2.1 e_⟩))); (case aS => exact (below_size (hq HB))); (case aL => have := LMc35.out; omega); intro v282 w36 ho hb hg hat; rw [← Ny281.out] at ho; have n0_ := A_ (Kd.S_after (ok := (fun k_ => some k_ ≠ (.slice Ao37 x12_2.length co37 : Value).ownBlock ∧ some k_ ≠ (.slice (some ad269) t266.length co18 : Value).ownBlock)) (by (with_reducible repeat (first | apply Kd.S_alloc | apply Kd.S_drewN | apply Kd.S_drew)); exact Kd.S_mono HO_9.out (fun _ hk => ⟨⟨hk.2.1, hk.2.2⟩, hk.1⟩)) hg hat); have n1_ := A_ (Kd.V_afterv (ok := (fun k_ => some k_ ≠ (.slice Ao24 t263.length co24 : Value).ownBlock ∧ some k_ ≠ (.slice Ao37 x12_2.length co37 : Value).ownBlock ∧ some k_ ≠ (.slice (some ad269) t266.length co18 : Value).ownBlock ∧ some k_ ≠ (.slice Ao24 t263.length co24 : Value).ownBlock ∧ k_ ≠ gb257 ∧ k_ ≠ gb258 ∧ k_ ≠ gb259)) (by (with_reducible repeat (first | apply Kd.V_alloc | apply Kd.V_drewN | apply Kd.V_drew)); exact Kd.V_mono HO_11.out (fun _ hk => ⟨⟨hk.2.1, ⟨hk.2.2.1, ⟨hk.2.2.2.1, ⟨hk.2.2.2.2.1, ⟨hk.2.2.2.2.2.1, ⟨hk.2.2.2.2.2.2.1, hk.2.2.2.2.2.2.2⟩⟩⟩⟩⟩⟩, hk.1⟩)) hg hat); have n2_ := A_ (Kd.S_after (ok := (fun k_ => some k_ ≠ (.slice Ao24 t263.length co24 : Value).ownBlock ∧ some k_ ≠ (.slice Ao37 x12_2.length co37 : Value).ownBlock ∧ some k_ ≠ (.slice Ao24 t263.length co24 : Value).ownBlock)) (by (with_reducible repeat (first | apply Kd.S_alloc | apply Kd.S_drewN | apply Kd.S_drew)); exact Kd.S_mono HO_22.out (fun _ hk => ⟨⟨hk.2.1, ⟨hk.2.2.1, hk.2.2.2⟩⟩, hk.1⟩)) hg hat); have n3_ := A_ (Kd.S_after (ok := (fun k_ => some k_ ≠ (.slice Ao37 x12_2.length co37 : Value).ownBlock ∧ some k_ ≠ (.slice (some ad269) t266.length co18 : Value).ownBlock)) (by (with_reducible repeat (first | apply Kd.S_alloc | apply Kd.S_drewN | apply Kd.S_drew)); exact Kd.S_mono HO_29.out (fun _ hk => ⟨⟨hk.2.1, hk.2.2⟩, hk.1⟩)) hg hat); have n4_ := A_ (blk_grown (g := gb257) (o := .cells #[.int .i64 a0_0, .bool a0_1] 25 (0, 0)) (bq BK257) hg (Kd.S_ne HO_8.out BK257.out (by decide))); have n5_ := A_ (blk_grown (g := gb258) (o := .cells #[.int .i64 a1_0, .int .i64 a1_1, .int .i64 a1_2, .slice A1_3 l1_3.length c1_3] 93 (0, 0)) (bq BK258) hg (Kd.S_ne HO_8.out BK258.out (by decide))); have n6_ := A_ (blk_grown (g := gb259) (o := .cells #[.int .i64 a2_0, .int .i64 a2_1, .int .i64 a2_2, .slice A2_3 l2_3.length c2_3] 93 (0, 0)) (bq BK259) hg (Kd.S_ne HO_8.out BK259.out (by decide))); have n7_ := A_ (hb); have n8_ := A_ (ho); clear HO_9; clear HO_11; clear HO_22; clear HO_29; clear BK257; clear BK258; clear BK259; clear HB; clear HO_8; clear HO_12; have HO_9 := n0_; have HO_11 := n1_; have HO_22 := n2_; have HO_29 := n3_; have BK257 := n4_; have BK258 := n5_; have BK259 := n6_; have HB := n7_; have HO283 := n8_; clear n0_ n1_ n2_ n3_ n4_ n5_ n6_ n7_ n8_; clear ho hb hg hat))
          go_roundg k2
          case measure => have := HK1.out; have := HK2.out; omega
          case rel => exact ⟨(y281), (wrap64 (x24_1 + 1)), (by first | rfl | (simp; done) | (simp [*]; done)), H', ⟨by have := HK1.out; have := HK2.out; omega⟩, ⟨by (with_reducible repeat (first | apply Kd.S_alloc | apply Kd.S_drewN | apply Kd.S_drew)); exact Kd.S_mono HO283.out (fun _ hk => ⟨hk.1, hk.2.1⟩)⟩, ⟨by (with_reducible repeat (first | apply Kd.S_alloc | apply Kd.S_drewN | apply Kd.S_drew)); exact Kd.S_mono HO_9.out (fun _ hk => ⟨hk.2, hk.1.2⟩)⟩, ⟨by (with_reducible repeat (first | apply Kd.S_alloc | apply Kd.S_drewN | apply Kd.S_drew)); exact Kd.S_mono HO_22.out (fun _ hk => ⟨hk.2, hk.1.1⟩)⟩, ⟨bq BK257⟩, ⟨bq BK258⟩, ⟨bq BK259⟩, ⟨hq HB⟩⟩
         ·
          rw [if_neg c35] at H
          exact absurd H (by simp)
     ·
      rw [if_neg c21] at H
      exact absurd H (by simp)
    ·
     rw [if_neg c20] at H
     exact absurd H (by simp)
   ·
    rw [if_neg c19] at H
    have c19b0 : decide (x24_1 < (t266.length : Int)) = false := decide_eq_false c19
    clear c19
    obtain rfl := Option.some.inj H
    go_wp2
    go_ret
    exact ⟨_, rt, by (with_reducible repeat (first | apply Kd.S_alloc | apply Kd.S_drewN | apply Kd.S_drew)); exact Kd.S_mono HO_8.out (fun _ hk => trivial), hq HB⟩

/-! ### impl_Road_worstMeet: function 93 -/
def impl_Road_worstMeet.f (k : Nat) (a0_0 : Int) (a0_1 : Bool) (a1_0 : Int) (a1_1 : Int) (a1_2 : Int) (l1_3 : List Int) (a2_0 : Int) (a2_1 : Int) (a2_2 : Int) (l2_3 : List Int) : Option (Int) := (impl_Road_table.f k a0_0 a0_1 a1_0 a1_1 a1_2 l1_3 a2_0 a2_1 a2_2 l2_3).bind fun t287 => ((slices_Concat_int_int.f k t287).bind fun t290 => ((slices_Contains_int_int.f k t290 (-1)).bind fun t293 => (if t293 = true then (some (-1)) else ((slices_Max_int_int.f k t290).bind fun t294 => (some t294)))))
theorem impl_Road_worstMeet.mono : ∀ a0 a1 a2 a3 a4 a5 a6 a7 a8 a9 k, LeO (impl_Road_worstMeet.f k a0 a1 a2 a3 a4 a5 a6 a7 a8 a9) (impl_Road_worstMeet.f (k + 1) a0 a1 a2 a3 a4 a5 a6 a7 a8 a9) := by
  intro a0 a1 a2 a3 a4 a5 a6 a7 a8 a9 k
  unfold impl_Road_worstMeet.f
  repeat' first
      | (with_reducible exact impl_Road_table.mono _ _ _ _ _ _ _ _ _ _ _)
      | (with_reducible exact slices_Concat_int_int.mono _ _)
      | (with_reducible exact slices_Contains_int_int.mono _ _ _)
      | (with_reducible exact slices_Max_int_int.mono _ _)
      | (with_reducible exact LeO.refl _)
      | (with_reducible exact LeO.none _)
      | (with_reducible refine LeO.ite ?_ ?_)
      | (with_reducible refine LeO.bind ?_ (fun _ => ?_))
      | exact impl_Road_table.mono _ _ _ _ _ _ _ _ _ _ _
      | exact slices_Concat_int_int.mono _ _
      | exact slices_Contains_int_int.mono _ _ _
      | exact slices_Max_int_int.mono _ _
      | exact LeO.none _
      | refine LeO.ite ?_ ?_
      | refine LeO.bind ?_ (fun _ => ?_)
set_option maxHeartbeats 8000000 in
set_option maxRecDepth 100000 in
theorem impl_Road_worstMeet.calls (k : Nat) (a0_0 : Int) (a0_1 : Bool) (a1_0 : Int) (a1_1 : Int) (a1_2 : Int) (A1_3 : Option Addr) (c1_3 : Nat) (l1_3 : List Int) (a2_0 : Int) (a2_1 : Int) (a2_2 : Int) (A2_3 : Option Addr) (c2_3 : Nat) (l2_3 : List Int) (r : Int) (w : World) (hr1_3 : Kd.C (Kd.int .i64) w A1_3 l1_3.length l1_3) (hc1_3 : l1_3.length ≤ c1_3) (hr2_3 : Kd.C (Kd.int .i64) w A2_3 l2_3.length l2_3) (hc2_3 : l2_3.length ≤ c2_3) (h : impl_Road_worstMeet.f k a0_0 a0_1 a1_0 a1_1 a1_2 l1_3 a2_0 a2_1 a2_2 l2_3 = some r) :
    Calls Try.prog 93 #[.agg #[.int .i64 a0_0, .bool a0_1], .agg #[.int .i64 a1_0, .int .i64 a1_1, .int .i64 a1_2, .slice A1_3 l1_3.length c1_3], .agg #[.int .i64 a2_0, .int .i64 a2_1, .int .i64 a2_2, .slice A2_3 l2_3.length c2_3]] w fun e w' => e = .returned (.int .i64 r) ∧ Below w.heap.size w w' := by
 have hu25 := Try.underlying25
 have hu93 := Try.underlying93
 have HR1_3 := A_ hr1_3
 have HC1_3 := A_ hc1_3
 clear hr1_3 hc1_3
 have HR2_3 := A_ hr2_3
 have HC2_3 := A_ hc2_3
 clear hr2_3 hc2_3
 have HB := A_ (Below.refl w.heap.size w)
 have H : ((impl_Road_table.f k a0_0 a0_1 a1_0 a1_1 a1_2 l1_3 a2_0 a2_1 a2_2 l2_3).bind fun t287 => ((slices_Concat_int_int.f k t287).bind fun t290 => ((slices_Contains_int_int.f k t290 (-1)).bind fun t293 => (if t293 = true then (some (-1)) else ((slices_Max_int_int.f k t290).bind fun t294 => (some t294)))))) = some r := h
 clear h
 replace H := Option.bind_eq_some_iff.mp H
 obtain ⟨t287, A40, H⟩ := H
 replace H : ((slices_Concat_int_int.f k t287).bind fun t290 => ((slices_Contains_int_int.f k t290 (-1)).bind fun t293 => (if t293 = true then (some (-1)) else ((slices_Max_int_int.f k t290).bind fun t294 => (some t294))))) = some r := H
 have A4 := A_ A40
 clear A40
 replace H := Option.bind_eq_some_iff.mp H
 obtain ⟨t290, A50, H⟩ := H
 replace H : ((slices_Contains_int_int.f k t290 (-1)).bind fun t293 => (if t293 = true then (some (-1)) else ((slices_Max_int_int.f k t290).bind fun t294 => (some t294)))) = some r := H
 have A5 := A_ A50
 clear A50
 replace H := Option.bind_eq_some_iff.mp H
 obtain ⟨t293, A60, H⟩ := H
 replace H : (if t293 = true then (some (-1)) else ((slices_Max_int_int.f k t290).bind fun t294 => (some t294))) = some r := H
 have A6 := A_ A60
 clear A60
 by_cases c7 : t293 = true
 ·
  subst c7
  have H1 : (some (-1)) = some r := by rw [if_pos rfl] at H; exact H
  clear H
  have H := H1
  clear H1
  obtain rfl := Option.some.inj H
  go_enter Try.func93, Try.ntmps93
  go_wp2_with (first | ((with_reducible refine gate_dst (N := 3) rfl ?_); refine box_event ?hg (N := 3) ?hd (cs := #[.int .i64 a0_0, .bool a0_1]) (t := 25) ?hr ?_; (case hd => rfl); (case hg => rfl); (case hr => first | (go_simp; done) | (go_simp; rfl)); intro gb284 hg w8 hbox hb; have n0_ := A_ (below_step (hq HB) hb); have n1_ := A_ (hbox); have n2_ := A_ ((by rw [hg]; exact (below_size (hq HB)) : w.heap.size ≤ gb284)); have n3_ := A_ ((by rw [hg]; exact (below_size (hq HB)) : w.heap.size ≤ gb284)); clear HB; have HB := n0_; have BK284 := n1_; have GW284 := n2_; have GE284 := n3_; clear n0_ n1_ n2_ n3_; clear hb hbox hg) | ((with_reducible refine gate_dst (N := 4) rfl ?_); refine box_event ?hg (N := 4) ?hd (cs := #[.int .i64 a1_0, .int .i64 a1_1, .int .i64 a1_2, .slice A1_3 l1_3.length c1_3]) (t := 93) ?hr ?_; (case hd => rfl); (case hg => rfl); (case hr => first | (go_simp; done) | (go_simp; rfl)); intro gb285 hg w9 hbox hb; have n0_ := A_ (blk_below (bq BK284) hb); have n1_ := A_ (below_step (hq HB) hb); have n2_ := A_ (hbox); have n3_ := A_ ((by rw [hg]; exact (below_size (hq HB)) : w.heap.size ≤ gb285)); have n4_ := A_ ((by rw [hg]; exact (below_size (hq HB)) : w.heap.size ≤ gb285)); have n5_ := A_ ((by rw [hg]; exact Nat.ne_of_lt (blk_lt (bq BK284)) : gb284 ≠ gb285)); have n6_ := A_ ((by rw [hg]; exact Nat.ne_of_gt (blk_lt (bq BK284)) : gb285 ≠ gb284)); clear BK284; clear HB; have BK284 := n0_; have HB := n1_; have BK285 := n2_; have GW285 := n3_; have GE285 := n4_; have NB284_285 := n5_; have NB285_284 := n6_; clear n0_ n1_ n2_ n3_ n4_ n5_ n6_; clear hb hbox hg) | ((with_reducible refine gate_dst (N := 5) rfl ?_); refine box_event ?hg (N := 5) ?hd (cs := #[.int .i64 a2_0, .int .i64 a2_1, .int .i64 a2_2, .slice A2_3 l2_3.length c2_3]) (t := 93) ?hr ?_; (case hd => rfl); (case hg => rfl); (case hr => first | (go_simp; done) | (go_simp; rfl)); intro gb286 hg w10 hbox hb; have n0_ := A_ (blk_below (bq BK284) hb); have n1_ := A_ (blk_below (bq BK285) hb); have n2_ := A_ (below_step (hq HB) hb); have n3_ := A_ (hbox); have n4_ := A_ ((by rw [hg]; exact (below_size (hq HB)) : w.heap.size ≤ gb286)); have n5_ := A_ ((by rw [hg]; exact (below_size (hq HB)) : w.heap.size ≤ gb286)); have n6_ := A_ ((by rw [hg]; exact Nat.ne_of_lt (blk_lt (bq BK284)) : gb284 ≠ gb286)); have n7_ := A_ ((by rw [hg]; exact Nat.ne_of_gt (blk_lt (bq BK284)) : gb286 ≠ gb284)); have n8_ := A_ ((by rw [hg]; exact Nat.ne_of_lt (blk_lt (bq BK285)) : gb285 ≠ gb286)); have n9_ := A_ ((by rw [hg]; exact Nat.ne_of_gt (blk_lt (bq BK285)) : gb286 ≠ gb285)); clear BK284; clear BK285; clear HB; have BK284 := n0_; have BK285 := n1_; have HB := n2_; have BK286 := n3_; have GW286 := n4_; have GE286 := n5_; have NB284_286 := n6_; have NB286_284 := n7_; have NB285_286 := n8_; have NB286_285 := n9_; clear n0_ n1_ n2_ n3_ n4_ n5_ n6_ n7_ n8_ n9_; clear hb hbox hg; have hnb11 := NB284_285.out; have hnc11 := NB285_284.out; have hnb12 := NB284_286.out; have hnc12 := NB286_284.out; have hcz13_0 : w10.cell? ⟨gb284, 0, none⟩ = some (.int .i64 a0_0) := bc BK284 0; have hcz13_1 : w10.cell? ⟨gb284, 1, none⟩ = some (.bool a0_1) := bc BK284 1; have hfz13_0 := blk_frozen BK284.out 0; have hfz13_1 := blk_frozen BK284.out 1; have hnb14 := NB285_286.out; have hnc14 := NB286_285.out; have hcz15_0 : w10.cell? ⟨gb285, 0, none⟩ = some (.int .i64 a1_0) := bc BK285 0; have hcz15_1 : w10.cell? ⟨gb285, 1, none⟩ = some (.int .i64 a1_1) := bc BK285 1; have hcz15_2 : w10.cell? ⟨gb285, 2, none⟩ = some (.int .i64 a1_2) := bc BK285 2; have hcz15_3 : w10.cell? ⟨gb285, 3, none⟩ = some (.slice A1_3 l1_3.length c1_3) := bc BK285 3; have hfz15_0 := blk_frozen BK285.out 0; have hfz15_1 := blk_frozen BK285.out 1; have hfz15_2 := blk_frozen BK285.out 2; have hfz15_3 := blk_frozen BK285.out 3; have hcz16_0 : w10.cell? ⟨gb286, 0, none⟩ = some (.int .i64 a2_0) := bc BK286 0; have hcz16_1 : w10.cell? ⟨gb286, 1, none⟩ = some (.int .i64 a2_1) := bc BK286 1; have hcz16_2 : w10.cell? ⟨gb286, 2, none⟩ = some (.int .i64 a2_2) := bc BK286 2; have hcz16_3 : w10.cell? ⟨gb286, 3, none⟩ = some (.slice A2_3 l2_3.length c2_3) := bc BK286 3; have hfz16_0 := blk_frozen BK286.out 0; have hfz16_1 := blk_frozen BK286.out 1; have hfz16_2 := blk_frozen BK286.out 2; have hfz16_3 := blk_frozen BK286.out 3) | ((with_reducible refine gate_callee (f := 110) rfl ?_); refine goesL_ (some 11) rfl rfl Try.func110 (by kernel_rfl) rfl #[.agg #[.int .i64 a0_0, .bool a0_1], .agg #[.int .i64 a1_0, .int .i64 a1_1, .int .i64 a1_2, .slice A1_3 l1_3.length c1_3], .agg #[.int .i64 a2_0, .int .i64 a2_1, .int .i64 a2_2, .slice A2_3 l2_3.length c2_3]] rfl gq ?_; (with_reducible refine (impl_Road_table.calls k a0_0 a0_1 a1_0 a1_1 a1_2 _ _ l1_3 a2_0 a2_1 a2_2 _ _ l2_3 t287 _ ?side1 ?side2 ?side3 ?side4 A4.out).mono ?_); (case side1 => exact cq (Kd.C_below HR1_3.out HB.out)); (case side2 => exact HC1_3.out); (case side3 => exact cq (Kd.C_below HR2_3.out HB.out)); (case side4 => exact HC2_3.out); rintro e w17 ⟨v288, rfl, ho0, hb⟩; refine ⟨_, rfl, ?_⟩; have n0_ := A_ (Kd.S_lower ho0 (below_size (hq HB))); have n1_ := A_ (blk_below (bq BK284) hb); have n2_ := A_ (blk_below (bq BK285) hb); have n3_ := A_ (blk_below (bq BK286) hb); have n4_ := A_ (below_step (hq HB) hb); clear BK284; clear BK285; clear BK286; clear HB; have HO289 := n0_; have BK284 := n1_; have BK285 := n2_; have BK286 := n3_; have HB := n4_; clear n0_ n1_ n2_ n3_ n4_; (try clear hb); (try clear hb2); (try clear hk); (try clear hi); (try clear ho0); obtain ⟨Ao18, co18, eo18⟩ := Kd.S_slice HO289.out; subst eo18) | ((with_reducible refine gate_callee (f := 109) rfl ?_); refine goesL_ (some 12) rfl rfl Try.func109 (by kernel_rfl) rfl #[.slice Ao18 t287.length co18] rfl gq ?_; (with_reducible refine (slices_Concat_int_int.calls k _ _ t287 t290 _ ?side1 ?side2 A5.out).mono ?_); (case side1 => exact cq (Kd.S_reads' HO289.out).2.2); (case side2 => exact (Kd.S_reads' HO289.out).2.1); rintro e w19 ⟨v291, rfl, ho0, hb⟩; refine ⟨_, rfl, ?_⟩; have n0_ := A_ (Kd.S_elder' (sq HO289) (Kd.R_base ho0) hb); have n1_ := A_ (Kd.R_lower ho0 (below_size (hq HB))); have n2_ := A_ (blk_below (bq BK284) hb); have n3_ := A_ (blk_below (bq BK285) hb); have n4_ := A_ (blk_below (bq BK286) hb); have n5_ := A_ (below_step (hq HB) hb); clear HO289; clear BK284; clear BK285; clear BK286; clear HB; have HO289 := n0_; have HO292 := n1_; have BK284 := n2_; have BK285 := n3_; have BK286 := n4_; have HB := n5_; clear n0_ n1_ n2_ n3_ n4_ n5_; (try clear hb); (try clear hb2); (try clear hk); (try clear hi); (try clear ho0); obtain ⟨Ao20, co20, eo20⟩ := Kd.R_slice HO292.out; subst eo20) | ((with_reducible refine gate_callee (f := 68) rfl ?_); refine goesL_ (some 14) rfl rfl Try.func68 (by kernel_rfl) rfl #[.slice Ao20 t290.length co20, .int .i64 (-1)] rfl gq ?_; (with_reducible refine (slices_Contains_int_int.calls k _ _ t290 (-1) true _ ?side1 ?side2 A6.out).mono ?_); (case side1 => exact cq (Kd.R_reads' HO292.out).2.2); (case side2 => exact (Kd.R_reads' HO292.out).2.1); rintro e w' ⟨rfl, ⟨nd, rfl⟩⟩; refine ⟨_, rfl, ?_⟩))
  go_ret
  exact ⟨rt, hq HB⟩
 ·
  replace c7 := Bool.eq_false_iff.mpr c7
  subst c7
  have H1 : ((slices_Max_int_int.f k t290).bind fun t294 => (some t294)) = some r := by rw [if_neg (show ¬ (false = true) by decide)] at H; exact H
  clear H
  have H := H1
  clear H1
  replace H := Option.bind_eq_some_iff.mp H
  obtain ⟨t294, A210, H⟩ := H
  replace H : (some t294) = some r := H
  have A21 := A_ A210
  clear A210
  obtain rfl := Option.some.inj H
  go_enter Try.func93, Try.ntmps93
  go_wp2_with (first | ((with_reducible refine gate_dst (N := 3) rfl ?_); refine box_event ?hg (N := 3) ?hd (cs := #[.int .i64 a0_0, .bool a0_1]) (t := 25) ?hr ?_; (case hd => rfl); (case hg => rfl); (case hr => first | (go_simp; done) | (go_simp; rfl)); intro gb284 hg w22 hbox hb; have n0_ := A_ (below_step (hq HB) hb); have n1_ := A_ (hbox); have n2_ := A_ ((by rw [hg]; exact (below_size (hq HB)) : w.heap.size ≤ gb284)); have n3_ := A_ ((by rw [hg]; exact (below_size (hq HB)) : w.heap.size ≤ gb284)); clear HB; have HB := n0_; have BK284 := n1_; have GW284 := n2_; have GE284 := n3_; clear n0_ n1_ n2_ n3_; clear hb hbox hg) | ((with_reducible refine gate_dst (N := 4) rfl ?_); refine box_event ?hg (N := 4) ?hd (cs := #[.int .i64 a1_0, .int .i64 a1_1, .int .i64 a1_2, .slice A1_3 l1_3.length c1_3]) (t := 93) ?hr ?_; (case hd => rfl); (case hg => rfl); (case hr => first | (go_simp; done) | (go_simp; rfl)); intro gb285 hg w23 hbox hb; have n0_ := A_ (blk_below (bq BK284) hb); have n1_ := A_ (below_step (hq HB) hb); have n2_ := A_ (hbox); have n3_ := A_ ((by rw [hg]; exact (below_size (hq HB)) : w.heap.size ≤ gb285)); have n4_ := A_ ((by rw [hg]; exact (below_size (hq HB)) : w.heap.size ≤ gb285)); have n5_ := A_ ((by rw [hg]; exact Nat.ne_of_lt (blk_lt (bq BK284)) : gb284 ≠ gb285)); have n6_ := A_ ((by rw [hg]; exact Nat.ne_of_gt (blk_lt (bq BK284)) : gb285 ≠ gb284)); clear BK284; clear HB; have BK284 := n0_; have HB := n1_; have BK285 := n2_; have GW285 := n3_; have GE285 := n4_; have NB284_285 := n5_; have NB285_284 := n6_; clear n0_ n1_ n2_ n3_ n4_ n5_ n6_; clear hb hbox hg) | ((with_reducible refine gate_dst (N := 5) rfl ?_); refine box_event ?hg (N := 5) ?hd (cs := #[.int .i64 a2_0, .int .i64 a2_1, .int .i64 a2_2, .slice A2_3 l2_3.length c2_3]) (t := 93) ?hr ?_; (case hd => rfl); (case hg => rfl); (case hr => first | (go_simp; done) | (go_simp; rfl)); intro gb286 hg w24 hbox hb; have n0_ := A_ (blk_below (bq BK284) hb); have n1_ := A_ (blk_below (bq BK285) hb); have n2_ := A_ (below_step (hq HB) hb); have n3_ := A_ (hbox); have n4_ := A_ ((by rw [hg]; exact (below_size (hq HB)) : w.heap.size ≤ gb286)); have n5_ := A_ ((by rw [hg]; exact (below_size (hq HB)) : w.heap.size ≤ gb286)); have n6_ := A_ ((by rw [hg]; exact Nat.ne_of_lt (blk_lt (bq BK284)) : gb284 ≠ gb286)); have n7_ := A_ ((by rw [hg]; exact Nat.ne_of_gt (blk_lt (bq BK284)) : gb286 ≠ gb284)); have n8_ := A_ ((by rw [hg]; exact Nat.ne_of_lt (blk_lt (bq BK285)) : gb285 ≠ gb286)); have n9_ := A_ ((by rw [hg]; exact Nat.ne_of_gt (blk_lt (bq BK285)) : gb286 ≠ gb285)); clear BK284; clear BK285; clear HB; have BK284 := n0_; have BK285 := n1_; have HB := n2_; have BK286 := n3_; have GW286 := n4_; have GE286 := n5_; have NB284_286 := n6_; have NB286_284 := n7_; have NB285_286 := n8_; have NB286_285 := n9_; clear n0_ n1_ n2_ n3_ n4_ n5_ n6_ n7_ n8_ n9_; clear hb hbox hg; have hnb25 := NB284_285.out; have hnc25 := NB285_284.out; have hnb26 := NB284_286.out; have hnc26 := NB286_284.out; have hcz27_0 : w24.cell? ⟨gb284, 0, none⟩ = some (.int .i64 a0_0) := bc BK284 0; have hcz27_1 : w24.cell? ⟨gb284, 1, none⟩ = some (.bool a0_1) := bc BK284 1; have hfz27_0 := blk_frozen BK284.out 0; have hfz27_1 := blk_frozen BK284.out 1; have hnb28 := NB285_286.out; have hnc28 := NB286_285.out; have hcz29_0 : w24.cell? ⟨gb285, 0, none⟩ = some (.int .i64 a1_0) := bc BK285 0; have hcz29_1 : w24.cell? ⟨gb285, 1, none⟩ = some (.int .i64 a1_1) := bc BK285 1; have hcz29_2 : w24.cell? ⟨gb285, 2, none⟩ = some (.int .i64 a1_2) := bc BK285 2; have hcz29_3 : w24.cell? ⟨gb285, 3, none⟩ = some (.slice A1_3 l1_3.length c1_3) := bc BK285 3; have hfz29_0 := blk_frozen BK285.out 0; have hfz29_1 := blk_frozen BK285.out 1; have hfz29_2 := blk_frozen BK285.out 2; have hfz29_3 := blk_frozen BK285.out 3; have hcz30_0 : w24.cell? ⟨gb286, 0, none⟩ = some (.int .i64 a2_0) := bc BK286 0; have hcz30_1 : w24.cell? ⟨gb286, 1, none⟩ = some (.int .i64 a2_1) := bc BK286 1; have hcz30_2 : w24.cell? ⟨gb286, 2, none⟩ = some (.int .i64 a2_2) := bc BK286 2; have hcz30_3 : w24.cell? ⟨gb286, 3, none⟩ = some (.slice A2_3 l2_3.length c2_3) := bc BK286 3; have hfz30_0 := blk_frozen BK286.out 0; have hfz30_1 := blk_frozen BK286.out 1; have hfz30_2 := blk_frozen BK286.out 2; have hfz30_3 := blk_frozen BK286.out 3) | ((with_reducible refine gate_callee (f := 110) rfl ?_); refine goesL_ (some 11) rfl rfl Try.func110 (by kernel_rfl) rfl #[.agg #[.int .i64 a0_0, .bool a0_1], .agg #[.int .i64 a1_0, .int .i64 a1_1, .int .i64 a1_2, .slice A1_3 l1_3.length c1_3], .agg #[.int .i64 a2_0, .int .i64 a2_1, .int .i64 a2_2, .slice A2_3 l2_3.length c2_3]] rfl gq ?_; (with_reducible refine (impl_Road_table.calls k a0_0 a0_1 a1_0 a1_1 a1_2 _ _ l1_3 a2_0 a2_1 a2_2 _ _ l2_3 t287 _ ?side1 ?side2 ?side3 ?side4 A4.out).mono ?_); (case side1 => exact cq (Kd.C_below HR1_3.out HB.out)); (case side2 => exact HC1_3.out); (case side3 => exact cq (Kd.C_below HR2_3.out HB.out)); (case side4 => exact HC2_3.out); rintro e w31 ⟨v288, rfl, ho0, hb⟩; refine ⟨_, rfl, ?_⟩; have n0_ := A_ (Kd.S_lower ho0 (below_size (hq HB))); have n1_ := A_ (blk_below (bq BK284) hb); have n2_ := A_ (blk_below (bq BK285) hb); have n3_ := A_ (blk_below (bq BK286) hb); have n4_ := A_ (below_step (hq HB) hb); clear BK284; clear BK285; clear BK286; clear HB; have HO289 := n0_; have BK284 := n1_; have BK285 := n2_; have BK286 := n3_; have HB := n4_; clear n0_ n1_ n2_ n3_ n4_; (try clear hb); (try clear hb2); (try clear hk); (try clear hi); (try clear ho0); obtain ⟨Ao32, co32, eo32⟩ := Kd.S_slice HO289.out; subst eo32) | ((with_reducible refine gate_callee (f := 109) rfl ?_); refine goesL_ (some 12) rfl rfl Try.func109 (by kernel_rfl) rfl #[.slice Ao32 t287.length co32] rfl gq ?_; (with_reducible refine (slices_Concat_int_int.calls k _ _ t287 t290 _ ?side1 ?side2 A5.out).mono ?_); (case side1 => exact cq (Kd.S_reads' HO289.out).2.2); (case side2 => exact (Kd.S_reads' HO289.out).2.1); rintro e w33 ⟨v291, rfl, ho0, hb⟩; refine ⟨_, rfl, ?_⟩; have n0_ := A_ (Kd.S_elder' (sq HO289) (Kd.R_base ho0) hb); have n1_ := A_ (Kd.R_lower ho0 (below_size (hq HB))); have n2_ := A_ (blk_below (bq BK284) hb); have n3_ := A_ (blk_below (bq BK285) hb); have n4_ := A_ (blk_below (bq BK286) hb); have n5_ := A_ (below_step (hq HB) hb); clear HO289; clear BK284; clear BK285; clear BK286; clear HB; have HO289 := n0_; have HO292 := n1_; have BK284 := n2_; have BK285 := n3_; have BK286 := n4_; have HB := n5_; clear n0_ n1_ n2_ n3_ n4_ n5_; (try clear hb); (try clear hb2); (try clear hk); (try clear hi); (try clear ho0); obtain ⟨Ao34, co34, eo34⟩ := Kd.R_slice HO292.out; subst eo34) | ((with_reducible refine gate_callee (f := 68) rfl ?_); refine goesL_ (some 14) rfl rfl Try.func68 (by kernel_rfl) rfl #[.slice Ao34 t290.length co34, .int .i64 (-1)] rfl gq ?_; (with_reducible refine (slices_Contains_int_int.calls k _ _ t290 (-1) false _ ?side1 ?side2 A6.out).mono ?_); (case side1 => exact cq (Kd.R_reads' HO292.out).2.2); (case side2 => exact (Kd.R_reads' HO292.out).2.1); rintro e w' ⟨rfl, ⟨nd, rfl⟩⟩; refine ⟨_, rfl, ?_⟩) | ((with_reducible refine gate_callee (f := 69) rfl ?_); refine goesL_ (some 16) rfl rfl Try.func69 (by kernel_rfl) rfl #[.slice Ao34 t290.length co34] rfl gq ?_; (with_reducible refine (slices_Max_int_int.calls k _ _ t290 t294 _ ?side1 ?side2 A21.out).mono ?_); (case side1 => exact cq (Kd.R_reads' HO292.out).2.2); (case side2 => exact (Kd.R_reads' HO292.out).2.1); rintro e w35 ⟨rfl, hb⟩; refine ⟨_, rfl, ?_⟩; have n0_ := A_ (Kd.S_below (sq HO289) hb); have n1_ := A_ (Kd.R_below (rq HO292) hb); have n2_ := A_ (blk_below (bq BK284) hb); have n3_ := A_ (blk_below (bq BK285) hb); have n4_ := A_ (blk_below (bq BK286) hb); have n5_ := A_ (below_step (hq HB) hb); clear HO289; clear HO292; clear BK284; clear BK285; clear BK286; clear HB; have HO289 := n0_; have HO292 := n1_; have BK284 := n2_; have BK285 := n3_; have BK286 := n4_; have HB := n5_; clear n0_ n1_ n2_ n3_ n4_ n5_; (try clear hb); (try clear hb2); (try clear hk); (try clear hi)))
  go_ret
  exact ⟨rt, hq HB⟩

end Go.Proofs.Ytmamhnbhahafgaa.PFnLabels
