-- Told shorter still by shrink2.py.
-- Printed, and told shorter by this session's program shrink.py.
-- Printed by this session's program myprint.py.
import Derived.Test.YthgbkekfekcfaaaPFnExactBestPlansx0
import Derived.Test.YthgbkekfekcfaaaPFnExactBestPlansx6
namespace Go.Proofs.Ythgbkekfekcfaaa.PFnExactBestPlans
open Go.RowKit Go.Proofs.Ythgbkekfekcfaaa.Own Go.Proofs.YthgbkekfekcfaaaW.PrintWords Go.Proofs.YthgbkekfekcfaaaW.PrintLast Go.Proofs.YthgbkekfekcfaaaW.PrintMore
attribute [local go_sem] max2_int min2_int max_two min_two max_three min_three max_four min_four   -- for this text's walks alone
set_option linter.unusedVariables false
set_option linter.unusedSimpArgs false

/-! ### impl_Road_table_1: function 73 -/
def impl_Road_table_1.l0 : Nat → List (List Int) → Int → Int → Int → Bool → Int → Int → Int → List Int → Option ((List (List Int)))
  | 0, _, _, _, _, _, _, _, _, _ => none
  | k + 1, x4, x8, x9, x2000, x2001, x330000, x330001, x330002, x330003 => if x9 < x8 then ((impl_Road_walk.f k x2000 x2001 x9 x330001 x330002 x330003 60).bind fun t333 => (if x4.length < 5864062014805 then (impl_Road_table_1.l0 k (x4 ++ [t333]) x8 (wrap64 (x9 + 1)) x2000 x2001 x9 x330001 x330002 x330003) else (none))) else (some x4)
def impl_Road_table_1.f (k : Nat) (a0_0 : Int) (a0_1 : Int) (a0_2 : Int) (l0_3 : List Int) (a1_0 : Int) (a1_1 : Bool) : Option ((List (List Int))) := impl_Road_table_1.l0 k (([] : List (List Int))) a1_0 0 a1_0 a1_1 a0_0 a0_1 a0_2 l0_3
theorem impl_Road_table_1.mono_l : ∀ k, (∀ y0 y1 y2 y3 y4 y5 y6 y7 y8, LeO (impl_Road_table_1.l0 k y0 y1 y2 y3 y4 y5 y6 y7 y8) (impl_Road_table_1.l0 (k + 1) y0 y1 y2 y3 y4 y5 y6 y7 y8))
  | 0 => fun _ _ _ _ _ _ _ _ _ r h => by simp [impl_Road_table_1.l0] at h
  | k + 1 => by
    have ih0 := impl_Road_table_1.mono_l k
    · intro y0 y1 y2 y3 y4 y5 y6 y7 y8
      unfold impl_Road_table_1.l0
      repeat' first
      | (with_reducible exact ih0 _ _ _ _ _ _ _ _ _)
      | (with_reducible exact impl_Road_walk.mono _ _ _ _ _ _ _ _)
      | (with_reducible exact LeO.refl _)
      | (with_reducible exact LeO.none _)
      | (with_reducible refine LeO.ite ?_ ?_)
      | (with_reducible refine LeO.bind ?_ (fun _ => ?_))
      | exact ih0 _ _ _ _ _ _ _ _ _
      | exact impl_Road_walk.mono _ _ _ _ _ _ _ _
      | exact LeO.none _
      | refine LeO.ite ?_ ?_
      | refine LeO.bind ?_ (fun _ => ?_)
theorem impl_Road_table_1.mono : ∀ a0 a1 a2 a3 a4 a5 k, LeO (impl_Road_table_1.f k a0 a1 a2 a3 a4 a5) (impl_Road_table_1.f (k + 1) a0 a1 a2 a3 a4 a5) := by
  intro a0 a1 a2 a3 a4 a5 k
  have ih0 := impl_Road_table_1.mono_l k
  unfold impl_Road_table_1.f
  repeat' first
      | (with_reducible exact ih0 _ _ _ _ _ _ _ _ _)
      | (with_reducible exact impl_Road_walk.mono _ _ _ _ _ _ _ _)
      | (with_reducible exact LeO.refl _)
      | (with_reducible exact LeO.none _)
      | (with_reducible refine LeO.ite ?_ ?_)
      | (with_reducible refine LeO.bind ?_ (fun _ => ?_))
      | exact ih0 _ _ _ _ _ _ _ _ _
      | exact impl_Road_walk.mono _ _ _ _ _ _ _ _
      | exact LeO.none _
      | refine LeO.ite ?_ ?_
      | refine LeO.bind ?_ (fun _ => ?_)
set_option maxHeartbeats 8000000 in
set_option maxRecDepth 100000 in
theorem impl_Road_table_1.calls (k : Nat) (a0_0 : Int) (a0_1 : Int) (a0_2 : Int) (A0_3 : Option Addr) (c0_3 : Nat) (l0_3 : List Int) (gc1 : Nat) (a1_0 : Int) (a1_1 : Bool) (r : List (List Int)) (w : World) (hb1 : w.heap[gc1]? = some (.cells #[.int .i64 a1_0, .bool a1_1] 27 (0, 0))) (hr0_3 : Kd.C (Kd.int .i64) w A0_3 l0_3.length l0_3) (hc0_3 : l0_3.length ≤ c0_3) (h : impl_Road_table_1.f k a0_0 a0_1 a0_2 l0_3 a1_0 a1_1 = some r) :
    Calls Try.prog 73 #[.agg #[.int .i64 a0_0, .int .i64 a0_1, .int .i64 a0_2, .slice A0_3 l0_3.length c0_3], .pointer (some ⟨gc1, 0, none⟩)] w fun e w' => ∃ v0_ : Value, e = .returned (v0_) ∧ Kd.S (Kd.slice 3 (Kd.int .i64)) 24 w' w.heap.size (fun _ => True) v0_ r ∧ Below w.heap.size w w' := by
 have hu52 := Try.underlying52; have hu27 := Try.underlying27; have HR0_3 := A_ hr0_3; have HC0_3 := A_ hc0_3; clear hr0_3 hc0_3; have BK1 := A_ hb1; clear hb1; have HB := A_ (Below.refl w.heap.size w); have H : (impl_Road_table_1.l0 k (([] : List (List Int))) a1_0 0 a1_0 a1_1 a0_0 a0_1 a0_2 l0_3) = some r := h; clear h
 obtain ⟨y330, hy330⟩ : ∃ y_ : List (List Int), y_ = (([] : List (List Int))) := ⟨_, rfl⟩
 replace H : (impl_Road_table_1.l0 k y330 a1_0 0 a1_0 a1_1 a0_0 a0_1 a0_2 l0_3) = some r := by first | (rw [hy330]; with_reducible exact H) | (have H2_ := (Option.bind_some _ _).symm.trans H; rw [hy330]; with_reducible exact H2_) | (have H2_ := (Option.bind_some _ _).symm.trans H; with_reducible exact H2_) | with_reducible exact H | (rw [hy330]; exact H) | exact H
 have Ny330 := A_ hy330; clear hy330; have H' := A_ H; clear H; go_enter Try.func73, Try.ntmps73
 go_wp2_with (first | ((with_reducible refine gate_dst (N := 2) rfl ?_); refine bx (N := 2) #[.int .i64 a0_0, .int .i64 a0_1, .int .i64 a0_2, .slice A0_3 l0_3.length c0_3] 52 ?_; intro gb329 hg w3 hbox hb; have BK329 := A_ (hbox); have GW329 := A_ (bs hg (hq HB) : w.heap.size ≤ gb329); have GE329 := A_ (bs hg (hq HB) : w.heap.size ≤ gb329); replace HB := A_ (below_step (hq HB) hb); have NB1_329 := A_ ((by rw [hg]; exact Nat.ne_of_lt (blk_lt (bq BK1)) : gc1 ≠ gb329)); have NB329_1 := A_ ((by rw [hg]; exact Nat.ne_of_gt (blk_lt (bq BK1)) : gb329 ≠ gc1)); replace BK1 := A_ (blk_below (bq BK1) hb); clear hb hbox hg) | ((with_reducible refine gate_dst (N := 6) rfl ?_); refine Kd.S_lit (Kd.slice 3 (Kd.int .i64)) _ 24 ?hg (N := 6) ?hd (xs := ([] : List (List Int))) (inner := []) (ok := fun _ => True) (okp := fun _ => True) ?hr ?hp (fun _ hk => hk) trivial (Below.refl _ _) (Nat.le_refl _) (by simp) ?_; (case hd => rfl); (case hg => rfl); (case hr => first | (go_simp; done) | (go_simp; rfl)); (case hp => exact (Reps.none _ _)); intro v331 w4 ho5 hb hg_ hnew_; clear hg_ hnew_; (first | rw [← Ny330.out] at ho5 | (simp only [Int.reduceToNat] at ho5; rw [← Ny330.out] at ho5)); have HO332 := A_ (Kd.S_lower ho5 (below_size (hq HB))); replace BK1 := A_ (blk_below (bq BK1) hb); replace BK329 := A_ (blk_below (bq BK329) hb); replace HB := A_ (below_step (hq HB) hb); clear hb ho5; have hnb6 := NB1_329.out; have hnc6 := NB329_1.out; have hcz7_0 : w4.cell? ⟨gc1, 0, none⟩ = some (.int .i64 a1_0) := bc BK1 0; have hcz7_1 : w4.cell? ⟨gc1, 1, none⟩ = some (.bool a1_1) := bc BK1 1; have hfz7_0 := blk_frozen BK1.out 0; have hfz7_1 := blk_frozen BK1.out 1))
 go_loopg [4, 9] k (fun kq v4 v9 w' => ∃ (x4_1 : List (List Int)) (x9_1 : Int) (x330000_1 : Int), v9 = .int .i64 x9_1 ∧ Aside0 (impl_Road_table_1.l0 kq x4_1 a1_0 x9_1 a1_0 a1_1 x330000_1 a0_1 a0_2 l0_3 = some r) ∧ Aside0 (kq ≤ k) ∧ Aside0 (Kd.S (Kd.slice 3 (Kd.int .i64)) 24 w' w.heap.size (fun _ => True) v4 x4_1) ∧ Aside0 (w'.heap[gc1]? = some (.cells #[.int .i64 a1_0, .bool a1_1] 27 (0, 0))) ∧ Aside0 (w'.heap[gb329]? = some (.cells #[.int .i64 x330000_1, .int .i64 a0_1, .int .i64 a0_2, (.slice A0_3 l0_3.length c0_3)] 52 (0, 0))) ∧ Aside0 (Below w.heap.size w w'))
 case atStart => exact ⟨(y330), (0), (a0_0), rf, H', ⟨Nat.le_refl _⟩, ⟨sq HO332⟩, ⟨bq BK1⟩, ⟨bq BK329⟩, ⟨hq HB⟩⟩
 case round =>
  clear H'; (try clear hcz7_0); (try clear hcz7_1); (try clear hfz7_0); (try clear hfz7_1); obtain ⟨x4_1, x9_1, x330000_1, rfl, HA, HK1, HO_4, BK1, BK329, HB⟩ := hrel
  cases gk with
  | zero => exact absurd HA.out (by simp [impl_Road_table_1.l0])
  | succ k1 =>
   have H := HA.out; clear HA; simp only [impl_Road_table_1.l0] at H
   by_cases c8 : x9_1 < a1_0
   ·
    rw [if_pos c8] at H; have c8b0 := decide_eq_true c8; clear c8; replace H := bm H; obtain ⟨t333, A9, H⟩ := H; by_cases c10 : x4_1.length < 5864062014805
    ·
     rw [if_pos c10] at H; have LMc10 := A_ c10; clear c10
     obtain ⟨y336, hy336⟩ : ∃ y_ : List (List Int), y_ = (x4_1 ++ [t333]) := ⟨_, rfl⟩
     replace H : (impl_Road_table_1.l0 k1 y336 a1_0 (wrap64 (x9_1 + 1)) a1_0 a1_1 x9_1 a0_1 a0_2 l0_3) = some r := by first | (rw [hy336]; with_reducible exact H) | (have H2_ := (Option.bind_some _ _).symm.trans H; rw [hy336]; with_reducible exact H2_) | (have H2_ := (Option.bind_some _ _).symm.trans H; with_reducible exact H2_) | with_reducible exact H | (rw [hy336]; exact H) | exact H
     have Ny336 := A_ hy336; clear hy336; have H' := A_ H; clear H; have hnb11 := NB329_1.out; have hnc11 := NB1_329.out; have hcz12_0 : wr.cell? ⟨gb329, 0, none⟩ = some (.int .i64 x330000_1) := bc BK329 0; have hcz12_1 : wr.cell? ⟨gb329, 1, none⟩ = some (.int .i64 a0_1) := bc BK329 1; have hcz12_2 : wr.cell? ⟨gb329, 2, none⟩ = some (.int .i64 a0_2) := bc BK329 2; have hcz12_3 : wr.cell? ⟨gb329, 3, none⟩ = some (.slice A0_3 l0_3.length c0_3) := bc BK329 3; have hfz12_0 := blk_frozen BK329.out 0; have hfz12_1 := blk_frozen BK329.out 1; have hfz12_2 := blk_frozen BK329.out 2; have hfz12_3 := blk_frozen BK329.out 3; have hcz13_0 : wr.cell? ⟨gc1, 0, none⟩ = some (.int .i64 a1_0) := bc BK1 0; have hcz13_1 : wr.cell? ⟨gc1, 1, none⟩ = some (.bool a1_1) := bc BK1 1; have hfz13_0 := blk_frozen BK1.out 0; have hfz13_1 := blk_frozen BK1.out 1; go_wp2_with (first | ((with_reducible refine gate_callee (f := 74) rfl ?_); refine gL (some 17) Try.func74 #[.agg #[.int .i64 a1_0, .bool a1_1], .agg #[.int .i64 x9_1, .int .i64 a0_1, .int .i64 a0_2, .slice A0_3 l0_3.length c0_3], .int .i64 60] ?_; (with_reducible refine (impl_Road_walk.calls k1 a1_0 a1_1 x9_1 a0_1 a0_2 _ _ l0_3 60 t333 _ ?side1 ?side2 A9.out).mono ?_); (case side1 => exact Kd.C_below HR0_3.out (hq HB)); (case side2 => exact HC0_3.out); rintro e w14 ⟨v334, rfl, ho0, hb⟩; refine ⟨_, rfl, ?_⟩; replace HO_4 := A_ (Kd.S_elder' (by (with_reducible repeat (first | apply Kd.S_alloc | apply Kd.S_drewN | apply Kd.S_drew)); exact (Kd.S_mono (Kd.S_far (p := ⟨gb329, 0, none⟩) (Kd.S_types HO_4.out BK329.out (by decide)) (fun _ hk => hk.2) (.int .i64 x9_1)) (fun _ h_ => h_.1))) (Kd.R_base ho0) hb); have HO335 := A_ (Kd.R_lower ho0 (below_size (hq HB))); replace BK1 := A_ (blk_below (g := gc1) (o := .cells #[.int .i64 a1_0, .bool a1_1] 27 (0, 0)) (by (with_reducible repeat (first | refine blk_drewN ?_ _ | refine blk_drew ?_ | refine blk_alloc ?_ _)); refine blk_far ?_ NB1_329.out _; (with_reducible repeat (first | refine blk_drewN ?_ _ | refine blk_drew ?_ | refine blk_alloc ?_ _)); exact BK1.out) hb); replace BK329 := A_ (blk_below (g := gb329) (o := .cells #[.int .i64 x9_1, .int .i64 a0_1, .int .i64 a0_2, .slice A0_3 l0_3.length c0_3] 52 (0, 0)) (by (with_reducible repeat (first | refine blk_drewN ?_ _ | refine blk_drew ?_ | refine blk_alloc ?_ _)); refine blk_put (cs := #[.int .i64 x330000_1, .int .i64 a0_1, .int .i64 a0_2, .slice A0_3 l0_3.length c0_3]) ?_ 0 _ rfl; (with_reducible repeat (first | refine blk_drewN ?_ _ | refine blk_drew ?_ | refine blk_alloc ?_ _)); exact BK329.out) hb); replace HB := A_ (below_step (hq HB) hb); clear hb ho0; obtain ⟨Ao16, co16, eo16⟩ := Kd.R_slice HO335.out; subst eo16) | ((with_reducible refine gate_builtin (b := .append) (xs := #[.tmp 14, .tmp 18]) rfl ?_); at_builtin; refine Kd.S_append (Kd.slice 3 (Kd.int .i64)) (w0 := w) w.heap.size rfl (.tmp 14) (.tmp 18) 49 24 (.slice none 0 0) 24 rfl Try.underlying49 info24 rfl (by decide) (by omega) u4 x4_1 t333 [.slice Ao16 t333.length co16] (fun _ => True) (fun k_ => some k_ = (.slice Ao16 t333.length co16 : Value).ownBlock) rfl rfl ?aP (fun k_ hk_ => ((Kd.R_mono (ok' := fun k_ => ((fun _ => True)) k_ ∧ some k_ ≠ (u4 : Value).ownBlock) (Kd.R_apart' (HO335.out) (Kd.S_typed HO_4.out) (by decide)) (fun k_ hk => ⟨trivial, hk.2⟩))).1 k_ hk_.symm) ?aF ?aO ?aB ?aS ?aL ?_; (case aP => exact Kd.M_row (Kd.R_mono (Kd.R_tight rfl (Kd.R_mono (ok' := fun k_ => ((fun _ => True)) k_ ∧ some k_ ≠ (u4 : Value).ownBlock) (Kd.R_apart' (HO335.out) (Kd.S_typed HO_4.out) (by decide)) (fun k_ hk => ⟨trivial, hk.2⟩))) (fun _ h_ => h_))); (case aB => exact (hq HB)); (case aF => exact (fun _ _ => trivial)); (case aO => exact (by (with_reducible repeat (first | apply Kd.S_alloc | apply Kd.S_drewN | apply Kd.S_drew)); exact Kd.S_mono HO_4.out (fun k_ hk => ⟨trivial, fun e_ => hk.2 e_⟩))); (case aS => exact (below_size (hq HB))); (case aL => have := LMc10.out; omega); intro v337 w15 ho hb hg hat; rw [← Ny336.out] at ho; have n0_ := A_ (blk_grown (g := gc1) (o := .cells #[.int .i64 a1_0, .bool a1_1] 27 (0, 0)) (bq BK1) hg (Kd.S_ne HO_4.out BK1.out (by decide))); have n1_ := A_ (blk_grown (g := gb329) (o := .cells #[.int .i64 x9_1, .int .i64 a0_1, .int .i64 a0_2, .slice A0_3 l0_3.length c0_3] 52 (0, 0)) (bq BK329) hg (Kd.S_ne HO_4.out BK329.out (by decide))); have n2_ := A_ (hb); have n3_ := A_ (ho); clear BK1; clear BK329; clear HB; clear HO_4; clear HO335; have BK1 := n0_; have BK329 := n1_; have HB := n2_; have HO338 := n3_; clear n0_ n1_ n2_ n3_; clear ho hb hg hat))
     go_roundg k1
     case measure => have := HK1.out; omega
     case rel => exact ⟨(y336), (wrap64 (x9_1 + 1)), (x9_1), rf, H', ⟨by have := HK1.out; omega⟩, ⟨sq HO338⟩, ⟨bq BK1⟩, ⟨bq BK329⟩, ⟨hq HB⟩⟩
    ·
     rw [if_neg c10] at H; exact absurd H (by simp)
   ·
    rw [if_neg c8] at H; have c8b0 := decide_eq_false c8; clear c8; obtain rfl := Option.some.inj H; go_wp2
    go_ret
    exact ⟨_, rt, sq HO_4, hq HB⟩

/-! ### slices.IndexFunc at rows of ints, whatever the predicate -/
set_option maxHeartbeats 4000000 in
theorem idxf_ints.calls (q : List Int → Option Bool) (g : FuncId) (lb : Array Value) (eg : ∀ args w, (callFunc g args).run Try.prog w = .ok (.enter g args) w) (A0 : Option Addr) (c0 : Nat) (l : List (List Int)) (r : Int) (w : World)
  (hr0 : Kd.C (Kd.slice 3 (Kd.int .i64)) w A0 l.length l) (hc0 : l.length ≤ c0)
  (hp : ∀ (x : List Int) (A' : Option Addr) (c' : Nat) (b : Bool) (W : World), Below w.heap.size w W → Kd.C (Kd.int .i64) W A' x.length x → x.length ≤ c' → q x = some b → Calls Try.prog g (#[.slice A' x.length c'] ++ lb) W fun e W' => e = .returned (.bool b) ∧ Below W.heap.size W W')
  (h : idxO q l 0 = some r) :
    Calls Try.prog 85 #[.slice A0 l.length c0, .func (.func g) #[] lb] w fun e w' => e = .returned (.int .i64 r) ∧ Below w.heap.size w w' := by
 have HR0 := A_ hr0; have HC0 := A_ hc0; have HP := A_ hp; have HI := A_ h; have hmax : l.length ≤ 9223372036854775807 := hr0.2.1; clear hr0 hc0 hp h; go_enter Try.func85, Try.ntmps85
 go_wp2
 go_loopg [5, 8] l.length (fun gg _ s8 wr => ∃ kk : Nat, kk ≤ l.length ∧ l.length - kk ≤ gg ∧ s8 = .int .i64 kk ∧ Aside0 (Below w.heap.size w wr) ∧ Aside0 (idxO q (l.drop kk) kk = some r))
 case atStart => exact ⟨0, Nat.zero_le _, by omega, rfl, ⟨Below.refl _ w⟩, HI⟩
 case round =>
  clear HI; obtain ⟨kk, hkk, hg, rfl, HB, HI⟩ := hrel; by_cases hlt : kk < l.length
  ·
   have hltz : (kk : Int) < (l.length : Int) := by omega
   obtain ⟨ad, A3, c3, e3, hx, hl3, hi3⟩ := at_L1 HR0.out (kk : Int) (by omega) (by omega); subst e3; replace hx := (HB.out.cell (World.block_lt_of_cell? w _ hx)).trans hx; rw [Int.toNat_natCast] at hx; have h1 := HI.out
   have hg0 : l[kk] = rd_L1 l (kk : Int) := by unfold rd_L1; simp [List.getD_eq_getElem?_getD, List.getElem?_eq_getElem hlt]
   rw [List.drop_eq_getElem_cons hlt, hg0] at h1; simp only [idxO] at h1
   obtain ⟨b, hq, h2⟩ := Option.bind_eq_some_iff.mp h1; have hcall := HP.out (rd_L1 l (kk : Int)) A3 c3 b wr HB.out (Kd.C_below hi3 HB.out) hl3 hq; have H2 := A_ h2; clear h1 h2 hq hg0 hl3 hi3 HI
   cases b with
   | true =>
    go_wp2_with (go_at_fn g; refine hcall.mono ?_; rintro e w' ⟨rfl, hb'⟩)
    go_ret
    have h3 : some (kk : Int) = some r := by simpa using H2.out
    obtain rfl := Option.some.inj h3; exact ⟨rfl, below_step HB.out hb'⟩
   | false =>
    go_wp2_with (go_at_fn g; refine hcall.mono ?_; rintro e w' ⟨rfl, hb'⟩)
    go_roundg (l.length - (kk + 1))
    case measure => omega
    case rel => exact ⟨kk + 1, by omega, by omega, by go_num, ⟨below_step HB.out hb'⟩, ⟨by have h3 := H2.out; simpa using h3⟩⟩
  ·
   have hltz : ¬ (kk : Int) < (l.length : Int) := by omega
   have h1 := HI.out; rw [List.drop_of_length_le (by omega)] at h1; simp only [idxO] at h1
   have H1 := A_ (Option.some.inj h1); clear h1 HI; go_wp2
   go_ret
   have h3 := H1.out; subst h3; exact ⟨rfl, HB.out⟩

/-! ### slices.ContainsFunc at rows of ints, whatever the predicate -/
set_option maxHeartbeats 4000000 in
theorem conf_ints.calls (q : List Int → Option Bool) (g : FuncId) (lb : Array Value) (eg : ∀ args w, (callFunc g args).run Try.prog w = .ok (.enter g args) w) (A0 : Option Addr) (c0 : Nat) (l : List (List Int)) (b : Bool) (w : World)
  (hr0 : Kd.C (Kd.slice 3 (Kd.int .i64)) w A0 l.length l) (hc0 : l.length ≤ c0)
  (hp : ∀ (x : List Int) (A' : Option Addr) (c' : Nat) (b : Bool) (W : World), Below w.heap.size w W → Kd.C (Kd.int .i64) W A' x.length x → x.length ≤ c' → q x = some b → Calls Try.prog g (#[.slice A' x.length c'] ++ lb) W fun e W' => e = .returned (.bool b) ∧ Below W.heap.size W W')
  (h : anyO q l = some b) :
    Calls Try.prog 81 #[.slice A0 l.length c0, .func (.func g) #[] lb] w fun e w' => e = .returned (.bool b) ∧ Below w.heap.size w w' := by
 obtain ⟨r, hr, hb⟩ := idxO_any (i := 0) h; subst hb
 have hcall := fun W hr0 hp => idxf_ints.calls q g lb eg A0 c0 l r W hr0 hc0 hp hr
 have HR0 := A_ hr0; have HP := A_ hp; clear hr0 hp h hr hc0 eg; have HC := A_ hcall; clear hcall; go_enter Try.func81, Try.ntmps81
 go_wp2_with (go_at_call 85; refine (HC.out _ HR0.out HP.out).mono ?_; rintro e w' ⟨rfl, hb'⟩)
 go_ret
 exact ⟨rfl, hb'⟩

/-! ### impl_together$1: the predicate together hands on -/
def togQ (i : Nat) (p : Int) (x : List Int) : Option Bool := if i < x.length then some (rd x (i : Int) != p) else none
def togO (l : List (List Int)) : List Int → Nat → Option Int
  | [], _ => some (-1)
  | p :: t, i => (anyO (togQ i p) l).bind fun b => if b = true then togO l t (i + 1) else some (i : Int)
set_option maxHeartbeats 4000000 in
theorem together_1.calls (i : Nat) (p : Int) (gt gp : Nat) (x : List Int) (A' : Option Addr) (c' : Nat) (b : Bool) (w : World) (hbt : w.heap[gt]? = some (.cells #[.int .i64 i] 3 (0, 0))) (hbp : w.heap[gp]? = some (.cells #[.int .i64 p] 3 (0, 0))) (hr0 : Kd.C (Kd.int .i64) w A' x.length x) (hc0 : x.length ≤ c')
  (h : togQ i p x = some b) :
    Calls Try.prog 82 (#[.slice A' x.length c'] ++ #[.pointer (some ⟨gt, 0, none⟩), .pointer (some ⟨gp, 0, none⟩)]) w fun e w' => e = .returned (.bool b) ∧ Below w.heap.size w w' := by
 unfold togQ at h; by_cases c : i < x.length
 ·
  rw [if_pos c] at h; obtain rfl := Option.some.inj h; clear h; have hx0 : w.cell? ⟨gt, 0, none⟩ = some (.int .i64 i) := (blk_cell hbt 0).trans rfl; have hx1 : w.cell? ⟨gp, 0, none⟩ = some (.int .i64 p) := (blk_cell hbp 0).trans rfl
  have p1 : 0 ≤ (i : Int) := by omega
  have q1 : (i : Int) < (x.length : Int) := by omega
  obtain ⟨ad, e, hx⟩ := Kd.at_int hr0 (i : Int) p1 q1
  cases e
  rw [Int.toNat_natCast] at hx; clear hbt hbp hr0; go_enter Try.func82, Try.ntmps82
  go_wp2
  repeat (go_quiet (fail); try go_wp2)
  go_ret
  exact ⟨by first | rfl | (simp; done), by repeat (first | exact Below.refl _ _ | apply pw_below_drewN | apply below_drew1)⟩
 ·
  rw [if_neg c] at h; exact absurd h (by simp)
/-! ### impl_together -/
def impl_together.f (k : Nat) (l0 : List (List Int)) : Option Int := if 0 < (l0.length : Int) then togO l0 (rd_L1 l0 0) 0 else none
theorem impl_together.mono : ∀ a0 k, LeO (impl_together.f k a0) (impl_together.f (k + 1) a0) := by
  intro a0 k
  exact LeO.refl _
set_option maxHeartbeats 8000000 in
set_option maxRecDepth 100000 in
theorem impl_together.calls (k : Nat) (A0 : Option Addr) (c0 : Nat) (l0 : List (List Int)) (r : Int) (w : World) (hr0 : Kd.C (Kd.slice 3 (Kd.int .i64)) w A0 l0.length l0) (hc0 : l0.length ≤ c0) (h : impl_together.f k l0 = some r) :
    Calls Try.prog 75 #[.slice A0 l0.length c0] w fun e w' => e = .returned (.int .i64 r) ∧ Below w.heap.size w w' := by
 unfold impl_together.f at h; by_cases c : 0 < (l0.length : Int)
 ·
  rw [if_pos c] at h; have HI := A_ h; have HR0 := A_ hr0; have HC0 := A_ hc0; clear h hr0 hc0; have EG := A_ (show ∀ (args : Array Value) (w : World), (callFunc 82 args).run Try.prog w = .ok (.enter 82 args) w from enters_of Try.func82 (by kernel_rfl) rfl)
  have p0 : 0 ≤ (0 : Int) := by omega
  obtain ⟨ad0, A1, c1, e0, hx0, hl0, hi0⟩ := at_L1 HR0.out 0 p0 c; subst e0
  have hlen0 : ((rd_L1 l0 0).length : Int) ≤ 9223372036854775807 := by have := hi0.2.1; omega
  have HR1 := A_ hi0; have HC1 := A_ hl0; clear hi0 hl0; (try rw [show ((0 : Int)).toNat = 0 from rfl] at hx0); (try rw [Addr.add_zero'] at hx0); generalize rd_L1 l0 0 = row at *; have qi0 : (0 < l0.length) = True := eq_true (by omega); go_enter Try.func75, Try.ntmps75
  go_wp2
  go_loopg [3, 4, 9] row.length (fun gg _ _ s9 wr => ∃ kk : Nat, kk ≤ row.length ∧ row.length - kk ≤ gg ∧ s9 = .int .i64 kk ∧ Aside0 (Below w.heap.size w wr) ∧ Aside0 (togO l0 (row.drop kk) kk = some r))
  case atStart => exact ⟨0, Nat.zero_le _, by omega, rfl, ⟨by repeat (first | exact Below.refl _ _ | apply pw_below_drewN | apply below_drew1)⟩, HI⟩
  case round =>
   clear HI; obtain ⟨kk, hkk, hg, rfl, HB, HI⟩ := hrel; by_cases hlt : kk < row.length
   ·
    have hltz : (kk : Int) < (row.length : Int) := by omega
    have hkz : 0 ≤ (kk : Int) := by omega
    obtain ⟨ad2, e2, hx2⟩ := Kd.at_int (Kd.C_below HR1.out HB.out) (kk : Int) hkz hltz
    cases e2
    rw [Int.toNat_natCast] at hx2; have h1 := HI.out; rw [List.drop_eq_getElem_cons hlt, show row[kk] = rd row (kk : Int) by unfold rd; simp [List.getD_eq_getElem?_getD, List.getElem?_eq_getElem hlt]] at h1; simp only [togO] at h1
    obtain ⟨b, hq, h2⟩ := Option.bind_eq_some_iff.mp h1; have H2 := A_ h2; have HQ := A_ hq; clear h1 h2 hq HI; generalize hp : rd row (kk : Int) = p at *
    cases b with
    | true =>
     go_wp2_with (first | ((with_reducible refine gate_dst (N := 3) rfl ?_); refine bx (N := 3) #[.int .i64 0] 3 ?_; intro gt hg3 w3 hbox3 hb3; have HG3 := A_ hg3; have HX3 := A_ hbox3; have HB3 := A_ hb3; clear hg3 hbox3 hb3) | ((with_reducible refine gate_dst (N := 4) rfl ?_); refine bx (N := 4) #[.int .i64 0] 3 ?_; intro gp hg4 w4 hbox4 hb4; have hg3 := HG3.out; have hbox3 := HX3.out; have hb3 := HB3.out; have hbt4 := blk_below hbox3 hb4; have hne : gt ≠ gp := (by rw [hg4]; exact Nat.ne_of_lt (blk_lt hbox3)); have hne' : gp ≠ gt := fun h_ => hne h_.symm; have hc3 : w4.cell? ⟨gt, 0, none⟩ = some (.int .i64 0) := (blk_cell hbt4 0).trans rfl; have hc4 : w4.cell? ⟨gp, 0, none⟩ = some (.int .i64 0) := (blk_cell hbox4 0).trans rfl; have hf3 := blk_frozen hbt4 0; have hf4 := blk_frozen hbox4 0; have HB4 := A_ (below_step (below_step HB.out hb3) hb4); have GE3 := A_ (show w.heap.size ≤ gt by rw [hg3]; exact below_size HB.out); have GE4 := A_ (show w.heap.size ≤ gp by rw [hg4]; exact below_size (below_step HB.out hb3)); have BT := A_ hbt4; have BP := A_ hbox4; clear hbt4 hbox4 hbox3 hb3 hb4 hg3 hg4 HG3 HX3 HB3) | ((with_reducible refine gate_callee (f := 81) rfl ?_); refine goesL_ (some 16) rfl rfl Try.func81 (by kernel_rfl) rfl #[.slice (some ad0) l0.length c0, .func (.func 82) #[] #[.pointer (some ⟨gt, 0, none⟩), .pointer (some ⟨gp, 0, none⟩)]] rfl (by (try simp only [List.map_toArray, List.map_cons, List.map_nil]); first | done | rfl) ?_; have BT2 := A_ (blk_far (blk_put BT.out 0 (.int .i64 (kk : Int)) rfl) (p := ⟨gp, 0, none⟩) hne (.int .i64 p)); have BP2 := A_ (blk_put (blk_far BP.out (p := ⟨gt, 0, none⟩) hne' (.int .i64 (kk : Int))) 0 (.int .i64 p) rfl); have HB5 := A_ (below_set (j := 0) (v := .int .i64 p) (below_set (j := 0) (v := .int .i64 (kk : Int)) HB4.out GE3.out) GE4.out); (with_reducible refine (conf_ints.calls (togQ kk p) 82 #[.pointer (some ⟨gt, 0, none⟩), .pointer (some ⟨gp, 0, none⟩)] EG.out (some ad0) c0 l0 true _ ?side1 ?side2 ?side3 HQ.out).mono ?_); (case side1 => exact Kd.C_below HR0.out HB5.out); (case side2 => exact HC0.out); (case side3 => exact fun x A' c' b W hbW hC hl hq => together_1.calls kk p gt gp x A' c' b W (blk_below BT2.out hbW) (blk_below BP2.out hbW) hC hl hq); rintro e w10 ⟨rfl, hb⟩; refine ⟨_, rfl, ?_⟩; have HB6 := A_ (below_step HB5.out hb); clear hb))
     go_roundg (row.length - (kk + 1))
     case measure => omega
     case rel => exact ⟨kk + 1, by omega, by omega, by go_num, HB6, ⟨by have h3 := H2.out; simpa using h3⟩⟩
    | false =>
     go_wp2_with (first | ((with_reducible refine gate_dst (N := 3) rfl ?_); refine bx (N := 3) #[.int .i64 0] 3 ?_; intro gt hg3 w3 hbox3 hb3; have HG3 := A_ hg3; have HX3 := A_ hbox3; have HB3 := A_ hb3; clear hg3 hbox3 hb3) | ((with_reducible refine gate_dst (N := 4) rfl ?_); refine bx (N := 4) #[.int .i64 0] 3 ?_; intro gp hg4 w4 hbox4 hb4; have hg3 := HG3.out; have hbox3 := HX3.out; have hb3 := HB3.out; have hbt4 := blk_below hbox3 hb4; have hne : gt ≠ gp := (by rw [hg4]; exact Nat.ne_of_lt (blk_lt hbox3)); have hne' : gp ≠ gt := fun h_ => hne h_.symm; have hc3 : w4.cell? ⟨gt, 0, none⟩ = some (.int .i64 0) := (blk_cell hbt4 0).trans rfl; have hc4 : w4.cell? ⟨gp, 0, none⟩ = some (.int .i64 0) := (blk_cell hbox4 0).trans rfl; have hf3 := blk_frozen hbt4 0; have hf4 := blk_frozen hbox4 0; have HB4 := A_ (below_step (below_step HB.out hb3) hb4); have GE3 := A_ (show w.heap.size ≤ gt by rw [hg3]; exact below_size HB.out); have GE4 := A_ (show w.heap.size ≤ gp by rw [hg4]; exact below_size (below_step HB.out hb3)); have BT := A_ hbt4; have BP := A_ hbox4; clear hbt4 hbox4 hbox3 hb3 hb4 hg3 hg4 HG3 HX3 HB3) | ((with_reducible refine gate_callee (f := 81) rfl ?_); refine goesL_ (some 16) rfl rfl Try.func81 (by kernel_rfl) rfl #[.slice (some ad0) l0.length c0, .func (.func 82) #[] #[.pointer (some ⟨gt, 0, none⟩), .pointer (some ⟨gp, 0, none⟩)]] rfl (by (try simp only [List.map_toArray, List.map_cons, List.map_nil]); first | done | rfl) ?_; have BT2 := A_ (blk_far (blk_put BT.out 0 (.int .i64 (kk : Int)) rfl) (p := ⟨gp, 0, none⟩) hne (.int .i64 p)); have BP2 := A_ (blk_put (blk_far BP.out (p := ⟨gt, 0, none⟩) hne' (.int .i64 (kk : Int))) 0 (.int .i64 p) rfl); have HB5 := A_ (below_set (j := 0) (v := .int .i64 p) (below_set (j := 0) (v := .int .i64 (kk : Int)) HB4.out GE3.out) GE4.out); (with_reducible refine (conf_ints.calls (togQ kk p) 82 #[.pointer (some ⟨gt, 0, none⟩), .pointer (some ⟨gp, 0, none⟩)] EG.out (some ad0) c0 l0 false _ ?side1 ?side2 ?side3 HQ.out).mono ?_); (case side1 => exact Kd.C_below HR0.out HB5.out); (case side2 => exact HC0.out); (case side3 => exact fun x A' c' b W hbW hC hl hq => together_1.calls kk p gt gp x A' c' b W (blk_below BT2.out hbW) (blk_below BP2.out hbW) hC hl hq); rintro e w10 ⟨rfl, hb⟩; refine ⟨_, rfl, ?_⟩; have HB6 := A_ (below_step HB5.out hb); have hc6 : w10.cell? ⟨gt, 0, none⟩ = some (.int .i64 (kk : Int)) := (blk_cell (blk_below BT2.out hb) 0).trans rfl; clear hb))
     go_ret
     have h3 := H2.out; rw [if_neg (by simp)] at h3; obtain rfl := Option.some.inj h3; exact ⟨rfl, HB6.out⟩
   ·
    have hltz : ¬ (kk : Int) < (row.length : Int) := by omega
    have h1 := HI.out; rw [List.drop_of_length_le (by omega)] at h1; simp only [togO] at h1
    have H1 := A_ (Option.some.inj h1); clear h1 HI; go_wp2
    go_ret
    have h3 := H1.out; subst h3; exact ⟨rfl, HB.out⟩
 ·
  rw [if_neg c] at h; exact absurd h (by simp)

/-! ### impl_Road_table: function 55 -/
mutual
def impl_Road_table.l0 : Nat → List (List Int) → List (List Int) → List (List Int) → Int → Int → Option ((List (List Int)))
  | 0, _, _, _, _, _ => none
  | k + 1, x8, x9, x22, x23, x24 => if x24 < x23 then (if 0 ≤ x24 then (if x24 < (x22.length : Int) then (impl_Road_table.l1 k x8 x9 (rd_L1 x22 x24) (([] : List Int)) x22 x23 x24 x9 (x9.length : Int) 0) else (none)) else (none)) else (some x8)
def impl_Road_table.l1 : Nat → List (List Int) → List (List Int) → List Int → List Int → List (List Int) → Int → Int → List (List Int) → Int → Int → Option ((List (List Int)))
  | 0, _, _, _, _, _, _, _, _, _, _ => none
  | k + 1, x8, x9, x11, x12, x22, x23, x24, x29, x30, x31 => if x31 < x30 then (if 0 ≤ x31 then (if x31 < (x29.length : Int) then ((impl_together.f k (([x11, rd_L1 x29 x31] : List (List Int)))).bind fun t359 => (if x12.length < 17592186044416 then (impl_Road_table.l1 k x8 x9 x11 (x12 ++ [t359]) x22 x23 x24 x29 x30 (wrap64 (x31 + 1))) else (none))) else (none)) else (none)) else (if x8.length < 5864062014805 then (impl_Road_table.l0 k (x8 ++ [x12]) x9 x22 x23 (wrap64 (x24 + 1))) else (none))
end
def impl_Road_table.f (k : Nat) (a0_0 : Int) (a0_1 : Bool) (a1_0 : Int) (a1_1 : Int) (a1_2 : Int) (l1_3 : List Int) (a2_0 : Int) (a2_1 : Int) (a2_2 : Int) (l2_3 : List Int) : Option ((List (List Int))) := (impl_Road_table_1.f k a2_0 a2_1 a2_2 l2_3 a0_0 a0_1).bind fun t345 => ((impl_Road_table_1.f k a1_0 a1_1 a1_2 l1_3 a0_0 a0_1).bind fun t348 => (impl_Road_table.l0 k (([] : List (List Int))) t345 t348 (t348.length : Int) 0))
theorem impl_Road_table.mono_l : ∀ k, (∀ y0 y1 y2 y3 y4, LeO (impl_Road_table.l0 k y0 y1 y2 y3 y4) (impl_Road_table.l0 (k + 1) y0 y1 y2 y3 y4)) ∧ (∀ y0 y1 y2 y3 y4 y5 y6 y7 y8 y9, LeO (impl_Road_table.l1 k y0 y1 y2 y3 y4 y5 y6 y7 y8 y9) (impl_Road_table.l1 (k + 1) y0 y1 y2 y3 y4 y5 y6 y7 y8 y9))
  | 0 => ⟨fun _ _ _ _ _ r h => by simp [impl_Road_table.l0] at h, fun _ _ _ _ _ _ _ _ _ _ r h => by simp [impl_Road_table.l1] at h⟩
  | k + 1 => by
    obtain ⟨ih0, ih1⟩ := impl_Road_table.mono_l k
    refine ⟨?_, ?_⟩
    · intro y0 y1 y2 y3 y4
      unfold impl_Road_table.l0
      repeat' first
      | (with_reducible exact ih0 _ _ _ _ _)
      | (with_reducible exact ih1 _ _ _ _ _ _ _ _ _ _)
      | (with_reducible exact impl_Road_table_1.mono _ _ _ _ _ _ _)
      | (with_reducible exact impl_together.mono _ _)
      | (with_reducible exact LeO.refl _)
      | (with_reducible exact LeO.none _)
      | (with_reducible refine LeO.ite ?_ ?_)
      | (with_reducible refine LeO.bind ?_ (fun _ => ?_))
      | exact ih0 _ _ _ _ _
      | exact ih1 _ _ _ _ _ _ _ _ _ _
      | exact impl_Road_table_1.mono _ _ _ _ _ _ _
      | exact impl_together.mono _ _
      | exact LeO.none _
      | refine LeO.ite ?_ ?_
      | refine LeO.bind ?_ (fun _ => ?_)
    · intro y0 y1 y2 y3 y4 y5 y6 y7 y8 y9
      unfold impl_Road_table.l1
      repeat' first
      | (with_reducible exact ih0 _ _ _ _ _)
      | (with_reducible exact ih1 _ _ _ _ _ _ _ _ _ _)
      | (with_reducible exact impl_Road_table_1.mono _ _ _ _ _ _ _)
      | (with_reducible exact impl_together.mono _ _)
      | (with_reducible exact LeO.refl _)
      | (with_reducible exact LeO.none _)
      | (with_reducible refine LeO.ite ?_ ?_)
      | (with_reducible refine LeO.bind ?_ (fun _ => ?_))
      | exact ih0 _ _ _ _ _
      | exact ih1 _ _ _ _ _ _ _ _ _ _
      | exact impl_Road_table_1.mono _ _ _ _ _ _ _
      | exact impl_together.mono _ _
      | exact LeO.none _
      | refine LeO.ite ?_ ?_
      | refine LeO.bind ?_ (fun _ => ?_)
theorem impl_Road_table.mono : ∀ a0 a1 a2 a3 a4 a5 a6 a7 a8 a9 k, LeO (impl_Road_table.f k a0 a1 a2 a3 a4 a5 a6 a7 a8 a9) (impl_Road_table.f (k + 1) a0 a1 a2 a3 a4 a5 a6 a7 a8 a9) := by
  intro a0 a1 a2 a3 a4 a5 a6 a7 a8 a9 k
  obtain ⟨ih0, ih1⟩ := impl_Road_table.mono_l k
  unfold impl_Road_table.f
  repeat' first
      | (with_reducible exact ih0 _ _ _ _ _)
      | (with_reducible exact ih1 _ _ _ _ _ _ _ _ _ _)
      | (with_reducible exact impl_Road_table_1.mono _ _ _ _ _ _ _)
      | (with_reducible exact impl_together.mono _ _)
      | (with_reducible exact LeO.refl _)
      | (with_reducible exact LeO.none _)
      | (with_reducible refine LeO.ite ?_ ?_)
      | (with_reducible refine LeO.bind ?_ (fun _ => ?_))
      | exact ih0 _ _ _ _ _
      | exact ih1 _ _ _ _ _ _ _ _ _ _
      | exact impl_Road_table_1.mono _ _ _ _ _ _ _
      | exact impl_together.mono _ _
      | exact LeO.none _
      | refine LeO.ite ?_ ?_
      | refine LeO.bind ?_ (fun _ => ?_)
set_option maxHeartbeats 8000000 in
set_option maxRecDepth 100000 in
theorem impl_Road_table.calls (k : Nat) (a0_0 : Int) (a0_1 : Bool) (a1_0 : Int) (a1_1 : Int) (a1_2 : Int) (A1_3 : Option Addr) (c1_3 : Nat) (l1_3 : List Int) (a2_0 : Int) (a2_1 : Int) (a2_2 : Int) (A2_3 : Option Addr) (c2_3 : Nat) (l2_3 : List Int) (r : List (List Int)) (w : World) (hr1_3 : Kd.C (Kd.int .i64) w A1_3 l1_3.length l1_3) (hc1_3 : l1_3.length ≤ c1_3) (hr2_3 : Kd.C (Kd.int .i64) w A2_3 l2_3.length l2_3) (hc2_3 : l2_3.length ≤ c2_3) (h : impl_Road_table.f k a0_0 a0_1 a1_0 a1_1 a1_2 l1_3 a2_0 a2_1 a2_2 l2_3 = some r) :
    Calls Try.prog 55 #[.agg #[.int .i64 a0_0, .bool a0_1], .agg #[.int .i64 a1_0, .int .i64 a1_1, .int .i64 a1_2, .slice A1_3 l1_3.length c1_3], .agg #[.int .i64 a2_0, .int .i64 a2_1, .int .i64 a2_2, .slice A2_3 l2_3.length c2_3]] w fun e w' => ∃ v0_ : Value, e = .returned (v0_) ∧ Kd.S (Kd.slice 3 (Kd.int .i64)) 24 w' w.heap.size (fun _ => True) v0_ r ∧ Below w.heap.size w w' := by
 have hu27 := Try.underlying27; have hu52 := Try.underlying52; have HR1_3 := A_ hr1_3; have HC1_3 := A_ hc1_3; clear hr1_3 hc1_3; have HR2_3 := A_ hr2_3; have HC2_3 := A_ hc2_3; clear hr2_3 hc2_3; have HB := A_ (Below.refl w.heap.size w); have H : ((impl_Road_table_1.f k a2_0 a2_1 a2_2 l2_3 a0_0 a0_1).bind fun t345 => ((impl_Road_table_1.f k a1_0 a1_1 a1_2 l1_3 a0_0 a0_1).bind fun t348 => (impl_Road_table.l0 k (([] : List (List Int))) t345 t348 (t348.length : Int) 0))) = some r := h; clear h
 obtain ⟨y342, hy342⟩ : ∃ y_ : List (List Int), y_ = (([] : List (List Int))) := ⟨_, rfl⟩
 replace H : ((impl_Road_table_1.f k a2_0 a2_1 a2_2 l2_3 a0_0 a0_1).bind fun t345 => ((impl_Road_table_1.f k a1_0 a1_1 a1_2 l1_3 a0_0 a0_1).bind fun t348 => (impl_Road_table.l0 k y342 t345 t348 (t348.length : Int) 0))) = some r := by first | (rw [hy342]; with_reducible exact H) | (have H2_ := (Option.bind_some _ _).symm.trans H; rw [hy342]; with_reducible exact H2_) | (have H2_ := (Option.bind_some _ _).symm.trans H; with_reducible exact H2_) | with_reducible exact H | (rw [hy342]; exact H) | exact H
 have Ny342 := A_ hy342; clear hy342; replace H := bm H; obtain ⟨t345, A4, H⟩ := H; replace H := bm H; obtain ⟨t348, A5, H⟩ := H; have H' := A_ H; clear H; go_enter Try.func55, Try.ntmps55
 go_wp2_with (first | ((with_reducible refine gate_dst (N := 3) rfl ?_); refine bx (N := 3) #[.int .i64 a0_0, .bool a0_1] 27 ?_; intro gb339 hg w6 hbox hb; have BK339 := A_ (hbox); have GW339 := A_ (bs hg (hq HB) : w.heap.size ≤ gb339); have GE339 := A_ (bs hg (hq HB) : w.heap.size ≤ gb339); replace HB := A_ (below_step (hq HB) hb); clear hb hbox hg) | ((with_reducible refine gate_dst (N := 4) rfl ?_); refine bx (N := 4) #[.int .i64 a1_0, .int .i64 a1_1, .int .i64 a1_2, .slice A1_3 l1_3.length c1_3] 52 ?_; intro gb340 hg w7 hbox hb; have BK340 := A_ (hbox); have GW340 := A_ (bs hg (hq HB) : w.heap.size ≤ gb340); have GE340 := A_ (bs hg (hq HB) : w.heap.size ≤ gb340); replace HB := A_ (below_step (hq HB) hb); have NB339_340 := A_ ((by rw [hg]; exact Nat.ne_of_lt (blk_lt (bq BK339)) : gb339 ≠ gb340)); have NB340_339 := A_ ((by rw [hg]; exact Nat.ne_of_gt (blk_lt (bq BK339)) : gb340 ≠ gb339)); replace BK339 := A_ (blk_below (bq BK339) hb); clear hb hbox hg) | ((with_reducible refine gate_dst (N := 5) rfl ?_); refine bx (N := 5) #[.int .i64 a2_0, .int .i64 a2_1, .int .i64 a2_2, .slice A2_3 l2_3.length c2_3] 52 ?_; intro gb341 hg w8 hbox hb; have BK341 := A_ (hbox); have GW341 := A_ (bs hg (hq HB) : w.heap.size ≤ gb341); have GE341 := A_ (bs hg (hq HB) : w.heap.size ≤ gb341); replace HB := A_ (below_step (hq HB) hb); have NB339_341 := A_ ((by rw [hg]; exact Nat.ne_of_lt (blk_lt (bq BK339)) : gb339 ≠ gb341)); have NB341_339 := A_ ((by rw [hg]; exact Nat.ne_of_gt (blk_lt (bq BK339)) : gb341 ≠ gb339)); replace BK339 := A_ (blk_below (bq BK339) hb); have NB340_341 := A_ ((by rw [hg]; exact Nat.ne_of_lt (blk_lt (bq BK340)) : gb340 ≠ gb341)); have NB341_340 := A_ ((by rw [hg]; exact Nat.ne_of_gt (blk_lt (bq BK340)) : gb341 ≠ gb340)); replace BK340 := A_ (blk_below (bq BK340) hb); clear hb hbox hg) | ((with_reducible refine gate_dst (N := 16) rfl ?_); refine Kd.S_lit (Kd.slice 3 (Kd.int .i64)) _ 24 ?hg (N := 16) ?hd (xs := ([] : List (List Int))) (inner := []) (ok := fun _ => True) (okp := fun _ => True) ?hr ?hp (fun _ hk => hk) trivial (Below.refl _ _) (Nat.le_refl _) (by simp) ?_; (case hd => rfl); (case hg => rfl); (case hr => first | (go_simp; done) | (go_simp; rfl)); (case hp => exact (Reps.none _ _)); intro v343 w9 ho10 hb hg_ hnew_; clear hg_ hnew_; (first | rw [← Ny342.out] at ho10 | (simp only [Int.reduceToNat] at ho10; rw [← Ny342.out] at ho10)); have HO344 := A_ (Kd.S_lower ho10 (below_size (hq HB))); replace BK339 := A_ (blk_below (bq BK339) hb); replace BK340 := A_ (blk_below (bq BK340) hb); replace BK341 := A_ (blk_below (bq BK341) hb); replace HB := A_ (below_step (hq HB) hb); clear hb ho10; have hnb11 := NB341_339.out; have hnc11 := NB339_341.out; have hnb12 := NB341_340.out; have hnc12 := NB340_341.out; have hcz13_0 : w9.cell? ⟨gb341, 0, none⟩ = some (.int .i64 a2_0) := bc BK341 0; have hcz13_1 : w9.cell? ⟨gb341, 1, none⟩ = some (.int .i64 a2_1) := bc BK341 1; have hcz13_2 : w9.cell? ⟨gb341, 2, none⟩ = some (.int .i64 a2_2) := bc BK341 2; have hcz13_3 : w9.cell? ⟨gb341, 3, none⟩ = some (.slice A2_3 l2_3.length c2_3) := bc BK341 3; have hfz13_0 := blk_frozen BK341.out 0; have hfz13_1 := blk_frozen BK341.out 1; have hfz13_2 := blk_frozen BK341.out 2; have hfz13_3 := blk_frozen BK341.out 3) | (go_at_call 73; (with_reducible refine (impl_Road_table_1.calls k a2_0 a2_1 a2_2 _ _ l2_3 gb339 a0_0 a0_1 t345 _ ?side1 ?side2 ?side3 A4.out).mono ?_); (case side1 => (with_reducible repeat (first | refine blk_drewN ?_ _ | refine blk_drew ?_ | refine blk_alloc ?_ _)); exact BK339.out); (case side2 => exact cq (Kd.C_below HR2_3.out HB.out)); (case side3 => exact HC2_3.out); rintro e w14 ⟨v346, rfl, ho0, hb⟩; have HO347 := A_ (Kd.S_lower (Kd.S_new' ho0 (Kd.S_lt (sq HO344))) (below_size (hq HB))); replace HO344 := A_ (Kd.S_elder' (sq HO344) (Kd.S_base ho0) hb); replace BK339 := A_ (blk_below (bq BK339) hb); replace BK340 := A_ (blk_below (bq BK340) hb); replace BK341 := A_ (blk_below (bq BK341) hb); replace HB := A_ (below_step (hq HB) hb); clear hb ho0; have hnb15 := NB340_339.out; have hnc15 := NB339_340.out; have hcz16_0 : w14.cell? ⟨gb340, 0, none⟩ = some (.int .i64 a1_0) := bc BK340 0; have hcz16_1 : w14.cell? ⟨gb340, 1, none⟩ = some (.int .i64 a1_1) := bc BK340 1; have hcz16_2 : w14.cell? ⟨gb340, 2, none⟩ = some (.int .i64 a1_2) := bc BK340 2; have hcz16_3 : w14.cell? ⟨gb340, 3, none⟩ = some (.slice A1_3 l1_3.length c1_3) := bc BK340 3; have hfz16_0 := blk_frozen BK340.out 0; have hfz16_1 := blk_frozen BK340.out 1; have hfz16_2 := blk_frozen BK340.out 2; have hfz16_3 := blk_frozen BK340.out 3) | (go_at_call 73; (with_reducible refine (impl_Road_table_1.calls k a1_0 a1_1 a1_2 _ _ l1_3 gb339 a0_0 a0_1 t348 _ ?side1 ?side2 ?side3 A5.out).mono ?_); (case side1 => (with_reducible repeat (first | refine blk_drewN ?_ _ | refine blk_drew ?_ | refine blk_alloc ?_ _)); exact BK339.out); (case side2 => exact cq (Kd.C_below HR1_3.out HB.out)); (case side3 => exact HC1_3.out); rintro e w17 ⟨v349, rfl, ho0, hb⟩; have HO350 := A_ (Kd.S_lower (Kd.S_new' (Kd.S_new' ho0 (Kd.S_lt (sq HO344))) (Kd.S_lt (sq HO347))) (below_size (hq HB))); replace HO344 := A_ (Kd.S_elder' (sq HO344) (Kd.S_base ho0) hb); replace HO347 := A_ (Kd.S_elder' (sq HO347) (Kd.S_base ho0) hb); replace BK339 := A_ (blk_below (bq BK339) hb); replace BK340 := A_ (blk_below (bq BK340) hb); replace BK341 := A_ (blk_below (bq BK341) hb); replace HB := A_ (below_step (hq HB) hb); clear hb ho0; obtain ⟨Ao18, co18, eo18⟩ := Kd.S_slice HO350.out; subst eo18))
 go_loopg [8, 24] k (fun kq v8 v24 w' => ∃ (x8_1 : List (List Int)) (x24_1 : Int), v24 = .int .i64 x24_1 ∧ Aside0 (impl_Road_table.l0 kq x8_1 t345 t348 (t348.length : Int) x24_1 = some r) ∧ Aside0 (kq ≤ k) ∧ Aside0 (Kd.S (Kd.slice 3 (Kd.int .i64)) 24 w' w.heap.size (fun k_ => some k_ ≠ (v346 : Value).ownBlock ∧ some k_ ≠ ((.slice Ao18 t348.length co18) : Value).ownBlock) v8 x8_1) ∧ Aside0 (Kd.S (Kd.slice 3 (Kd.int .i64)) 24 w' w.heap.size (fun k_ => some k_ ≠ (v8 : Value).ownBlock ∧ some k_ ≠ ((.slice Ao18 t348.length co18) : Value).ownBlock) v346 t345) ∧ Aside0 (Kd.S (Kd.slice 3 (Kd.int .i64)) 24 w' w.heap.size (fun k_ => some k_ ≠ (v8 : Value).ownBlock ∧ some k_ ≠ (v346 : Value).ownBlock) (.slice Ao18 t348.length co18) t348) ∧ Aside0 (w'.heap[gb339]? = some (.cells #[.int .i64 a0_0, .bool a0_1] 27 (0, 0))) ∧ Aside0 (w'.heap[gb340]? = some (.cells #[.int .i64 a1_0, .int .i64 a1_1, .int .i64 a1_2, (.slice A1_3 l1_3.length c1_3)] 52 (0, 0))) ∧ Aside0 (w'.heap[gb341]? = some (.cells #[.int .i64 a2_0, .int .i64 a2_1, .int .i64 a2_2, (.slice A2_3 l2_3.length c2_3)] 52 (0, 0))) ∧ Aside0 (Below w.heap.size w w'))
 case atStart => exact ⟨(y342), (0), rf, H', ⟨Nat.le_refl _⟩, ⟨by (with_reducible repeat (first | apply Kd.S_alloc | apply Kd.S_drewN | apply Kd.S_drew)); exact Kd.S_mono HO344.out (fun _ hk => ⟨hk.1.2, hk.2⟩)⟩, ⟨by (with_reducible repeat (first | apply Kd.S_alloc | apply Kd.S_drewN | apply Kd.S_drew)); exact Kd.S_mono HO347.out (fun _ hk => ⟨hk.1.2, hk.2⟩)⟩, ⟨by (with_reducible repeat (first | apply Kd.S_alloc | apply Kd.S_drewN | apply Kd.S_drew)); exact Kd.S_mono HO350.out (fun _ hk => ⟨hk.1.2, hk.2⟩)⟩, ⟨bq BK339⟩, ⟨bq BK340⟩, ⟨bq BK341⟩, ⟨hq HB⟩⟩
 case round =>
  clear H'; (try clear hcz13_0); (try clear hcz13_1); (try clear hcz13_2); (try clear hcz13_3); (try clear hcz16_0); (try clear hcz16_1); (try clear hcz16_2); (try clear hcz16_3); (try clear hfz13_0); (try clear hfz13_1); (try clear hfz13_2); (try clear hfz13_3); (try clear hfz16_0); (try clear hfz16_1); (try clear hfz16_2); (try clear hfz16_3); obtain ⟨x8_1, x24_1, rfl, HA, HK1, HO_8, HO_9, HO_22, BK339, BK340, BK341, HB⟩ := hrel
  cases gk with
  | zero => exact absurd HA.out (by simp [impl_Road_table.l0])
  | succ k1 =>
   have H := HA.out; clear HA; simp only [impl_Road_table.l0] at H
   by_cases c19 : x24_1 < (t348.length : Int)
   ·
    rw [if_pos c19] at H; have c19b0 := decide_eq_true c19; clear c19; by_cases c20 : 0 ≤ x24_1
    ·
     rw [if_pos c20] at H; have c20b0 := decide_eq_true c20; clear c20; by_cases c21 : x24_1 < (t348.length : Int)
     ·
      rw [if_pos c21] at H; have c21b0 := decide_eq_true c21; clear c21
      obtain ⟨y352, hy352⟩ : ∃ y_ : List Int, y_ = (([] : List Int)) := ⟨_, rfl⟩
      replace H : (impl_Road_table.l1 k1 x8_1 t345 (rd_L1 t348 x24_1) y352 t348 (t348.length : Int) x24_1 t345 (t345.length : Int) 0) = some r := by first | (rw [hy352]; with_reducible exact H) | (have H2_ := (Option.bind_some _ _).symm.trans H; rw [hy352]; with_reducible exact H2_) | (have H2_ := (Option.bind_some _ _).symm.trans H; with_reducible exact H2_) | with_reducible exact H | (rw [hy352]; exact H) | exact H
      have Ny352 := A_ hy352; clear hy352; have H' := A_ H; clear H; have p351 : 0 ≤ (x24_1 : Int) := dq; have q351 : x24_1 < (t348.length : Int) := dq; obtain ⟨ad351, A351_0, c351_0, e351, hx351_0, hl351_0, hi351_0⟩ := at_L1 (Kd.S_reads' HO_22.out).2.2 x24_1 p351 q351
      cases e351
      obtain ⟨ce351, hce351, hMe351, hcc351⟩ := Kd.S_get HO_22.out [] x24_1 p351 (by first | exact q351 | exact dq | (have e_ := (Kd.S_reads' HO_22.out).1; omega)); obtain ⟨ve351_0, rfl, ge351_0⟩ := hMe351; have hv351_0 := hcc351 0 _ rfl; rw [Nat.add_zero, show ((Kd.slice 3 (Kd.int .i64))).sz = 1 from rfl, Nat.mul_one] at hv351_0; replace hv351_0 := Option.some.inj (hv351_0.symm.trans hx351_0); rw [hv351_0] at ge351_0; have HL351_0 := A_ (show Kd.R (Kd.int .i64) 3 _ _ _ _ (rd_L1 t348 x24_1) from ge351_0); clear hv351_0 ge351_0 hcc351 hce351; have HR351_0 := A_ hi351_0; have HC351_0 := A_ hl351_0; clear hi351_0 hl351_0; replace p351 := eq_true p351; replace q351 := eq_true q351; go_wp2_with (first | ((with_reducible refine gate_dst (N := 28) rfl ?_); refine Kd.R_lit (Kd.int .i64) _ 3 ?hg (N := 28) ?hd (xs := ([] : List Int)) (inner := []) (ok := fun _ => True) (okp := fun _ => True) ?hr ?hp (fun _ hk => hk) trivial (Below.refl _ _) (Nat.le_refl _) (by simp) ?_; (case hd => rfl); (case hg => rfl); (case hr => first | (go_simp; done) | (go_simp; rfl)); (case hp => exact (Reps.none _ _)); intro v353 w22 ho23 hb hg_ hnew_; clear hg_ hnew_; (first | rw [← Ny352.out] at ho23 | (simp only [Int.reduceToNat] at ho23; rw [← Ny352.out] at ho23)); replace HO_8 := A_ (Kd.S_elder' (sq HO_8) (Kd.R_base ho23) hb); replace HO_9 := A_ (Kd.S_elder' (sq HO_9) (Kd.R_base ho23) hb); replace HO_22 := A_ (Kd.S_elder' (sq HO_22) (Kd.R_base ho23) hb); have HO354 := A_ (Kd.R_lower (Kd.R_new' ho23 (Kd.R_lt (by (with_reducible repeat (first | apply Kd.R_alloc | apply Kd.R_drewN | apply Kd.R_drew)); exact HL351_0.out))) (below_size (hq HB))); replace HL351_0 := A_ (Kd.R_elder' (by (with_reducible repeat (first | apply Kd.R_alloc | apply Kd.R_drewN | apply Kd.R_drew)); exact HL351_0.out) (Kd.R_base ho23) hb); replace BK339 := A_ (blk_below (bq BK339) hb); replace BK340 := A_ (blk_below (bq BK340) hb); replace BK341 := A_ (blk_below (bq BK341) hb); replace HR351_0 := A_ (Kd.C_below (by repeat (first | (with_reducible exact HR351_0.out) | (with_reducible refine Kd.C_alloc ?_ _) | (with_reducible refine Kd.C_drewN ?_ _) | (with_reducible refine Kd.C_drew ?_) | exact HR351_0.out)) hb); replace HB := A_ (below_step (hq HB) hb); clear hb ho23; obtain ⟨Ao24, co24, eo24⟩ := Kd.S_slice HO_9.out; subst eo24))
      go_loopg [12, 31] k1 (fun kq v12 v31 w' => ∃ (x12_2 : List Int) (x31_2 : Int), v31 = .int .i64 x31_2 ∧ Aside0 (impl_Road_table.l1 kq x8_1 t345 (rd_L1 t348 x24_1) x12_2 t348 (t348.length : Int) x24_1 t345 (t345.length : Int) x31_2 = some r) ∧ Aside0 (kq ≤ k1) ∧ Aside0 (Kd.S (Kd.slice 3 (Kd.int .i64)) 24 w' w.heap.size (fun k_ => some k_ ≠ ((.slice Ao24 t345.length co24) : Value).ownBlock ∧ some k_ ≠ (v12 : Value).ownBlock ∧ some k_ ≠ ((.slice (some ad351) t348.length co18) : Value).ownBlock ∧ some k_ ≠ ((.slice Ao24 t345.length co24) : Value).ownBlock) u8 x8_1) ∧ Aside0 (Kd.S (Kd.slice 3 (Kd.int .i64)) 24 w' w.heap.size (fun k_ => some k_ ≠ (u8 : Value).ownBlock ∧ some k_ ≠ (v12 : Value).ownBlock ∧ some k_ ≠ ((.slice (some ad351) t348.length co18) : Value).ownBlock) (.slice Ao24 t345.length co24) t345) ∧ Aside0 (Kd.V (Kd.int .i64) 3 w' w.heap.size (fun k_ => some k_ ≠ (u8 : Value).ownBlock ∧ some k_ ≠ ((.slice Ao24 t345.length co24) : Value).ownBlock ∧ some k_ ≠ (v12 : Value).ownBlock ∧ some k_ ≠ ((.slice (some ad351) t348.length co18) : Value).ownBlock ∧ some k_ ≠ ((.slice Ao24 t345.length co24) : Value).ownBlock ∧ k_ ≠ gb339 ∧ k_ ≠ gb340 ∧ k_ ≠ gb341) (.slice A351_0 (rd_L1 t348 x24_1).length c351_0) (rd_L1 t348 x24_1)) ∧ Aside0 (Kd.R (Kd.int .i64) 3 w' w.heap.size (fun _ => True) v12 x12_2) ∧ Aside0 (Kd.S (Kd.slice 3 (Kd.int .i64)) 24 w' w.heap.size (fun k_ => some k_ ≠ (u8 : Value).ownBlock ∧ some k_ ≠ ((.slice Ao24 t345.length co24) : Value).ownBlock ∧ some k_ ≠ (v12 : Value).ownBlock ∧ some k_ ≠ ((.slice Ao24 t345.length co24) : Value).ownBlock) (.slice (some ad351) t348.length co18) t348) ∧ Aside0 (Kd.S (Kd.slice 3 (Kd.int .i64)) 24 w' w.heap.size (fun k_ => some k_ ≠ (u8 : Value).ownBlock ∧ some k_ ≠ (v12 : Value).ownBlock ∧ some k_ ≠ ((.slice (some ad351) t348.length co18) : Value).ownBlock) (.slice Ao24 t345.length co24) t345) ∧ Aside0 (w'.heap[gb339]? = some (.cells #[.int .i64 a0_0, .bool a0_1] 27 (0, 0))) ∧ Aside0 (w'.heap[gb340]? = some (.cells #[.int .i64 a1_0, .int .i64 a1_1, .int .i64 a1_2, (.slice A1_3 l1_3.length c1_3)] 52 (0, 0))) ∧ Aside0 (w'.heap[gb341]? = some (.cells #[.int .i64 a2_0, .int .i64 a2_1, .int .i64 a2_2, (.slice A2_3 l2_3.length c2_3)] 52 (0, 0))) ∧ Aside0 (Below w.heap.size w w'))
      case atStart => exact ⟨(y352), (0), rf, H', ⟨Nat.le_refl _⟩, ⟨by (with_reducible repeat (first | apply Kd.S_alloc | apply Kd.S_drewN | apply Kd.S_drew)); exact Kd.S_mono HO_8.out (fun _ hk => ⟨hk.1.1, ⟨hk.2, ⟨hk.1.2, hk.1.1⟩⟩⟩)⟩, ⟨by (with_reducible repeat (first | apply Kd.S_alloc | apply Kd.S_drewN | apply Kd.S_drew)); exact Kd.S_mono HO_9.out (fun _ hk => ⟨hk.1.1, ⟨hk.2, hk.1.2⟩⟩)⟩, ⟨Kd.R_V (by (with_reducible repeat (first | apply Kd.R_alloc | apply Kd.R_drewN | apply Kd.R_drew)); exact Kd.R_mono (Kd.R_types (Kd.R_types (Kd.R_types HL351_0.out BK339.out (by decide)) BK340.out (by decide)) BK341.out (by decide)) (fun _ hk => ⟨hk.1.1.1.1.1.1, ⟨hk.1.1.1.1.1.2, ⟨hk.1.1.1.2, ⟨hk.1.1.1.1.2, ⟨hk.1.1.1.1.1.2, ⟨hk.1.1.2, ⟨hk.1.2, hk.2⟩⟩⟩⟩⟩⟩⟩))⟩, ⟨by (with_reducible repeat (first | apply Kd.R_alloc | apply Kd.R_drewN | apply Kd.R_drew)); exact Kd.R_mono HO354.out (fun _ hk => trivial)⟩, ⟨by (with_reducible repeat (first | apply Kd.S_alloc | apply Kd.S_drewN | apply Kd.S_drew)); exact Kd.S_mono HO_22.out (fun _ hk => ⟨hk.1.1, ⟨hk.1.2, ⟨hk.2, hk.1.2⟩⟩⟩)⟩, ⟨by (with_reducible repeat (first | apply Kd.S_alloc | apply Kd.S_drewN | apply Kd.S_drew)); exact Kd.S_mono HO_9.out (fun _ hk => ⟨hk.1.1, ⟨hk.2, hk.1.2⟩⟩)⟩, ⟨bq BK339⟩, ⟨bq BK340⟩, ⟨bq BK341⟩, ⟨hq HB⟩⟩
      case round =>
       clear H'; (try clear c19); (try clear c19b0); (try clear c20); (try clear c20b0); (try clear c21); (try clear c21b0); (try clear hcz13_0); (try clear hcz13_1); (try clear hcz13_2); (try clear hcz13_3); (try clear hcz16_0); (try clear hcz16_1); (try clear hcz16_2); (try clear hcz16_3); (try clear hfz13_0); (try clear hfz13_1); (try clear hfz13_2); (try clear hfz13_3); (try clear hfz16_0); (try clear hfz16_1); (try clear hfz16_2); (try clear hfz16_3); (try clear hx351_0); (try clear p351); (try clear q351); obtain ⟨x12_2, x31_2, rfl, HA, HK2, HO_8, HO_9, HO_11, HO_12, HO_22, HO_29, BK339, BK340, BK341, HB⟩ := hrel
       cases gk with
       | zero => exact absurd HA.out (by simp [impl_Road_table.l1])
       | succ k2 =>
        have H := HA.out; clear HA; simp only [impl_Road_table.l1] at H
        by_cases c25 : x31_2 < (t345.length : Int)
        ·
         rw [if_pos c25] at H; have c25b0 := decide_eq_true c25; clear c25; by_cases c26 : 0 ≤ x31_2
         ·
          rw [if_pos c26] at H; have c26b0 := decide_eq_true c26; clear c26; by_cases c27 : x31_2 < (t345.length : Int)
          ·
           rw [if_pos c27] at H; have c27b0 := decide_eq_true c27; clear c27
           obtain ⟨y356, hy356⟩ : ∃ y_ : List (List Int), y_ = (([(rd_L1 t348 x24_1), rd_L1 t345 x31_2] : List (List Int))) := ⟨_, rfl⟩
           replace H : ((impl_together.f k2 y356).bind fun t359 => (if x12_2.length < 17592186044416 then (impl_Road_table.l1 k2 x8_1 t345 (rd_L1 t348 x24_1) (x12_2 ++ [t359]) t348 (t348.length : Int) x24_1 t345 (t345.length : Int) (wrap64 (x31_2 + 1))) else (none))) = some r := by first | (rw [hy356]; with_reducible exact H) | (have H2_ := (Option.bind_some _ _).symm.trans H; rw [hy356]; with_reducible exact H2_) | (have H2_ := (Option.bind_some _ _).symm.trans H; with_reducible exact H2_) | with_reducible exact H | (rw [hy356]; exact H) | exact H
           have Ny356 := A_ hy356; clear hy356; replace H := bm H; obtain ⟨t359, A28, H⟩ := H; by_cases c29 : x12_2.length < 17592186044416
           ·
            rw [if_pos c29] at H; have LMc29 := A_ c29; clear c29
            obtain ⟨y360, hy360⟩ : ∃ y_ : List Int, y_ = (x12_2 ++ [t359]) := ⟨_, rfl⟩
            replace H : (impl_Road_table.l1 k2 x8_1 t345 (rd_L1 t348 x24_1) y360 t348 (t348.length : Int) x24_1 t345 (t345.length : Int) (wrap64 (x31_2 + 1))) = some r := by first | (rw [hy360]; with_reducible exact H) | (have H2_ := (Option.bind_some _ _).symm.trans H; rw [hy360]; with_reducible exact H2_) | (have H2_ := (Option.bind_some _ _).symm.trans H; with_reducible exact H2_) | with_reducible exact H | (rw [hy360]; exact H) | exact H
            have Ny360 := A_ hy360; clear hy360; have H' := A_ H; clear H; have p355 : 0 ≤ (x31_2 : Int) := dq; have q355 : x31_2 < (t345.length : Int) := dq; obtain ⟨ad355, A355_0, c355_0, e355, hx355_0, hl355_0, hi355_0⟩ := at_L1 (Kd.S_reads' HO_29.out).2.2 x31_2 p355 q355
            cases e355
            obtain ⟨ce355, hce355, hMe355, hcc355⟩ := Kd.S_get HO_29.out [] x31_2 p355 (by first | exact q355 | exact dq | (have e_ := (Kd.S_reads' HO_29.out).1; omega)); obtain ⟨ve355_0, rfl, ge355_0⟩ := hMe355; have hv355_0 := hcc355 0 _ rfl; rw [Nat.add_zero, show ((Kd.slice 3 (Kd.int .i64))).sz = 1 from rfl, Nat.mul_one] at hv355_0; replace hv355_0 := Option.some.inj (hv355_0.symm.trans hx355_0); rw [hv355_0] at ge355_0; have HL355_0 := A_ (show Kd.R (Kd.int .i64) 3 _ _ _ _ (rd_L1 t345 x31_2) from ge355_0); clear hv355_0 ge355_0 hcc355 hce355; have HR355_0 := A_ hi355_0; have HC355_0 := A_ hl355_0; clear hi355_0 hl355_0; replace p355 := eq_true p355; replace q355 := eq_true q355; go_wp2_with (first | ((with_reducible refine gate_dst (N := 38) rfl ?_); refine V_lit (Kd.slice 3 (Kd.int .i64)) 0 24 ?hg (N' := 38) ?hd (xs := ([(rd_L1 t348 x24_1), rd_L1 t345 x31_2] : List (List Int))) (inner := [.slice A351_0 (rd_L1 t348 x24_1).length c351_0, .slice A355_0 (rd_L1 t345 x31_2).length c355_0]) ?hr ?hp (by simp) ?_; (case hd => rfl); (case hg => rfl); (case hr => first | (go_simp; done) | (go_simp; rfl)); (case hp => exact (Reps.one (show Kd.FK (Kd.slice 3 (Kd.int .i64)) _ _ (rd_L1 t348 x24_1) [.slice A351_0 (rd_L1 t348 x24_1).length c351_0] from (Kd.FK_slice_mk (And.left (And.right (Kd.V_at HO_11.out))) (Kd.F_mono (Kd.V_F (show Kd.V (Kd.int .i64) 3 _ _ _ (.slice A351_0 (rd_L1 t348 x24_1).length c351_0) (rd_L1 t348 x24_1) from by first | exact HO_11.out | ((with_reducible repeat (first | apply Kd.V_alloc | apply Kd.V_drewN | apply Kd.V_drew)); exact HO_11.out))) (fun _ _ => trivial)))) (Reps.one (show Kd.FK (Kd.slice 3 (Kd.int .i64)) _ _ (rd_L1 t345 x31_2) [.slice A355_0 (rd_L1 t345 x31_2).length c355_0] from (Kd.FK_slice_mk HC355_0.out (Kd.F_mono (Kd.C_F (Kd.heap_int .i64) (by repeat (first | (with_reducible exact HR355_0.out) | (with_reducible refine Kd.C_alloc ?_ _) | (with_reducible refine Kd.C_drewN ?_ _) | (with_reducible refine Kd.C_drew ?_) | exact HR355_0.out))) (fun _ _ => trivial)))) (Reps.none _ _)))); intro v357 w30 ho31 hb; (first | rw [← Ny356.out] at ho31 | (simp only [Int.reduceToNat] at ho31; rw [← Ny356.out] at ho31)); replace HO_8 := A_ (Kd.S_below (sq HO_8) hb); replace HO_9 := A_ (Kd.S_below (sq HO_9) hb); replace HO_11 := A_ (Kd.V_below (vq HO_11) hb); replace HO_12 := A_ (Kd.R_below (rq HO_12) hb); replace HO_22 := A_ (Kd.S_below (sq HO_22) hb); replace HO_29 := A_ (Kd.S_below (sq HO_29) hb); replace HL355_0 := A_ (Kd.R_below (by (with_reducible repeat (first | apply Kd.R_alloc | apply Kd.R_drewN | apply Kd.R_drew)); exact HL355_0.out) hb); replace BK339 := A_ (blk_below (bq BK339) hb); replace BK340 := A_ (blk_below (bq BK340) hb); replace BK341 := A_ (blk_below (bq BK341) hb); replace HR355_0 := A_ (Kd.C_below (by repeat (first | (with_reducible exact HR355_0.out) | (with_reducible refine Kd.C_alloc ?_ _) | (with_reducible refine Kd.C_drewN ?_ _) | (with_reducible refine Kd.C_drew ?_) | exact HR355_0.out)) hb); replace HB := A_ (below_step (hq HB) hb); have HO358 := A_ (ho31); clear hb ho31; obtain ⟨Ao32, co32, eo32⟩ := Kd.V_slice HO358.out; subst eo32) | ((with_reducible refine gate_callee (f := 75) rfl ?_); refine gL (some 39) Try.func75 #[.slice Ao32 y356.length co32] ?_; (with_reducible refine (impl_together.calls k2 _ _ y356 t359 _ ?side1 ?side2 A28.out).mono ?_); (case side1 => exact cq (Kd.V_reads' HO358.out).2.2); (case side2 => exact (Kd.V_reads' HO358.out).2.1); rintro e w33 ⟨rfl, hb⟩; refine ⟨_, rfl, ?_⟩; replace HO_8 := A_ (Kd.S_below (sq HO_8) hb); replace HO_9 := A_ (Kd.S_below (sq HO_9) hb); replace HO_11 := A_ (Kd.V_below (vq HO_11) hb); replace HO_12 := A_ (Kd.R_below (rq HO_12) hb); replace HO_22 := A_ (Kd.S_below (sq HO_22) hb); replace HO_29 := A_ (Kd.S_below (sq HO_29) hb); replace HL355_0 := A_ (Kd.R_below (by (with_reducible repeat (first | apply Kd.R_alloc | apply Kd.R_drewN | apply Kd.R_drew)); exact HL355_0.out) hb); replace HO358 := A_ (Kd.V_below (vq HO358) hb); replace BK339 := A_ (blk_below (bq BK339) hb); replace BK340 := A_ (blk_below (bq BK340) hb); replace BK341 := A_ (blk_below (bq BK341) hb); replace HR355_0 := A_ (Kd.C_below (by repeat (first | (with_reducible exact HR355_0.out) | (with_reducible refine Kd.C_alloc ?_ _) | (with_reducible refine Kd.C_drewN ?_ _) | (with_reducible refine Kd.C_drew ?_) | exact HR355_0.out)) hb); replace HB := A_ (below_step (hq HB) hb); clear hb) | ((with_reducible refine gate_builtin (b := .append) (xs := #[.tmp 35, .tmp 40]) rfl ?_); at_builtin; refine Kd.R_append (Kd.int .i64) (w0 := w) w.heap.size rfl (.tmp 35) (.tmp 40) 24 3 (.int .i64 0) 8 rfl Try.underlying24 info3 rfl (by decide) (by omega) u12 x12_2 t359 [.int .i64 t359] (fun _ => True) (fun _ => False) rfl rfl ?aP (fun _ hk => hk.elim) ?aF ?aO ?aB ?aS ?aL ?_; (case aP => exact rfl); (case aB => exact (hq HB)); (case aF => exact (fun _ _ => trivial)); (case aO => exact (rq HO_12)); (case aS => exact (below_size (hq HB))); (case aL => have := LMc29.out; omega); intro v361 w34 ho hb hg hat; rw [← Ny360.out] at ho; have n0_ := A_ (Kd.S_after (ok := (fun k_ => some k_ ≠ (.slice (some ad355) t345.length co24 : Value).ownBlock ∧ some k_ ≠ (.slice (some ad351) t348.length co18 : Value).ownBlock ∧ some k_ ≠ (.slice (some ad355) t345.length co24 : Value).ownBlock)) (by (with_reducible repeat (first | apply Kd.S_alloc | apply Kd.S_drewN | apply Kd.S_drew)); exact Kd.S_mono HO_8.out (fun _ hk => ⟨⟨hk.1, ⟨hk.2.2.1, hk.2.2.2⟩⟩, hk.2.1⟩)) hg hat); have n1_ := A_ (Kd.S_after (ok := (fun k_ => some k_ ≠ (u8 : Value).ownBlock ∧ some k_ ≠ (.slice (some ad351) t348.length co18 : Value).ownBlock)) (by (with_reducible repeat (first | apply Kd.S_alloc | apply Kd.S_drewN | apply Kd.S_drew)); exact Kd.S_mono HO_9.out (fun _ hk => ⟨⟨hk.1, hk.2.2⟩, hk.2.1⟩)) hg hat); have n2_ := A_ (Kd.V_afterv (ok := (fun k_ => some k_ ≠ (u8 : Value).ownBlock ∧ some k_ ≠ (.slice (some ad355) t345.length co24 : Value).ownBlock ∧ some k_ ≠ (.slice (some ad351) t348.length co18 : Value).ownBlock ∧ some k_ ≠ (.slice (some ad355) t345.length co24 : Value).ownBlock ∧ k_ ≠ gb339 ∧ k_ ≠ gb340 ∧ k_ ≠ gb341)) (by (with_reducible repeat (first | apply Kd.V_alloc | apply Kd.V_drewN | apply Kd.V_drew)); exact Kd.V_mono HO_11.out (fun _ hk => ⟨⟨hk.1, ⟨hk.2.1, ⟨hk.2.2.2.1, ⟨hk.2.2.2.2.1, ⟨hk.2.2.2.2.2.1, ⟨hk.2.2.2.2.2.2.1, hk.2.2.2.2.2.2.2⟩⟩⟩⟩⟩⟩, hk.2.2.1⟩)) hg hat); have n3_ := A_ (Kd.S_after (ok := (fun k_ => some k_ ≠ (u8 : Value).ownBlock ∧ some k_ ≠ (.slice (some ad355) t345.length co24 : Value).ownBlock ∧ some k_ ≠ (.slice (some ad355) t345.length co24 : Value).ownBlock)) (by (with_reducible repeat (first | apply Kd.S_alloc | apply Kd.S_drewN | apply Kd.S_drew)); exact Kd.S_mono HO_22.out (fun _ hk => ⟨⟨hk.1, ⟨hk.2.1, hk.2.2.2⟩⟩, hk.2.2.1⟩)) hg hat); have n4_ := A_ (Kd.S_after (ok := (fun k_ => some k_ ≠ (u8 : Value).ownBlock ∧ some k_ ≠ (.slice (some ad351) t348.length co18 : Value).ownBlock)) (by (with_reducible repeat (first | apply Kd.S_alloc | apply Kd.S_drewN | apply Kd.S_drew)); exact Kd.S_mono HO_29.out (fun _ hk => ⟨⟨hk.1, hk.2.2⟩, hk.2.1⟩)) hg hat); have n5_ := A_ (blk_grown (g := gb339) (o := .cells #[.int .i64 a0_0, .bool a0_1] 27 (0, 0)) (bq BK339) hg (Kd.R_ne HO_12.out BK339.out (by decide))); have n6_ := A_ (blk_grown (g := gb340) (o := .cells #[.int .i64 a1_0, .int .i64 a1_1, .int .i64 a1_2, .slice A1_3 l1_3.length c1_3] 52 (0, 0)) (bq BK340) hg (Kd.R_ne HO_12.out BK340.out (by decide))); have n7_ := A_ (blk_grown (g := gb341) (o := .cells #[.int .i64 a2_0, .int .i64 a2_1, .int .i64 a2_2, .slice A2_3 l2_3.length c2_3] 52 (0, 0)) (bq BK341) hg (Kd.R_ne HO_12.out BK341.out (by decide))); have n8_ := A_ (Kd.R_after (ok := (fun k_ => some k_ ≠ (u8 : Value).ownBlock ∧ some k_ ≠ (.slice (some ad351) t348.length co18 : Value).ownBlock ∧ some k_ ≠ (.slice (some ad355) t345.length co24 : Value).ownBlock)) (by (with_reducible repeat (first | apply Kd.R_alloc | apply Kd.R_drewN | apply Kd.R_drew)); exact Kd.R_mono HL355_0.out (fun _ hk => ⟨⟨hk.1.1, ⟨hk.1.2.2, hk.2⟩⟩, hk.1.2.1⟩)) hg hat); have n9_ := A_ (hb); have n10_ := A_ (ho); clear HO_8; clear HO_9; clear HO_11; clear HO_22; clear HO_29; clear BK339; clear BK340; clear BK341; clear HL355_0; clear HB; clear HO_12; have HO_8 := n0_; have HO_9 := n1_; have HO_11 := n2_; have HO_22 := n3_; have HO_29 := n4_; have BK339 := n5_; have BK340 := n6_; have BK341 := n7_; have HL355_0 := n8_; have HB := n9_; have HO362 := n10_; clear n0_ n1_ n2_ n3_ n4_ n5_ n6_ n7_ n8_ n9_ n10_; clear ho hb hg hat))
            go_roundg k2
            case measure => have := HK1.out; have := HK2.out; omega
            case rel => exact ⟨(y360), (wrap64 (x31_2 + 1)), rf, H', ⟨by have := HK1.out; have := HK2.out; omega⟩, ⟨by (with_reducible repeat (first | apply Kd.S_alloc | apply Kd.S_drewN | apply Kd.S_drew)); exact Kd.S_mono HO_8.out (fun _ hk => ⟨hk.1.1, ⟨hk.2, ⟨hk.1.2.1, hk.1.2.2⟩⟩⟩)⟩, ⟨by (with_reducible repeat (first | apply Kd.S_alloc | apply Kd.S_drewN | apply Kd.S_drew)); exact Kd.S_mono HO_9.out (fun _ hk => ⟨hk.1.1, ⟨hk.2, hk.1.2⟩⟩)⟩, ⟨by (with_reducible repeat (first | apply Kd.V_alloc | apply Kd.V_drewN | apply Kd.V_drew)); exact Kd.V_mono HO_11.out (fun _ hk => ⟨hk.1.1, ⟨hk.1.2.1, ⟨hk.2, ⟨hk.1.2.2.1, ⟨hk.1.2.2.2.1, ⟨hk.1.2.2.2.2.1, ⟨hk.1.2.2.2.2.2.1, hk.1.2.2.2.2.2.2⟩⟩⟩⟩⟩⟩⟩)⟩, ⟨rq HO362⟩, ⟨by (with_reducible repeat (first | apply Kd.S_alloc | apply Kd.S_drewN | apply Kd.S_drew)); exact Kd.S_mono HO_22.out (fun _ hk => ⟨hk.1.1, ⟨hk.1.2.1, ⟨hk.2, hk.1.2.2⟩⟩⟩)⟩, ⟨by (with_reducible repeat (first | apply Kd.S_alloc | apply Kd.S_drewN | apply Kd.S_drew)); exact Kd.S_mono HO_29.out (fun _ hk => ⟨hk.1.1, ⟨hk.2, hk.1.2⟩⟩)⟩, ⟨bq BK339⟩, ⟨bq BK340⟩, ⟨bq BK341⟩, ⟨hq HB⟩⟩
           ·
            rw [if_neg c29] at H; exact absurd H (by simp)
          ·
           rw [if_neg c27] at H; exact absurd H (by simp)
         ·
          rw [if_neg c26] at H; exact absurd H (by simp)
        ·
         rw [if_neg c25] at H; have c25b0 := decide_eq_false c25; clear c25; by_cases c35 : x8_1.length < 5864062014805
         ·
          rw [if_pos c35] at H; have LMc35 := A_ c35; clear c35
          obtain ⟨y363, hy363⟩ : ∃ y_ : List (List Int), y_ = (x8_1 ++ [x12_2]) := ⟨_, rfl⟩
          replace H : (impl_Road_table.l0 k2 y363 t345 t348 (t348.length : Int) (wrap64 (x24_1 + 1))) = some r := by first | (rw [hy363]; with_reducible exact H) | (have H2_ := (Option.bind_some _ _).symm.trans H; rw [hy363]; with_reducible exact H2_) | (have H2_ := (Option.bind_some _ _).symm.trans H; with_reducible exact H2_) | with_reducible exact H | (rw [hy363]; exact H) | exact H
          have Ny363 := A_ hy363; clear hy363; have H' := A_ H; clear H; obtain ⟨Ao37, co37, eo37⟩ := Kd.R_slice HO_12.out; subst eo37; go_wp2_with (first | ((with_reducible refine gate_builtin (b := .append) (xs := #[.tmp 43, .tmp 45]) rfl ?_); at_builtin; refine Kd.S_append (Kd.slice 3 (Kd.int .i64)) (w0 := w) w.heap.size rfl (.tmp 43) (.tmp 45) 49 24 (.slice none 0 0) 24 rfl Try.underlying49 info24 rfl (by decide) (by omega) u8 x8_1 x12_2 [.slice Ao37 x12_2.length co37] (fun k_ => some k_ ≠ (.slice Ao24 t345.length co24 : Value).ownBlock ∧ some k_ ≠ (.slice (some ad351) t348.length co18 : Value).ownBlock ∧ some k_ ≠ (.slice Ao24 t345.length co24 : Value).ownBlock) (fun k_ => some k_ = (.slice Ao37 x12_2.length co37 : Value).ownBlock) rfl rfl ?aP (fun k_ hk_ => ((Kd.R_mono (ok' := fun k_ => ((fun k_ => some k_ ≠ (.slice Ao24 t345.length co24 : Value).ownBlock ∧ some k_ ≠ (.slice (some ad351) t348.length co18 : Value).ownBlock ∧ some k_ ≠ (.slice Ao24 t345.length co24 : Value).ownBlock)) k_ ∧ some k_ ≠ (u8 : Value).ownBlock) (Kd.R_apart' (Kd.R_apart' (Kd.R_apart' (Kd.R_apart' (HO_12.out) (Kd.S_typed HO_9.out) (by decide)) (Kd.S_typed HO_22.out) (by decide)) (Kd.S_typed HO_29.out) (by decide)) (Kd.S_typed HO_8.out) (by decide)) (fun k_ hk => ⟨⟨hk.1.1.1.2, ⟨hk.1.1.2, hk.1.2⟩⟩, hk.2⟩))).1 k_ hk_.symm) ?aF ?aO ?aB ?aS ?aL ?_; (case aP => exact Kd.M_row (Kd.R_mono (Kd.R_tight rfl (Kd.R_mono (ok' := fun k_ => ((fun k_ => some k_ ≠ (.slice Ao24 t345.length co24 : Value).ownBlock ∧ some k_ ≠ (.slice (some ad351) t348.length co18 : Value).ownBlock ∧ some k_ ≠ (.slice Ao24 t345.length co24 : Value).ownBlock)) k_ ∧ some k_ ≠ (u8 : Value).ownBlock) (Kd.R_apart' (Kd.R_apart' (Kd.R_apart' (Kd.R_apart' (HO_12.out) (Kd.S_typed HO_9.out) (by decide)) (Kd.S_typed HO_22.out) (by decide)) (Kd.S_typed HO_29.out) (by decide)) (Kd.S_typed HO_8.out) (by decide)) (fun k_ hk => ⟨⟨hk.1.1.1.2, ⟨hk.1.1.2, hk.1.2⟩⟩, hk.2⟩))) (fun _ h_ => h_))); (case aB => exact (hq HB)); (case aF => exact (fun k_ hk => ⟨Kd.fresh' (Kd.S_lt (sq HO_9)) k_ hk, Kd.fresh' (Kd.S_lt (sq HO_22)) k_ hk, Kd.fresh' (Kd.S_lt (sq HO_29)) k_ hk⟩)); (case aO => exact (by (with_reducible repeat (first | apply Kd.S_alloc | apply Kd.S_drewN | apply Kd.S_drew)); exact Kd.S_mono HO_8.out (fun k_ hk => ⟨⟨hk.1, ⟨hk.2.2.1, hk.2.2.2⟩⟩, fun e_ => hk.2.1 e_⟩))); (case aS => exact (below_size (hq HB))); (case aL => have := LMc35.out; omega); intro v364 w36 ho hb hg hat; rw [← Ny363.out] at ho; have n0_ := A_ (Kd.S_after (ok := (fun k_ => some k_ ≠ (.slice Ao37 x12_2.length co37 : Value).ownBlock ∧ some k_ ≠ (.slice (some ad351) t348.length co18 : Value).ownBlock)) (by (with_reducible repeat (first | apply Kd.S_alloc | apply Kd.S_drewN | apply Kd.S_drew)); exact Kd.S_mono HO_9.out (fun _ hk => ⟨⟨hk.2.1, hk.2.2⟩, hk.1⟩)) hg hat); have n1_ := A_ (Kd.V_afterv (ok := (fun k_ => some k_ ≠ (.slice Ao24 t345.length co24 : Value).ownBlock ∧ some k_ ≠ (.slice Ao37 x12_2.length co37 : Value).ownBlock ∧ some k_ ≠ (.slice (some ad351) t348.length co18 : Value).ownBlock ∧ some k_ ≠ (.slice Ao24 t345.length co24 : Value).ownBlock ∧ k_ ≠ gb339 ∧ k_ ≠ gb340 ∧ k_ ≠ gb341)) (by (with_reducible repeat (first | apply Kd.V_alloc | apply Kd.V_drewN | apply Kd.V_drew)); exact Kd.V_mono HO_11.out (fun _ hk => ⟨⟨hk.2.1, ⟨hk.2.2.1, ⟨hk.2.2.2.1, ⟨hk.2.2.2.2.1, ⟨hk.2.2.2.2.2.1, ⟨hk.2.2.2.2.2.2.1, hk.2.2.2.2.2.2.2⟩⟩⟩⟩⟩⟩, hk.1⟩)) hg hat); have n2_ := A_ (Kd.S_after (ok := (fun k_ => some k_ ≠ (.slice Ao24 t345.length co24 : Value).ownBlock ∧ some k_ ≠ (.slice Ao37 x12_2.length co37 : Value).ownBlock ∧ some k_ ≠ (.slice Ao24 t345.length co24 : Value).ownBlock)) (by (with_reducible repeat (first | apply Kd.S_alloc | apply Kd.S_drewN | apply Kd.S_drew)); exact Kd.S_mono HO_22.out (fun _ hk => ⟨⟨hk.2.1, ⟨hk.2.2.1, hk.2.2.2⟩⟩, hk.1⟩)) hg hat); have n3_ := A_ (Kd.S_after (ok := (fun k_ => some k_ ≠ (.slice Ao37 x12_2.length co37 : Value).ownBlock ∧ some k_ ≠ (.slice (some ad351) t348.length co18 : Value).ownBlock)) (by (with_reducible repeat (first | apply Kd.S_alloc | apply Kd.S_drewN | apply Kd.S_drew)); exact Kd.S_mono HO_29.out (fun _ hk => ⟨⟨hk.2.1, hk.2.2⟩, hk.1⟩)) hg hat); have n4_ := A_ (blk_grown (g := gb339) (o := .cells #[.int .i64 a0_0, .bool a0_1] 27 (0, 0)) (bq BK339) hg (Kd.S_ne HO_8.out BK339.out (by decide))); have n5_ := A_ (blk_grown (g := gb340) (o := .cells #[.int .i64 a1_0, .int .i64 a1_1, .int .i64 a1_2, .slice A1_3 l1_3.length c1_3] 52 (0, 0)) (bq BK340) hg (Kd.S_ne HO_8.out BK340.out (by decide))); have n6_ := A_ (blk_grown (g := gb341) (o := .cells #[.int .i64 a2_0, .int .i64 a2_1, .int .i64 a2_2, .slice A2_3 l2_3.length c2_3] 52 (0, 0)) (bq BK341) hg (Kd.S_ne HO_8.out BK341.out (by decide))); have n7_ := A_ (hb); have n8_ := A_ (ho); clear HO_9; clear HO_11; clear HO_22; clear HO_29; clear BK339; clear BK340; clear BK341; clear HB; clear HO_8; clear HO_12; have HO_9 := n0_; have HO_11 := n1_; have HO_22 := n2_; have HO_29 := n3_; have BK339 := n4_; have BK340 := n5_; have BK341 := n6_; have HB := n7_; have HO365 := n8_; clear n0_ n1_ n2_ n3_ n4_ n5_ n6_ n7_ n8_; clear ho hb hg hat))
          go_roundg k2
          case measure => have := HK1.out; have := HK2.out; omega
          case rel => exact ⟨(y363), (wrap64 (x24_1 + 1)), rf, H', ⟨by have := HK1.out; have := HK2.out; omega⟩, ⟨by (with_reducible repeat (first | apply Kd.S_alloc | apply Kd.S_drewN | apply Kd.S_drew)); exact Kd.S_mono HO365.out (fun _ hk => ⟨hk.1, hk.2.1⟩)⟩, ⟨by (with_reducible repeat (first | apply Kd.S_alloc | apply Kd.S_drewN | apply Kd.S_drew)); exact Kd.S_mono HO_9.out (fun _ hk => ⟨hk.2, hk.1.2⟩)⟩, ⟨by (with_reducible repeat (first | apply Kd.S_alloc | apply Kd.S_drewN | apply Kd.S_drew)); exact Kd.S_mono HO_22.out (fun _ hk => ⟨hk.2, hk.1.1⟩)⟩, ⟨bq BK339⟩, ⟨bq BK340⟩, ⟨bq BK341⟩, ⟨hq HB⟩⟩
         ·
          rw [if_neg c35] at H; exact absurd H (by simp)
     ·
      rw [if_neg c21] at H; exact absurd H (by simp)
    ·
     rw [if_neg c20] at H; exact absurd H (by simp)
   ·
    rw [if_neg c19] at H; have c19b0 := decide_eq_false c19; clear c19; obtain rfl := Option.some.inj H; go_wp2
    go_ret
    exact ⟨_, rt, by (with_reducible repeat (first | apply Kd.S_alloc | apply Kd.S_drewN | apply Kd.S_drew)); exact Kd.S_mono HO_8.out (fun _ hk => trivial), hq HB⟩

/-! ### slices_Index_int_int: function 76 -/
def slices_Index_int_int.l0 : Nat → List Int → Int → Int → Int → Option (Int)
  | 0, _, _, _, _ => none
  | k + 1, x0, x1, x7, x8 => if x8 < x7 then (if 0 ≤ x8 then (if x8 < (x0.length : Int) then (if x1 = (rd x0 x8) then (some x8) else (slices_Index_int_int.l0 k x0 x1 x7 (wrap64 (x8 + 1)))) else (none)) else (none)) else (some (-1))
def slices_Index_int_int.f (k : Nat) (l0 : List Int) (a1 : Int) : Option (Int) := slices_Index_int_int.l0 k l0 a1 (l0.length : Int) 0
theorem slices_Index_int_int.mono_l : ∀ k, (∀ y0 y1 y2 y3, LeO (slices_Index_int_int.l0 k y0 y1 y2 y3) (slices_Index_int_int.l0 (k + 1) y0 y1 y2 y3))
  | 0 => fun _ _ _ _ r h => by simp [slices_Index_int_int.l0] at h
  | k + 1 => by
    have ih0 := slices_Index_int_int.mono_l k
    · intro y0 y1 y2 y3
      unfold slices_Index_int_int.l0
      repeat' first
      | (with_reducible exact ih0 _ _ _ _)
      | (with_reducible exact LeO.refl _)
      | (with_reducible exact LeO.none _)
      | (with_reducible refine LeO.ite ?_ ?_)
      | (with_reducible refine LeO.bind ?_ (fun _ => ?_))
      | exact ih0 _ _ _ _
      | exact LeO.none _
      | refine LeO.ite ?_ ?_
      | refine LeO.bind ?_ (fun _ => ?_)
theorem slices_Index_int_int.mono : ∀ a0 a1 k, LeO (slices_Index_int_int.f k a0 a1) (slices_Index_int_int.f (k + 1) a0 a1) := by
  intro a0 a1 k
  have ih0 := slices_Index_int_int.mono_l k
  unfold slices_Index_int_int.f
  repeat' first
      | (with_reducible exact ih0 _ _ _ _)
      | (with_reducible exact LeO.refl _)
      | (with_reducible exact LeO.none _)
      | (with_reducible refine LeO.ite ?_ ?_)
      | (with_reducible refine LeO.bind ?_ (fun _ => ?_))
      | exact ih0 _ _ _ _
      | exact LeO.none _
      | refine LeO.ite ?_ ?_
      | refine LeO.bind ?_ (fun _ => ?_)
set_option maxHeartbeats 8000000 in
set_option maxRecDepth 100000 in
theorem slices_Index_int_int.calls (k : Nat) (A0 : Option Addr) (c0 : Nat) (l0 : List Int) (a1 : Int) (r : Int) (w : World) (hr0 : Kd.C (Kd.int .i64) w A0 l0.length l0) (hc0 : l0.length ≤ c0) (h : slices_Index_int_int.f k l0 a1 = some r) :
    Calls Try.prog 76 #[.slice A0 l0.length c0, .int .i64 a1] w fun e w' => e = .returned (.int .i64 r) ∧ Drawn0 w w' := by
 have HR0 := A_ hr0; have HC0 := A_ hc0; clear hr0 hc0; have H : (slices_Index_int_int.l0 k l0 a1 (l0.length : Int) 0) = some r := h; clear h; have H' := A_ H; clear H; go_enter Try.func76, Try.ntmps76
 go_wp2
 go_loopg [8] k (fun kq v8 w' => ∃ (x8_1 : Int), v8 = .int .i64 x8_1 ∧ Aside0 (slices_Index_int_int.l0 kq l0 a1 (l0.length : Int) x8_1 = some r) ∧ Aside0 (kq ≤ k) ∧ Drawn0 w w')
 case atStart => exact ⟨(0), rf, H', ⟨Nat.le_refl _⟩, by repeat (first | exact Drawn0.refl _ | apply Drawn0.step)⟩
 case round =>
  clear H'; obtain ⟨x8_1, rfl, HA, HK1, ⟨m1, rfl⟩⟩ := hrel
  cases gk with
  | zero => exact absurd HA.out (by simp [slices_Index_int_int.l0])
  | succ k1 =>
   have H := HA.out; clear HA; simp only [slices_Index_int_int.l0] at H
   by_cases c3 : x8_1 < (l0.length : Int)
   ·
    rw [if_pos c3] at H; have c3b0 := decide_eq_true c3; clear c3; by_cases c4 : 0 ≤ x8_1
    ·
     rw [if_pos c4] at H; have c4b0 := decide_eq_true c4; clear c4; by_cases c5 : x8_1 < (l0.length : Int)
     ·
      rw [if_pos c5] at H; have c5b0 := decide_eq_true c5; clear c5; by_cases c6 : a1 = (rd l0 x8_1)
      ·
       rw [if_pos c6] at H; have c6b0 : (a1 == (rd l0 x8_1)) = true := beq_iff_eq.mpr c6; have c6b1 : (a1 != (rd l0 x8_1)) = false := bne_eq_false_iff_eq.mpr c6; clear c6; obtain rfl := Option.some.inj H; have p366 : 0 ≤ (x8_1 : Int) := dq; have q366 : x8_1 < (l0.length : Int) := dq; obtain ⟨ad366, e366, hx366_0⟩ := Kd.at_int HR0.out x8_1 p366 q366
       cases e366
       replace p366 := eq_true p366; replace q366 := eq_true q366; go_wp2
       go_ret
       exact ⟨rf, by repeat (first | exact Drawn0.refl _ | apply Drawn0.step)⟩
      ·
       rw [if_neg c6] at H; have c6b0 : (a1 == (rd l0 x8_1)) = false := beq_eq_false_iff_ne.mpr c6; have c6b1 : (a1 != (rd l0 x8_1)) = true := bne_iff_ne.mpr c6; have H' := A_ H; clear H; have p366 : 0 ≤ (x8_1 : Int) := dq; have q366 : x8_1 < (l0.length : Int) := dq; obtain ⟨ad366, e366, hx366_0⟩ := Kd.at_int HR0.out x8_1 p366 q366
       cases e366
       replace p366 := eq_true p366; replace q366 := eq_true q366; go_wp2
       go_roundg k1
       case measure => have := HK1.out; omega
       case rel => exact ⟨(wrap64 (x8_1 + 1)), rf, H', ⟨by have := HK1.out; omega⟩, by repeat (first | exact Drawn0.refl _ | apply Drawn0.step)⟩
     ·
      rw [if_neg c5] at H; exact absurd H (by simp)
    ·
     rw [if_neg c4] at H; exact absurd H (by simp)
   ·
    rw [if_neg c3] at H; have c3b0 := decide_eq_false c3; clear c3; obtain rfl := Option.some.inj H; go_wp2
    go_ret
    exact ⟨rf, by repeat (first | exact Drawn0.refl _ | apply Drawn0.step)⟩

/-! ### slices_Contains_int_int: function 56 -/
def slices_Contains_int_int.f (k : Nat) (l0 : List Int) (a1 : Int) : Option (Bool) := (slices_Index_int_int.f k l0 a1).bind fun t367 => (some (decide (t367 ≥ 0)))
theorem slices_Contains_int_int.mono : ∀ a0 a1 k, LeO (slices_Contains_int_int.f k a0 a1) (slices_Contains_int_int.f (k + 1) a0 a1) := by
  intro a0 a1 k
  unfold slices_Contains_int_int.f
  repeat' first
      | (with_reducible exact slices_Index_int_int.mono _ _ _)
      | (with_reducible exact LeO.refl _)
      | (with_reducible exact LeO.none _)
      | (with_reducible refine LeO.ite ?_ ?_)
      | (with_reducible refine LeO.bind ?_ (fun _ => ?_))
      | exact slices_Index_int_int.mono _ _ _
      | exact LeO.none _
      | refine LeO.ite ?_ ?_
      | refine LeO.bind ?_ (fun _ => ?_)
set_option maxHeartbeats 8000000 in
set_option maxRecDepth 100000 in
theorem slices_Contains_int_int.calls (k : Nat) (A0 : Option Addr) (c0 : Nat) (l0 : List Int) (a1 : Int) (r : Bool) (w : World) (hr0 : Kd.C (Kd.int .i64) w A0 l0.length l0) (hc0 : l0.length ≤ c0) (h : slices_Contains_int_int.f k l0 a1 = some r) :
    Calls Try.prog 56 #[.slice A0 l0.length c0, .int .i64 a1] w fun e w' => e = .returned (.bool r) ∧ Drawn0 w w' := by
 have HR0 := A_ hr0; have HC0 := A_ hc0; clear hr0 hc0; have H : ((slices_Index_int_int.f k l0 a1).bind fun t367 => (some (decide (t367 ≥ 0)))) = some r := h; clear h; replace H := bm H; obtain ⟨t367, A3, H⟩ := H; obtain rfl := Option.some.inj H; go_enter Try.func56, Try.ntmps56
 go_wp2_with (first | ((with_reducible refine gate_callee (f := 76) rfl ?_); refine gL (some 7) Try.func76 #[.slice A0 l0.length c0, .int .i64 a1] ?_; (with_reducible refine (slices_Index_int_int.calls k _ _ l0 a1 t367 _ ?side1 ?side2 A3.out).mono ?_); (case side1 => exact cq HR0.out); (case side2 => exact HC0.out); rintro e w' ⟨rfl, ⟨nd, rfl⟩⟩; refine ⟨_, rfl, ?_⟩))
 go_ret
 exact ⟨rf, by repeat (first | exact Drawn0.refl _ | apply Drawn0.step)⟩

/-! ### slices.Max at ints, where there is one at least -/
def slices_Max_int_int.f (k : Nat) (l0 : List Int) : Option Int := if 0 < (l0.length : Int) then some ((l0.drop 1).foldl mx (rd l0 0)) else none
theorem slices_Max_int_int.mono : ∀ a0 k, LeO (slices_Max_int_int.f k a0) (slices_Max_int_int.f (k + 1) a0) := by
  intro a0 k
  exact LeO.refl _
set_option maxHeartbeats 8000000 in
set_option maxRecDepth 100000 in
theorem slices_Max_int_int.calls (k : Nat) (A0 : Option Addr) (c0 : Nat) (l0 : List Int) (r : Int) (w : World) (hr0 : Kd.C (Kd.int .i64) w A0 l0.length l0) (hc0 : l0.length ≤ c0) (h : slices_Max_int_int.f k l0 = some r) :
    Calls Try.prog 57 #[.slice A0 l0.length c0] w fun e w' => e = .returned (.int .i64 r) ∧ Below w.heap.size w w' := by
 unfold slices_Max_int_int.f at h; by_cases c : 0 < (l0.length : Int)
 ·
  rw [if_pos c] at h; have HI := A_ (Option.some.inj h); have HR0 := A_ hr0; have hmax : l0.length ≤ 9223372036854775807 := hr0.2.1; clear h hr0
  have p0 : 0 ≤ (0 : Int) := by omega
  obtain ⟨ad0, e0, hx0⟩ := Kd.at_int HR0.out 0 p0 c; subst e0; (try rw [show ((0 : Int)).toNat = 0 from rfl] at hx0); (try rw [Addr.add_zero'] at hx0); generalize hm0 : rd l0 0 = m0 at HI hx0; clear hm0
  have hlt1 : ¬ (l0.length : Int) < 1 := by omega
  have qi0 : (0 < l0.length) = True := eq_true (by omega); go_enter Try.func57, Try.ntmps57
  go_wp2
  go_loopg [3, 4] l0.length (fun gg s3 s4 wr => ∃ (kk : Nat) (m : Int), kk ≤ l0.length ∧ l0.length - kk ≤ gg ∧ s3 = .int .i64 m ∧ s4 = .int .i64 kk ∧ Aside0 (Below w.heap.size w wr) ∧ Aside0 ((l0.drop kk).foldl mx m = r))
  case atStart => exact ⟨1, m0, by omega, by omega, rfl, rfl, ⟨by repeat (first | exact Below.refl _ _ | apply pw_below_drewN | apply below_drew1)⟩, HI⟩
  case round =>
   clear HI hx0 qi0 hlt1; obtain ⟨kk, m, hkk, hg, rfl, rfl, HB, HI⟩ := hrel; by_cases hlt : kk < l0.length
   ·
    have hltz : (kk : Int) < (l0.length : Int) := by omega
    have hkz : 0 ≤ (kk : Int) := by omega
    obtain ⟨ad2, e2, hx2⟩ := Kd.at_int (Kd.C_below HR0.out HB.out) (kk : Int) hkz hltz
    cases e2
    rw [Int.toNat_natCast] at hx2; have h1 := HI.out; rw [List.drop_eq_getElem_cons hlt, show l0[kk] = rd l0 (kk : Int) by unfold rd; simp [List.getD_eq_getElem?_getD, List.getElem?_eq_getElem hlt], List.foldl_cons] at h1; have H2 := A_ h1; clear h1 HI; generalize hp : rd l0 (kk : Int) = p at *; go_wp2
    all_goals (go_roundg (l0.length - (kk + 1)); (case measure => omega); (case rel => exact ⟨kk + 1, mx m p, by omega, by omega, (by first | rfl | (unfold mx; split <;> first | rfl | (exfalso; omega))), by go_num, HB, H2⟩))
   ·
    have hltz : ¬ (kk : Int) < (l0.length : Int) := by omega
    have h1 := HI.out; rw [List.drop_of_length_le (by omega)] at h1; have H1 := A_ (show m = r from h1); clear h1 HI; go_wp2
    go_ret
    have h3 := H1.out; subst h3; exact ⟨rfl, HB.out⟩
 ·
  rw [if_neg c] at h; exact absurd h (by simp)

end Go.Proofs.Ythgbkekfekcfaaa.PFnExactBestPlans
