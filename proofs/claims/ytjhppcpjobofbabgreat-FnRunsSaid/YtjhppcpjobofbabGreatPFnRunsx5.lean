-- Told shorter still by shrink2.py.
-- Printed, and told shorter by this session's program shrink.py.
-- Printed by this session's program myprint.py.
import Derived.Test.YtjhppcpjobofbabGreatPFnRunsx0
import Derived.Test.YtjhppcpjobofbabGreatPFnRunsx4
namespace Go.Proofs.YtjhppcpjobofbabGreat.PFnRuns
open Go.RowKit Go.Proofs.YtjhppcpjobofbabGreat.Own Go.Proofs.YtjhppcpjobofbabGreatW.PrintWords Go.Proofs.YtjhppcpjobofbabGreatW.PrintLast Go.Proofs.YtjhppcpjobofbabGreatW.PrintMore
attribute [local go_sem] max2_int min2_int max_two min_two max_three min_three max_four min_four   -- for this text's walks alone
set_option linter.unusedVariables false
set_option linter.unusedSimpArgs false

/-! ### impl.allOrders: all orders of the numbers below n, behind what is begun -/
def ordL (n : Nat) : Nat → List Int → List (List Int)
  | 0, xs => [xs]
  | d + 1, xs => (List.range n).flatMap fun (i : Nat) => if (xs.any fun y => decide (y = (i : Int))) = true then [] else ordL n d (xs ++ [(i : Int)])
def ordP (n d : Nat) (xs : List Int) (m : Nat) : List (List Int) := (List.range m).flatMap fun (i : Nat) => if (xs.any fun y => decide (y = (i : Int))) = true then [] else ordL n d (xs ++ [(i : Int)])
theorem ordP_succ (n d : Nat) (xs : List Int) (m : Nat) : ordP n d xs (m + 1) = ordP n d xs m ++ (if (xs.any fun y => decide (y = (m : Int))) = true then [] else ordL n d (xs ++ [(m : Int)])) := by
  unfold ordP
  rw [List.range_succ, List.flatMap_append]
  simp
theorem ordL_len (n : Nat) (hn : n ≤ 4) : ∀ (d : Nat) (xs : List Int), (ordL n d xs).length ≤ 4 ^ d
  | 0, xs => by simp [ordL]
  | d + 1, xs => by
    have h : ∀ m, (ordP n d xs m).length ≤ m * 4 ^ d := by
      intro m
      induction m with
      | zero => simp [ordP]
      | succ m ih =>
        rw [ordP_succ, List.length_append, Nat.succ_mul]
        have := ordL_len n hn d (xs ++ [(m : Int)])
        split
        · simp; omega
        · omega
    have h1 := h n
    have h2 : n * 4 ^ d ≤ 4 * 4 ^ d := Nat.mul_le_mul_right _ hn
    show (ordP n d xs n).length ≤ 4 ^ (d + 1)
    rw [Nat.pow_succ]
    omega
theorem ordP_len (n : Nat) (hn : n ≤ 4) (d : Nat) (xs : List Int) (m : Nat) : (ordP n d xs m).length ≤ m * 4 ^ d := by
  induction m with
  | zero => simp [ordP]
  | succ m ih =>
    rw [ordP_succ, List.length_append, Nat.succ_mul]
    have := ordL_len n hn d (xs ++ [(m : Int)])
    split
    · simp; omega
    · omega
theorem ord_copied (l : List Int) (hl : l.length ≤ 10) : Q74.f l = some l := by
  unfold Q74.f
  rw [Option.bind_some, if_pos (by simp; omega)]
  rfl
theorem ord_idx (x : Int) (l : List Int) (hl : l.length ≤ 10) : ∀ (d i k : Nat), i + d = l.length → d < k → ∃ r : Int, Q41.l0 k l x (l.length : Int) (i : Int) = some r ∧ (0 ≤ r ↔ ((l.drop i).any fun y => decide (y = x)) = true)
  | 0, i, k, h, hk => by
    obtain ⟨k, rfl⟩ : ∃ m, k = m + 1 := ⟨k - 1, by omega⟩
    simp only [Q41.l0]
    rw [if_neg (by omega), List.drop_of_length_le (by omega)]
    exact ⟨_, rfl, by simp⟩
  | d + 1, i, k, h, hk => by
    obtain ⟨k, rfl⟩ : ∃ m, k = m + 1 := ⟨k - 1, by omega⟩
    simp only [Q41.l0]
    rw [if_pos (by omega), if_pos (by omega), if_pos (by omega), List.drop_eq_getElem_cons (show i < l.length by omega), List.any_cons]
    have hg : rd l (i : Int) = l[i] := by unfold rd; simp [List.getD_eq_getElem?_getD, List.getElem?_eq_getElem (show i < l.length by omega)]
    by_cases c : x = rd l (i : Int)
    · rw [if_pos c]
      refine ⟨_, rfl, ?_⟩
      rw [← hg, decide_eq_true c.symm, Bool.true_or]
      exact ⟨fun _ => rfl, fun _ => by omega⟩
    · rw [if_neg c, show wrap64 ((i : Int) + 1) = ((i + 1 : Nat) : Int) by unfold wrap64; omega]
      obtain ⟨r, hr, hi⟩ := ord_idx x l hl d (i + 1) k (by omega) (by omega)
      refine ⟨r, hr, ?_⟩
      rw [← hg, decide_eq_false (fun h => c h.symm), Bool.false_or]
      exact hi
theorem ord_has (x : Int) (l : List Int) (hl : l.length ≤ 10) : Q62.f 12 l x = some (l.any fun y => decide (y = x)) := by
  unfold Q62.f Q41.f
  obtain ⟨r, hr, hi⟩ := ord_idx x l hl l.length 0 12 (by omega) (by omega)
  rw [show (0 : Int) = ((0 : Nat) : Int) from rfl, hr, Option.bind_some]
  congr 1
  rw [Bool.eq_iff_iff, decide_eq_true_iff]
  rw [List.drop_zero] at hi
  exact hi
def OrdS (w : World) (base : Nat) (ok : Nat → Prop) (v : Value) (acc : List (List Int)) : Prop := Kd.S (Kd.slice 3 (Kd.int .i64)) 26 w base ok v acc
def OrdR (w : World) (base : Nat) (v : Value) (xs : List Int) : Prop := w.ownsRow base 3 1 v xs.length (encs (Value.int .i64) xs)
theorem OrdR.kept {w w1 : World} {base : Nat} {v : Value} {xs : List Int} {S : Nat → Prop} (h : OrdR w base v xs) (hk : Kept w w1 S) (hn : ∀ k, v.ownBlock = some k → ¬ S k) : OrdR w1 base v xs :=
  own_move h (fun k e => hk.2 k (own_lt h k e) (hn k e))
theorem OrdR.below {w w1 : World} {base : Nat} {v : Value} {xs : List Int} (h : OrdR w base v xs) (hb : Below w.heap.size w w1) : OrdR w1 base v xs :=
  own_move h (fun k e => hb.block k (own_lt h k e))
theorem OrdR.reads {w : World} {base : Nat} {v : Value} {xs : List Int} (h : OrdR w base v xs) : ∃ A c, v = .slice A xs.length c ∧ xs.length ≤ c ∧ (Kd.int .i64).C w A xs.length xs := Kd.R_reads (Kd.R_of_own (e := 3) (ok := fun _ => True) h (fun _ _ => trivial))
/-- What was laid behind it in its own block leaves what it holds. -/
theorem OrdR.less {w : World} {base g n c : Nat} {xs : List Int} {x : Int} (hn : n = xs.length) (h : OrdR w base (.slice (some ⟨g, 0, none⟩) (n + 1) c) (xs ++ [x])) : OrdR w base (.slice (some ⟨g, 0, none⟩) n c) xs := by
  subst hn
  refine ⟨by simp [encs], ?_⟩
  rcases h.2 with ⟨hv, _⟩ | ⟨g', cap, cur, hv, hg, hh, h1, h2, h3, h4⟩
  · cases hv
  · injection hv with e1 e2 e3
    injection e1 with e1
    injection e1 with e1
    subst e1
    subst e3
    rw [List.length_append, List.length_singleton] at h1 h4
    refine .inr ⟨g, c, cur, rfl, hg, hh, by omega, h2, h3, ?_⟩
    have h5 := congrArg (List.take (xs.length * 1)) h4
    rw [List.take_take, Nat.min_eq_left (by omega)] at h5
    rw [h5]
    simp [encs]
theorem OrdS.move {w w1 : World} {base : Nat} {ok : Nat → Prop} {v : Value} {acc : List (List Int)} (h : OrdS w base ok v acc) (hb : Below w.heap.size w w1) : OrdS w1 base ok v acc := Kd.S_below h hb
set_option maxHeartbeats 8000000 in
set_option maxRecDepth 100000 in
theorem ord_full (n : Nat) (hn : n ≤ 4) (w0 : World) (gn go gf : Nat) (hne1 : gn ≠ go) (hne3 : go ≠ gf) (hgo : w0.heap.size ≤ go) (xs : List Int) (acc : List (List Int)) (v vo : Value) (w : World) (PO : Nat → Prop)
    (hl : xs.length = n) (ha : acc.length + 1 ≤ 100000) (hB : Below w0.heap.size w0 w) (hbn : w.heap[gn]? = some (.cells #[.int .i64 n] 3 (0, 0))) (hbo : w.heap[go]? = some (.cells #[vo] 61 (0, 0)))
    (hv : OrdR w w0.heap.size v xs) (hvg : ∀ k, v.ownBlock = some k → k ≠ gn ∧ k ≠ go ∧ k ≠ gf) (hs : OrdS w w0.heap.size PO vo acc) (hPO : ∀ k, PO k → some k ≠ v.ownBlock ∧ k ≠ gn ∧ k ≠ go ∧ k ≠ gf) :
    Calls Tryz.prog 58 #[v, .pointer (some ⟨gn, 0, none⟩), .pointer (some ⟨go, 0, none⟩), .pointer (some ⟨gf, 0, none⟩)] w fun e w' => ∃ vo', e = .returned (.tuple #[]) ∧ w'.heap[go]? = some (.cells #[vo'] 61 (0, 0)) ∧ OrdS w' w0.heap.size (fun k => PO k ∨ w.heap.size ≤ k) vo' (acc ++ [xs]) ∧ Below w0.heap.size w0 w' ∧ Kept w w' (fun k => PO k ∨ some k = v.ownBlock ∨ k = go) ∧ OrdR w' w0.heap.size v xs := by
  subst hl
  obtain ⟨A, c, hvA, hlc, hC⟩ := hv.reads
  subst hvA
  have HV := A_ hv
  have HC := A_ hC
  have HLC := A_ hlc
  have HVG := A_ hvg
  have HS := A_ hs
  have HPO := A_ hPO
  have HB := A_ hB
  have BN := A_ hbn
  have BO := A_ hbo
  have HA := A_ ha
  have HN := A_ hn
  have HGO := A_ hgo
  have HCP := A_ (ord_copied xs (by omega))
  have hxn : w.cell? ⟨gn, 0, none⟩ = some (.int .i64 (xs.length : Int)) := (blk_cell hbn 0).trans rfl
  have hxo : w.cell? ⟨go, 0, none⟩ = some vo := (blk_cell hbo 0).trans rfl
  have hfo := blk_frozen hbo 0
  have hlto : go < w.heap.size := blk_lt hbo
  clear hv hC hlc hvg hs hPO hB hbn hbo ha hn hgo
  have HSB := A_ (show Kd.S (Kd.slice 3 (Kd.int .i64)) 26 w w0.heap.size (fun k => PO k ∧ k < w.heap.size) vo acc from Kd.S_mono (Kd.S_bound HS.out) (fun k hk => ⟨hk.1, hk.2.2.1⟩))
  have HW := A_ (Below.refl w.heap.size w)
  clear HS
  go_enter Tryz.func58, Tryz.ntmps58
  go_wp2_with fail
  go_region_law (first | (go_simp; go_at_call 59; (refine (Q74.calls A c xs xs _ ?s1 HLC.out HCP.out).mono ?_); (case s1 => (with_reducible repeat (first | refine Kd.C_alloc ?_ _ | refine Kd.C_drewN ?_ _ | refine Kd.C_drew ?_)); exact HC.out); rintro e w1 ⟨v1, rfl, ho1, hb1⟩; obtain ⟨A1, c1, e1⟩ := Kd.R_slice ho1; subst e1; have n1_ := A_ (blk_below (bp (BO.out)) hb1); have n2_ := A_ (Kd.S_below (by (with_reducible repeat (first | apply Kd.S_alloc | apply Kd.S_drewN | apply Kd.S_drew)); exact HSB.out) hb1); have n3_ := A_ (below_step (hq HB) hb1); have n4_ := A_ (below_step (hq HW) hb1); have HV1 := A_ (show ∀ k, (Value.slice A1 xs.length c1).ownBlock = some k → w.heap.size ≤ k from fun k e => Nat.le_trans (below_size (hq HW)) (Kd.R_base ho1 k e)); have HO1 := A_ (Kd.R_lower (base' := w0.heap.size) ho1 (below_size (hq HB))); have hx1 : w1.cell? ⟨go, 0, none⟩ = some vo := (blk_cell n1_.out 0).trans rfl; have hlt1 := blk_lt n1_.out; clear ho1 hb1; clear BO HSB HB HW; have BO := n1_; have HSB := n2_; have HB := n3_; have HW := n4_; clear n1_ n2_ n3_ n4_) | ((refine Kd.S_append_step (Kd.slice 3 (Kd.int .i64)) (w0 := w0) w0.heap.size (by rfl) (.tmp 10) (.tmp 13) 61 26 (.slice none 0 0) 24 rfl Tryz.underlying61 info26 rfl (by decide) (by omega) vo acc xs [.slice A1 xs.length c1] (fun k => PO k ∨ w.heap.size ≤ k) (fun k => some k = (Value.slice A1 xs.length c1).ownBlock) rfl rfl ?aP ?aK ?aF ?aO ?aB ?aS ?aL ?_); (case aP => exact ⟨_, rfl, by (with_reducible repeat (first | apply Kd.R_alloc | apply Kd.R_drewN | apply Kd.R_drew)); exact Kd.R_mono (Kd.R_tight rfl HO1.out) (fun _ h_ => h_)⟩); (case aK => exact fun k e => ⟨.inr (HV1.out k e.symm), Ne.symm (Kd.S_away (d := Kd.slice 3 (Kd.int .i64)) HSB.out (g := k) (fun k2 h2 e2 => by have := HV1.out k e.symm; omega) |> fun q => fun q2 => q q2.symm)⟩); (case aF => exact fun k hk => .inr (Nat.le_trans (below_size (hq HW)) hk)); (case aO => (with_reducible repeat (first | apply Kd.S_alloc | apply Kd.S_drewN | apply Kd.S_drew)); exact Kd.S_mono HSB.out (fun k hk => ⟨.inl hk.1, fun e => by have := HV1.out k e.symm; omega⟩)); (case aB => exact (hq HB)); (case aS => exact below_size (hq HB)); (case aL => have := HA.out; omega); intro v2 w2 hs2 hb2 hg2 hat2; obtain ⟨A2, c2, e2⟩ := Kd.S_slice hs2; subst e2; have BO2 := A_ (blk_grown (g := go) (bp (BO.out)) hg2 (Kd.S_away HSB.out (fun k hk => (HPO.out k hk.1).2.2.1))); have HS2 := A_ hs2; have HB2 := A_ hb2; have HK2 := A_ (Kept.of_grown (S := PO) hg2 (Kept.of_below (hq HW) _) (fun k e => .inl ((Kd.S_R HSB.out).1 k e).1)); have hx2 : w2.cell? ⟨go, 0, none⟩ = some vo := (blk_cell BO2.out 0).trans rfl; have hf2 := blk_frozen BO2.out 0; have hlt2 := blk_lt BO2.out; clear hs2 hb2 hg2 hat2))
  all_goals (try go_wp2)
  all_goals (first | go_end0 | ((try simp only [Exit.inBlock, Exit.then]); refine bodyPost_ret (results_none rfl _ _ _) rfl ?_))
  all_goals (
    have hvo : ∀ k, (Value.slice A xs.length c).ownBlock = some k → k ≠ go := fun k e => (HVG.out k e).2.1
    have hk3 := Kept.setCell (p := ⟨go, 0, none⟩) (Kept.mono (S' := fun k => PO k ∨ k = go) HK2.out (fun k hk => .inl hk)) (.inl (.inr rfl)) (Value.slice A2 (acc.length + 1) c2)
    have hs3 := HS2.out
    rw [show (acc ++ [xs]).length = acc.length + 1 by simp] at hs3
    have hs4 := Kd.S_mono (ok' := fun k => (PO k ∨ w.heap.size ≤ k) ∧ k ≠ go) (Kd.S_types hs3 BO2.out (by decide)) (fun k hk => hk)
    have hs5 : OrdS (w2.setCell ⟨go, 0, none⟩ (Value.slice A2 (acc.length + 1) c2)) w0.heap.size (fun k => PO k ∨ w.heap.size ≤ k) (Value.slice A2 (acc.length + 1) c2) (acc ++ [xs]) := Kd.S_mono (Kd.S_far (p := ⟨go, 0, none⟩) hs4 (fun k hk => hk.2) _) (fun k hk => hk.1)
    exact ⟨_, by first | rfl | (simp; done), blk_put BO2.out 0 _ rfl, hs5, below_set HB2.out HGO.out, Kept.mono hk3 (fun k hk => hk.elim (fun h => .inl h) (fun h => .inr (.inr h))), HV.out.kept hk3 (fun k e h => h.elim (fun h => (HPO.out k h).1 e.symm) (fun h => hvo k e h))⟩)
theorem OrdR.nil_or {w : World} {base : Nat} {v : Value} {xs : List Int} (h : OrdR w base v xs) : (v = .slice none 0 0 ∧ xs = []) ∨ ∃ g c cur, v = .slice (some ⟨g, 0, none⟩) xs.length c ∧ base ≤ g ∧ w.heap[g]? = some (.cells cur 3 (0, 0)) ∧ xs.length ≤ c ∧ c ≤ maxLen ∧ cur.size = c ∧ cur.toList.take xs.length = encs (Value.int .i64) xs := by
  rcases h.2 with ⟨hv, hz⟩ | ⟨g, c, cur, hv, hg, hh, h1, h2, h3, h4⟩
  · exact .inl ⟨hv, List.eq_nil_of_length_eq_zero hz⟩
  · exact .inr ⟨g, c, cur, hv, hg, hh, h1, h2, by rw [h3, Nat.mul_one], by rw [Nat.mul_one] at h4; exact h4⟩
set_option maxRecDepth 100000 in
theorem ord_app {ops : Array Oper} {o : Oper} {a : Act} {K : Act → World → Prop} {Q : Exit → Act → World → Prop} {E : Prop} {W : World} (base : Nat) (hg : o.guard = none) (s x : Operand) (ho : o.op = .call { callee := .builtin .append, args := #[s, x], argTypes := #[26, 26] }) (v : Value) (xs : List Int) (x0 : Int) (g0 : Nat) (hs : a.eval s = v) (hx : a.eval x = .slice (some ⟨g0, 0, none⟩) 1 1) (hnew : W.heap[g0]? = some (.cells #[.int .i64 x0] 3 (0, 0))) (HV : OrdR W base v xs) (hb : base ≤ W.heap.size) (hl : xs.length ≤ 10)
    (h : ∀ v1 w1, OrdR w1 base v1 (xs ++ [x0]) → ((∃ g c, v = .slice (some ⟨g, 0, none⟩) xs.length c ∧ v1 = .slice (some ⟨g, 0, none⟩) (xs.length + 1) c ∧ W.grownBy w1 (some g)) ∨ (W.grownBy w1 none ∧ ∀ k, v1.ownBlock = some k → W.heap.size ≤ k)) → K (a.put o.dst v1) w1) :
    if Region.wanted o (yielded ops a.tmps) = true then Oper.wp Tryz.prog o a W K Q else E := by
  obtain ⟨i0, hi, hz0, hz1, hz2⟩ := info_parts (show (Tryz.prog.info? 3).map (fun i => (i.zero, i.size, i.bytes)) = some (some (.int .i64 0), 1, 8) by kernel_rfl)
  have hnews : ∀ j u, [Value.int .i64 x0][j]? = some u → W.cell? ((⟨g0, 0, none⟩ : Addr).add j) = some u := World.news_of_block (cs := #[.int .i64 x0]) (t := 3) (fr := (0, 0)) hnew
  have h1c : ∀ u ∈ [Value.int .i64 x0], u.oneCell' = true := by simp [Value.oneCell']
  have hel : (encs (Value.int .i64) xs).length = xs.length * 1 := by simp [encs]
  have grows : ∀ (A : Option Addr) (c : Nat), v = .slice A xs.length c → (A = none → xs.length = 0 ∧ c = 0) → (∀ b, A = some b → ∀ j u, (encs (Value.int .i64) xs)[j]? = some u → W.cell? (b.add j) = some u) → c < xs.length + 1 → if Region.wanted o (yielded ops a.tmps) = true then Oper.wp Tryz.prog o a W K Q else E := by
    intro A c hv hn hc hlt
    refine step_append_grows hg s x 26 ho 3 i0 (.int .i64 0) 1 8 Tryz.underlying26 hi hz0 hz1 hz2 rfl (by decide) A xs.length c (encs (Value.int .i64) xs) (by rw [hs, hv]) hn hel hc ⟨g0, 0, none⟩ 1 1 [.int .i64 x0] hx rfl hnews h1c hlt (by unfold maxLen; omega) (by omega) ?_
    intro v' w' hown hgw
    have hown2 : OrdR w' base v' (xs ++ [x0]) := by
      unfold OrdR
      have e1 : encs (Value.int .i64) (xs ++ [x0]) = encs (Value.int .i64) xs ++ [.int .i64 x0] := by simp [encs]
      rw [e1, List.length_append, List.length_singleton]
      exact own_weaken hown hb
    exact h v' w' hown2 (.inr ⟨hgw, fun k e => own_base hown k e⟩)
  rcases HV.nil_or with ⟨hv, hx0⟩ | ⟨g, c, cur, hv, hgb, hh, h1, h2, h3, h4⟩
  · subst hx0
    exact grows none 0 hv (fun _ => ⟨rfl, rfl⟩) (fun b e => by cases e) (by simp)
  · have hlt : g < W.heap.size := (Array.getElem?_eq_some_iff.1 hh).1
    have hh' := hh
    have hadd : ∀ j, (⟨g, 0, none⟩ : Addr).add j = ⟨g, j, none⟩ := fun j => by unfold Addr.add; split <;> simp_all
    rcases Nat.lt_or_ge xs.length c with hr | hr
    · refine step_append_room hg s x 26 ho 3 i0 1 Tryz.underlying26 hi hz1 g 0 xs.length c (by rw [hs, hv]) ⟨g0, 0, none⟩ 1 1 [.int .i64 x0] hx rfl hnews h1c hr ?_ ?_
      · intro j hj
        have hj0 : j = 0 := by simpa using hj
        subst hj0
        refine ⟨?_, blk_frozen hh' _⟩
        rw [blk_cell hh']
        simp
        omega
      · show K (a.put o.dst (.slice (some ⟨g, 0, none⟩) (xs.length + 1) c)) (W.setCell ⟨g, 0 + xs.length * 1, none⟩ (.int .i64 x0))
        rw [show 0 + xs.length * 1 = xs.length by omega]
        have hp := blk_put hh' xs.length (.int .i64 x0) rfl
        refine h _ _ ⟨by simp [encs], .inr ⟨g, c, _, by rw [List.length_append, List.length_singleton], hgb, hp, by rw [List.length_append, List.length_singleton]; omega, h2, by simp [h3], ?_⟩⟩ (.inl ⟨g, c, hv, rfl, ?_⟩)
        · rw [List.length_append, List.length_singleton, Nat.mul_one, Array.toList_setIfInBounds]
          apply List.ext_getElem?
          intro i
          have e1 : encs (Value.int .i64) (xs ++ [x0]) = encs (Value.int .i64) xs ++ [.int .i64 x0] := by simp [encs]
          have hle : (encs (Value.int .i64) xs).length = xs.length := by simp [encs]
          rw [e1]
          rcases Nat.lt_trichotomy i xs.length with h5 | h5 | h5
          · rw [List.getElem?_take_of_lt (by omega), List.getElem?_set_ne (by omega), List.getElem?_append_left (by omega), ← h4, List.getElem?_take_of_lt h5]
          · subst h5
            rw [List.getElem?_take_of_lt (by omega), List.getElem?_set_self (by simp; omega), List.getElem?_append_right (by omega), hle, Nat.sub_self]
            rfl
          · rw [List.getElem?_eq_none (by rw [List.length_take]; omega), List.getElem?_eq_none (by simp [encs]; omega)]
        · exact ⟨rfl, rfl, rfl, by simp, fun k hk hne => Below.heap_setCell _ _ _ k (fun e => hne (by rw [e]))⟩
    · refine grows (some ⟨g, 0, none⟩) c hv (fun e => by cases e) (fun b e j u hj => ?_) (by omega)
      injection e with e
      subst e
      rw [hadd, blk_cell hh', ← Array.getElem?_toList]
      have hj2 : j < xs.length := by
        have := (List.getElem?_eq_some_iff.1 hj).1
        rwa [hel, Nat.mul_one] at this
      rw [← h4, List.getElem?_take_of_lt hj2] at hj
      exact hj
/-- What an append in its own block, or in a new one, leaves. -/
theorem ord_grew {wr W w2 : World} {base : Nat} {v v1 : Value} {xs : List Int} (hw : Below wr.heap.size wr W) (hv : OrdR W base v xs)
    (h : (∃ g c, v = .slice (some ⟨g, 0, none⟩) xs.length c ∧ v1 = .slice (some ⟨g, 0, none⟩) (xs.length + 1) c ∧ W.grownBy w2 (some g)) ∨ (W.grownBy w2 none ∧ ∀ k, v1.ownBlock = some k → W.heap.size ≤ k)) :
    Kept wr w2 (fun k => some k = v.ownBlock) ∧ (∀ w0 : World, base = w0.heap.size → Below w0.heap.size w0 W → Below w0.heap.size w0 w2) ∧ ((∃ g c, v = .slice (some ⟨g, 0, none⟩) xs.length c ∧ v1 = .slice (some ⟨g, 0, none⟩) (xs.length + 1) c) ∨ ((∀ k, v1.ownBlock = some k → wr.heap.size ≤ k) ∧ OrdR w2 base v xs)) := by
  rcases h with ⟨g, c, hv0, hv1, hg⟩ | ⟨hg, hk⟩
  · subst hv0
    have hgb := own_base hv g (by simp [Value.ownBlock])
    refine ⟨Kept.of_grown hg (Kept.of_below hw _) (fun k e => .inl (by injection e with e; subst e; rfl)), fun w0 e hb => ?_, .inl ⟨g, c, rfl, hv1⟩⟩
    exact hb.grown hg hb.size (fun k ek => by injection ek with ek; omega)
  · refine ⟨Kept.of_grown hg (Kept.of_below hw _) (fun k e => by cases e), fun w0 e hb => hb.grown hg hb.size (fun k ek => by cases ek), .inr ⟨fun k e => Nat.le_trans hw.size (hk k e), ?_⟩⟩
    exact own_move hv (fun k e => hg.block k (own_lt hv k e) (by simp))
theorem ord_next {w wr w2 w3 : World} {base go : Nat} {v v1 : Value} {xs : List Int} {x : Int} {PO : Nat → Prop} (hvw : ∀ k, v.ownBlock = some k → k < w.heap.size) (hPO : ∀ k, PO k → some k ≠ v.ownBlock) (hvg : ∀ k, v.ownBlock = some k → k ≠ go)
    (h1 : Kept w wr (fun k => PO k ∨ some k = v.ownBlock ∨ k = go)) (h2 : Kept wr w2 (fun k => some k = v.ownBlock)) (h3 : Kept w2 w3 (fun k => ((PO k ∨ w.heap.size ≤ k) ∧ k < wr.heap.size) ∨ some k = v1.ownBlock ∨ k = go))
    (hc : (∃ g c, v = .slice (some ⟨g, 0, none⟩) xs.length c ∧ v1 = .slice (some ⟨g, 0, none⟩) (xs.length + 1) c) ∨ ((∀ k, v1.ownBlock = some k → wr.heap.size ≤ k) ∧ OrdR w2 base v xs)) (hv3 : OrdR w3 base v1 (xs ++ [x])) :
    Kept w w3 (fun k => PO k ∨ some k = v.ownBlock ∨ k = go) ∧ OrdR w3 base v xs := by
  have hs1 : w.heap.size ≤ wr.heap.size := h1.1
  have hb1 : ∀ k, v1.ownBlock = some k → some k = v.ownBlock ∨ wr.heap.size ≤ k := by
    intro k e
    rcases hc with ⟨g, c, rfl, rfl⟩ | ⟨hk, _⟩
    · left
      simpa [Value.ownBlock] using e.symm
    · exact .inr (hk k e)
  refine ⟨⟨Nat.le_trans h1.1 (Nat.le_trans h2.1 h3.1), fun i hi hn => ?_⟩, ?_⟩
  · have n1 : ¬ PO i := fun h => hn (.inl h)
    have n2 : ¬ some i = v.ownBlock := fun h => hn (.inr (.inl h))
    have n3 : ¬ i = go := fun h => hn (.inr (.inr h))
    rw [h3.2 i (by have := h2.1; omega) (fun h => ?_), h2.2 i (by omega) n2, h1.2 i hi hn]
    rcases h with ⟨h | h, _⟩ | h | h
    · exact n1 h
    · omega
    · rcases hb1 i h.symm with h | h
      · exact n2 h
      · omega
    · exact n3 h
  · rcases hc with ⟨g, c, rfl, rfl⟩ | ⟨hk, hvr⟩
    · exact OrdR.less rfl hv3
    · refine hvr.kept h3 (fun k e h => ?_)
      have hkw := hvw k e
      rcases h with ⟨h | h, _⟩ | h | h
      · exact hPO k h e.symm
      · omega
      · have := hk k h.symm
        omega
      · exact hvg k e h
theorem OrdR.C {w : World} {base : Nat} {A : Option Addr} {c : Nat} {xs : List Int} (h : OrdR w base (.slice A xs.length c) xs) : (Kd.int .i64).C w A xs.length xs := by
  obtain ⟨A', c', e, _, hC⟩ := h.reads
  injection e with e1 e2 e3
  rw [e1]
  exact hC
theorem ord_drawn {w w' : World} (h : Drawn0 w w') : Below w.heap.size w w' := by
  obtain ⟨k, rfl⟩ := h.out
  exact pw_below_drewN (Below.refl _ _) k
theorem OrdS.back {w : World} {base : Nat} {P P' : Nat → Prop} {v : Value} {acc acc' : List (List Int)} (h : OrdS w base P v acc) (hp : ∀ k, P k → P' k) (he : acc = acc') : OrdS w base P' v acc' := by
  subst he
  exact Kd.S_mono h hp
theorem ord_rec {n d m : Nat} {w0 w wr w2 : World} {gn go gf : Nat} {xs : List Int} {acc : List (List Int)} {v v1 vo1 : Value} {PO : Nat → Prop} (IH : ∀ (xs : List Int) (acc : List (List Int)) (v vo : Value) (w : World) (PO : Nat → Prop), xs.length + d = n → acc.length + 4 ^ d ≤ 100000 → Below w0.heap.size w0 w → w.heap[gn]? = some (.cells #[.int .i64 n] 3 (0, 0)) → w.heap[go]? = some (.cells #[vo] 61 (0, 0)) → w.heap[gf]? = some (.cells #[.func (.func 58) #[] #[.pointer (some ⟨gn, 0, none⟩), .pointer (some ⟨go, 0, none⟩), .pointer (some ⟨gf, 0, none⟩)]] 87 (0, 0)) →
    OrdR w w0.heap.size v xs → (∀ k, v.ownBlock = some k → k ≠ gn ∧ k ≠ go ∧ k ≠ gf) → OrdS w w0.heap.size PO vo acc → (∀ k, PO k → some k ≠ v.ownBlock ∧ k ≠ gn ∧ k ≠ go ∧ k ≠ gf) →
    Calls Tryz.prog 58 #[v, .pointer (some ⟨gn, 0, none⟩), .pointer (some ⟨go, 0, none⟩), .pointer (some ⟨gf, 0, none⟩)] w fun e w' => ∃ vo', e = .returned (.tuple #[]) ∧ w'.heap[go]? = some (.cells #[vo'] 61 (0, 0)) ∧ OrdS w' w0.heap.size (fun k => PO k ∨ w.heap.size ≤ k) vo' (acc ++ ordL n d xs) ∧ Below w0.heap.size w0 w' ∧ Kept w w' (fun k => PO k ∨ some k = v.ownBlock ∨ k = go) ∧ OrdR w' w0.heap.size v xs)
    (hl : xs.length + (d + 1) = n) (hn : n ≤ 4) (ha : acc.length + 4 ^ (d + 1) ≤ 100000) (hm : m < n) (h1 : gn ≠ go) (h3 : go ≠ gf) (hvg : ∀ k, v.ownBlock = some k → k ≠ gn ∧ k ≠ go ∧ k ≠ gf) (hvw : ∀ k, v.ownBlock = some k → k < w.heap.size) (hPO : ∀ k, PO k → some k ≠ v.ownBlock ∧ k ≠ gn ∧ k ≠ go ∧ k ≠ gf)
    (hbn : w.heap[gn]? = some (.cells #[.int .i64 n] 3 (0, 0))) (hbf : w.heap[gf]? = some (.cells #[.func (.func 58) #[] #[.pointer (some ⟨gn, 0, none⟩), .pointer (some ⟨go, 0, none⟩), .pointer (some ⟨gf, 0, none⟩)]] 87 (0, 0))) (hgl : go < w.heap.size) (hbo : wr.heap[go]? = some (.cells #[vo1] 61 (0, 0)))
    (hs : OrdS wr w0.heap.size (fun k => PO k ∨ w.heap.size ≤ k) vo1 (acc ++ ordP n d xs m)) (hk1 : Kept w wr (fun k => PO k ∨ some k = v.ownBlock ∨ k = go)) (hvr : OrdR wr w0.heap.size v xs) (hX : ordP n d xs (m + 1) = ordP n d xs m ++ ordL n d (xs ++ [(m : Int)]))
    (hv2 : OrdR w2 w0.heap.size v1 (xs ++ [(m : Int)])) (hk2 : Kept wr w2 (fun k => some k = v.ownBlock)) (hb2 : Below w0.heap.size w0 w2) (hc2 : (∃ g c, v = .slice (some ⟨g, 0, none⟩) xs.length c ∧ v1 = .slice (some ⟨g, 0, none⟩) (xs.length + 1) c) ∨ ((∀ k, v1.ownBlock = some k → wr.heap.size ≤ k) ∧ OrdR w2 w0.heap.size v xs)) (w2' : World) (hd : Below w2.heap.size w2 w2') :
    Calls Tryz.prog 58 #[v1, .pointer (some ⟨gn, 0, none⟩), .pointer (some ⟨go, 0, none⟩), .pointer (some ⟨gf, 0, none⟩)] w2' fun e w3 => ∃ vo', e = .returned (.tuple #[]) ∧ w3.heap[go]? = some (.cells #[vo'] 61 (0, 0)) ∧ OrdS w3 w0.heap.size (fun k => PO k ∨ w.heap.size ≤ k) vo' (acc ++ ordP n d xs (m + 1)) ∧ Below w0.heap.size w0 w3 ∧ Kept w w3 (fun k => PO k ∨ some k = v.ownBlock ∨ k = go) ∧ OrdR w3 w0.heap.size v xs := by
  have hltn := blk_lt hbn
  have hltf := blk_lt hbf
  have hlto := blk_lt hbo
  have hs1 := hk1.1
  have hs2 := hk2.1
  have k2 : Kept wr w2' (fun k => some k = v.ownBlock) := ⟨Nat.le_trans hk2.1 hd.size, fun i hi hn => (hd.block i (by omega)).trans (hk2.2 i hi hn)⟩
  have bn1 := (hk1.2 gn hltn (fun h => h.elim (fun h => (hPO gn h).2.1 rfl) (fun h => h.elim (fun h => (hvg gn h.symm).1 rfl) (fun h => h1 h)))).trans hbn
  have bf1 := (hk1.2 gf hltf (fun h => h.elim (fun h => (hPO gf h).2.2.2 rfl) (fun h => h.elim (fun h => (hvg gf h.symm).2.2 rfl) (fun h => h3 h.symm)))).trans hbf
  have bn2 := (k2.2 gn (by omega) (fun h => (hvg gn h.symm).1 rfl)).trans bn1
  have bf2 := (k2.2 gf (by omega) (fun h => (hvg gf h.symm).2.2 rfl)).trans bf1
  have bo2 := (k2.2 go hlto (fun h => (hvg go h.symm).2.1 rfl)).trans hbo
  have hv2' := hv2.below hd
  have hb2' := below_step hb2 hd
  have hgw : ∀ k, v1.ownBlock = some k → some k = v.ownBlock ∨ wr.heap.size ≤ k := by
    intro k e
    rcases hc2 with ⟨g, c, rfl, rfl⟩ | ⟨hk, _⟩
    · left
      simpa [Value.ownBlock] using e.symm
    · exact .inr (hk k e)
  have hP1 : ∀ k, ((PO k ∨ w.heap.size ≤ k) ∧ k < wr.heap.size) → some k ≠ v1.ownBlock ∧ k ≠ gn ∧ k ≠ go ∧ k ≠ gf := by
    rintro k ⟨h, hk⟩
    refine ⟨fun e => ?_, ?_⟩
    · rcases hgw k e.symm with h4 | h4
      · rcases h with h | h
        · exact (hPO k h).1 h4
        · have := hvw k h4.symm
          omega
      · omega
    · rcases h with h | h
      · exact (hPO k h).2
      · exact ⟨by omega, by omega, by omega⟩
  have hv1g : ∀ k, v1.ownBlock = some k → k ≠ gn ∧ k ≠ go ∧ k ≠ gf := by
    intro k e
    rcases hgw k e with h | h
    · exact hvg k h.symm
    · exact ⟨by omega, by omega, by omega⟩
  have hs' : OrdS w2' w0.heap.size (fun k => (PO k ∨ w.heap.size ≤ k) ∧ k < wr.heap.size) vo1 (acc ++ ordP n d xs m) := by
    have h5 : OrdS wr w0.heap.size (fun k => (PO k ∨ w.heap.size ≤ k) ∧ k < wr.heap.size) vo1 (acc ++ ordP n d xs m) := Kd.S_mono (Kd.S_bound hs) (fun k hk => ⟨hk.1, hk.2.2.1⟩)
    refine Kd.S_kept h5 k2 (fun k hk h => ?_)
    rcases hk.1 with h6 | h6
    · exact (hPO k h6).1 h
    · have := hvw k h.symm
      omega
  have hpl := ordP_len n hn d xs m
  have hm4 : (m + 1) * 4 ^ d ≤ 4 * 4 ^ d := Nat.mul_le_mul_right _ (by omega)
  rw [Nat.succ_mul] at hm4
  rw [Nat.pow_succ] at ha
  refine (IH (xs ++ [(m : Int)]) (acc ++ ordP n d xs m) v1 vo1 w2' _ (by rw [List.length_append, List.length_singleton]; omega) (by rw [List.length_append]; omega) hb2' bn2 bo2 bf2 hv2' hv1g hs' hP1).mono ?_
  rintro e w3 ⟨vo', rfl, ho3, hs3, hb3, hk3, hv3⟩
  have hc2' : (∃ g c, v = .slice (some ⟨g, 0, none⟩) xs.length c ∧ v1 = .slice (some ⟨g, 0, none⟩) (xs.length + 1) c) ∨ ((∀ k, v1.ownBlock = some k → wr.heap.size ≤ k) ∧ OrdR w2' w0.heap.size v xs) := hc2.imp id (fun h => ⟨h.1, h.2.below hd⟩)
  have hnx := ord_next hvw (fun k h => (hPO k h).1) (fun k e => (hvg k e).2.1) hk1 k2 hk3 hc2' hv3
  refine ⟨vo', rfl, ho3, OrdS.back hs3 (fun k hk => ?_) (by rw [hX, List.append_assoc]), hb3, hnx.1, hnx.2⟩
  rcases hk with ⟨h, _⟩ | h
  · exact h
  · exact .inr (by have := hd.size; omega)
set_option maxHeartbeats 16000000 in
set_option maxRecDepth 100000 in
theorem ord_fill (n : Nat) (hn : n ≤ 4) (w0 : World) (gn go gf : Nat) (hne1 : gn ≠ go) (hne3 : go ≠ gf) (hgo : w0.heap.size ≤ go) : ∀ (d : Nat) (xs : List Int) (acc : List (List Int)) (v vo : Value) (w : World) (PO : Nat → Prop),
    xs.length + d = n → acc.length + 4 ^ d ≤ 100000 → Below w0.heap.size w0 w → w.heap[gn]? = some (.cells #[.int .i64 n] 3 (0, 0)) → w.heap[go]? = some (.cells #[vo] 61 (0, 0)) → w.heap[gf]? = some (.cells #[.func (.func 58) #[] #[.pointer (some ⟨gn, 0, none⟩), .pointer (some ⟨go, 0, none⟩), .pointer (some ⟨gf, 0, none⟩)]] 87 (0, 0)) →
    OrdR w w0.heap.size v xs → (∀ k, v.ownBlock = some k → k ≠ gn ∧ k ≠ go ∧ k ≠ gf) → OrdS w w0.heap.size PO vo acc → (∀ k, PO k → some k ≠ v.ownBlock ∧ k ≠ gn ∧ k ≠ go ∧ k ≠ gf) →
    Calls Tryz.prog 58 #[v, .pointer (some ⟨gn, 0, none⟩), .pointer (some ⟨go, 0, none⟩), .pointer (some ⟨gf, 0, none⟩)] w fun e w' => ∃ vo', e = .returned (.tuple #[]) ∧ w'.heap[go]? = some (.cells #[vo'] 61 (0, 0)) ∧ OrdS w' w0.heap.size (fun k => PO k ∨ w.heap.size ≤ k) vo' (acc ++ ordL n d xs) ∧ Below w0.heap.size w0 w' ∧ Kept w w' (fun k => PO k ∨ some k = v.ownBlock ∨ k = go) ∧ OrdR w' w0.heap.size v xs
  | 0, xs, acc, v, vo, w, PO, hl, ha, hB, hbn, hbo, hbf, hv, hvg, hs, hPO => ord_full n hn w0 gn go gf hne1 hne3 hgo xs acc v vo w PO (by omega) (by simpa using ha) hB hbn hbo hv hvg hs hPO
  | d + 1, xs, acc, v, vo, w, PO, hl, ha, hB, hbn, hbo, hbf, hv, hvg, hs, hPO => by
    have IH := A_ (ord_fill n hn w0 gn go gf hne1 hne3 hgo d)
    obtain ⟨A, c, hvA, hlc, hC⟩ := hv.reads
    subst hvA
    have hvw : ∀ k, (Value.slice A xs.length c).ownBlock = some k → k < w.heap.size := fun k e => own_lt hv k e
    have HVW := A_ hvw
    have HV := A_ hv
    have HLC := A_ hlc
    have HVG := A_ hvg
    have HPO := A_ hPO
    have HB := A_ hB
    have BN := A_ hbn
    have BO := A_ hbo
    have BF := A_ hbf
    have HGO := A_ hgo
    have HA := A_ ha
    have HS := A_ (show OrdS w w0.heap.size (fun k => PO k ∨ w.heap.size ≤ k) vo (acc ++ ordP n d xs 0) from OrdS.back hs (fun k h => .inl h) (by simp [ordP]))
    have hx10 : xs.length ≤ 10 := by omega
    have HN := A_ hn
    have HL := A_ hl
    have hxn : w.cell? ⟨gn, 0, none⟩ = some (.int .i64 (n : Int)) := (blk_cell hbn 0).trans rfl
    have ex : ((xs.length : Int) == (n : Int)) = false := beq_eq_false_iff_ne.2 (by omega)
    have H1 := A_ hne1
    have H3 := A_ hne3
    have H10 := A_ hx10
    clear hv hC hlc hvg hs hPO hB hbn hbo hbf ha hn hgo hvw hl hne1 hne3 hx10
    go_enter Tryz.func58, Tryz.ntmps58
    go_wp2
    go_loopg [16] n (fun gg s16 wr => ∃ (m : Nat) (vo1 : Value), m ≤ n ∧ n - m ≤ gg ∧ s16 = .int .i64 (m : Int) ∧ Aside0 (wr.heap[go]? = some (.cells #[vo1] 61 (0, 0))) ∧ Aside0 (OrdS wr w0.heap.size (fun k => PO k ∨ w.heap.size ≤ k) vo1 (acc ++ ordP n d xs m)) ∧ Aside0 (Below w0.heap.size w0 wr) ∧ Aside0 (Kept w wr (fun k => PO k ∨ some k = (Value.slice A xs.length c).ownBlock ∨ k = go)) ∧ Aside0 (OrdR wr w0.heap.size (.slice A xs.length c) xs))
    case atStart => exact ⟨0, vo, Nat.zero_le _, by omega, rfl, BO, HS, HB, ⟨Kept.refl _ _⟩, HV⟩
    case round =>
      obtain ⟨m, vo1, hm, hgg, rfl, BO1, HS1, HB1, HK1, HV1⟩ := hrel
      by_cases hlt : m < n
      · have hltz : (m : Int) < (n : Int) := by omega
        have HC1 := A_ (OrdR.C HV1.out)
        have hm4 : (m : Int) ≤ 4 := by have := HN.out; omega
        have hm0 : (0 : Int) ≤ (m : Int) := by omega
        have hltf : gf < w.heap.size := blk_lt BF.out
        have BF1 := A_ ((HK1.out.2 gf hltf (fun h => h.elim (fun h => (HPO.out gf h).2.2.2 rfl) (fun h => h.elim (fun h => (HVG.out gf h.symm).2.2 rfl) (fun h => H3.out h.symm)))).trans BF.out)
        cases hbb : (xs.any fun y => decide (y = (m : Int))) with
        | true =>
          have HH := A_ (show Q62.f 12 xs (m : Int) = some true by rw [ord_has _ _ H10.out, hbb])
          have HHX := A_ (show ordP n d xs (m + 1) = ordP n d xs m by rw [ordP_succ, hbb, if_pos rfl, List.append_nil])
          clear hbb
          go_wp2_with (go_at_call 60; (refine (Q62.calls 12 A c xs (m : Int) true _ ?s1 HLC.out HH.out).mono ?_); (case s1 => (with_reducible repeat (first | refine Kd.C_alloc ?_ _ | refine Kd.C_drewN ?_ _ | refine Kd.C_drew ?_)); exact HC1.out); rintro e w' ⟨rfl, ⟨nd, rfl⟩⟩)
          go_roundg (n - (m + 1))
          case measure => omega
          case rel => exact ⟨m + 1, vo1, by omega, by omega, by go_num, ⟨by (with_reducible repeat (first | refine blk_drewN ?_ _ | refine blk_drew ?_ | refine blk_alloc ?_ _)); exact BO1.out⟩, ⟨OrdS.back (by unfold OrdS; (with_reducible repeat (first | apply Kd.S_alloc | apply Kd.S_drewN | apply Kd.S_drew)); exact HS1.out) (fun _ h => h) (by rw [HHX.out])⟩, ⟨(hq HB1)⟩, ⟨by (with_reducible repeat (first | apply Kept.alloc | apply Kept.drewN | apply Kept.drew)); exact HK1.out⟩, ⟨OrdR.below HV1.out (by repeat (first | (with_reducible first | exact Below.refl _ _ | apply below_alloc | apply pw_below_drewN | apply below_drew1) | exact Below.refl _ _))⟩⟩
        | false =>
          have HH := A_ (show Q62.f 12 xs (m : Int) = some false by rw [ord_has _ _ H10.out, hbb])
          have HHX := A_ (show ordP n d xs (m + 1) = ordP n d xs m ++ ordL n d (xs ++ [(m : Int)]) by rw [ordP_succ, hbb, if_neg (by simp)])
          clear hbb
          have hxf1 : wr.cell? ⟨gf, 0, none⟩ = some (.func (.func 58) #[] #[.pointer (some ⟨gn, 0, none⟩), .pointer (some ⟨go, 0, none⟩), .pointer (some ⟨gf, 0, none⟩)]) := (blk_cell BF1.out 0).trans rfl
          have hlf1 := blk_lt BF1.out
          have EG := A_ (show ∀ (args : Array Value) (w : World), (callFunc 58 args).run Tryz.prog w = .ok (.enter 58 args) w from enters_of Tryz.func58 (by kernel_rfl) rfl)
          go_wp2_with (go_at_call 60; (refine (Q62.calls 12 A c xs (m : Int) false _ ?s1 HLC.out HH.out).mono ?_); (case s1 => (with_reducible repeat (first | refine Kd.C_alloc ?_ _ | refine Kd.C_drewN ?_ _ | refine Kd.C_drew ?_)); exact HC1.out); rintro e wq ⟨rfl, hd⟩; have HQ := A_ (ord_drawn hd); have hxq : wq.cell? ⟨gf, 0, none⟩ = some (.func (.func 58) #[] #[.pointer (some ⟨gn, 0, none⟩), .pointer (some ⟨go, 0, none⟩), .pointer (some ⟨gf, 0, none⟩)]) := (blk_cell ((HQ.out.block gf (blk_lt BF1.out)).trans BF1.out) 0).trans rfl; have hlq : gf < wq.heap.size := Nat.lt_of_lt_of_le (blk_lt BF1.out) HQ.out.size; clear hd)
          go_region_law (first | ((refine ord_app w0.heap.size rfl (.tmp 24) (.tmp 26) rfl (.slice A xs.length c) xs (m : Int) wq.heap.size rfl rfl ?aN ?aV ?aS H10.out ?_); (case aN => first | exact heap_alloc_new _ _ | (refine blk_drew ?_; exact heap_alloc_new _ _) | (refine blk_drewN ?_ _; exact heap_alloc_new _ _)); (case aV => exact OrdR.below HV1.out (hq HQ)); (case aS => exact below_size (below_step HB1.out (hq HQ))); intro v1 w2 hv1 hcase; have hgrew := ord_grew (wr := wr) (hq HQ) (OrdR.below HV1.out (hq HQ)) hcase; have HV2 := A_ hv1; have HK2 := A_ hgrew.1; have HB2 := A_ (hgrew.2.1 w0 rfl (below_step HB1.out (hq HQ))); have HC2 := A_ hgrew.2.2; have BF2 := A_ ((HK2.out.2 gf (blk_lt BF1.out) (fun e => (HVG.out gf e.symm).2.2 rfl)).trans BF1.out); have hxf2 : w2.cell? ⟨gf, 0, none⟩ = some (.func (.func 58) #[] #[.pointer (some ⟨gn, 0, none⟩), .pointer (some ⟨go, 0, none⟩), .pointer (some ⟨gf, 0, none⟩)]) := (blk_cell BF2.out 0).trans rfl; have hlf2 := blk_lt BF2.out; clear hv1 hcase hgrew) | (go_simp; go_at_call 58; refine (ord_rec IH.out HL.out HN.out HA.out hlt H1.out H3.out HVG.out HVW.out HPO.out BN.out BF.out (blk_lt BO.out) BO1.out HS1.out HK1.out HV1.out HHX.out HV2.out HK2.out HB2.out HC2.out _ (by repeat (first | (with_reducible first | exact Below.refl _ _ | apply below_alloc | apply pw_below_drewN | apply below_drew1) | exact Below.refl _ _))).mono ?_; rintro e w3 ⟨vo3, rfl, ho3, hs3, hb3, hk3, hv3⟩; have BO3 := A_ ho3; have HS3 := A_ hs3; have HB3 := A_ hb3; have HK3 := A_ hk3; have HV3 := A_ hv3; clear ho3 hs3 hb3 hk3 hv3))
          all_goals (try go_wp2)
          all_goals (go_roundg (n - (m + 1)))
          all_goals (first | (case measure => omega) | skip)
          all_goals (case rel => exact ⟨m + 1, vo3, by omega, by omega, by go_num, BO3, HS3, HB3, HK3, HV3⟩)
      · have hltz : ¬ (m : Int) < (n : Int) := by omega
        obtain rfl : m = n := by omega
        go_wp2
        (first | go_end0 | ((try simp only [Exit.inBlock, Exit.then]); refine bodyPost_ret (results_none rfl _ _ _) rfl ?_))
        first | exact ⟨vo1, rfl, BO1.out, HS1.out, HB1.out, HK1.out, HV1.out⟩ | exact ⟨rfl, vo1, BO1.out, HS1.out, HB1.out, HK1.out, HV1.out⟩
def Q55.f (k : Nat) (a0 : Int) : Option (List (List Int)) := if 0 ≤ a0 ∧ a0 ≤ 4 then some (ordL a0.toNat a0.toNat []) else none
set_option maxHeartbeats 8000000 in
set_option maxRecDepth 100000 in
theorem Q55.calls (k : Nat) (a0 : Int) (r : List (List Int)) (w : World) (h : Q55.f k a0 = some r) :
    Calls Tryz.prog 32 #[.int .i64 a0] w fun e w' => ∃ v0_ : Value, e = .returned (v0_) ∧ Kd.S (Kd.slice 3 (Kd.int .i64)) 26 w' w.heap.size (fun _ => True) v0_ r ∧ Below w.heap.size w w' := by
 unfold Q55.f at h; by_cases c : 0 ≤ a0 ∧ a0 ≤ 4
 ·
  rw [if_pos c] at h; obtain ⟨n, rfl⟩ := Int.eq_ofNat_of_zero_le c.1
  have hn : n ≤ 4 := by omega
  obtain rfl := Option.some.inj h; rw [Int.toNat_natCast]; have HN := A_ hn; have hF := A_ (Tryz.func58); have HB := A_ (Below.refl w.heap.size w); clear h c hn; go_enter Tryz.func32, Tryz.ntmps32
  go_wp2_with (first | ((with_reducible refine gate_dst (N := 1) rfl ?_); refine bx (N := 1) #[.int .i64 (n : Int)] 3 ?_; intro gn hg1 w1 hbox hb; have BN := A_ hbox; have HB1 := A_ (below_step HB.out hb); have HGN := A_ (show w.heap.size ≤ gn from Nat.le_of_eq hg1.symm); clear hbox hb hg1) | ((with_reducible refine gate_dst (N := 5) rfl ?_); refine Kd.S_lit (Kd.slice 3 (Kd.int .i64)) _ 26 ?hg (N := 5) ?hd (xs := ([] : List (List Int))) (inner := []) (ok := fun k => k ≠ gn) (okp := fun _ => False) ?hr ?hp (fun _ hk => hk.elim) (by have := blk_lt BN.out; omega) (Below.refl _ _) (Nat.le_refl _) (by simp) ?_; (case hd => rfl); (case hg => rfl); (case hr => first | (go_simp; done) | (go_simp; rfl)); (case hp => exact (Reps.none _ _)); intro v5 w2 hs5 hb5 _ _; obtain ⟨A5, c5, e5⟩ := Kd.S_slice hs5; subst e5; have HS := A_ (Kd.S_lower hs5 (below_size HB1.out)); have BN2 := A_ (blk_below BN.out hb5); have HB2 := A_ (below_step HB1.out hb5); have hln := blk_lt BN2.out; have hsz : (w2.alloc (.cells #[.slice A5 0 c5] 61)).heap.size = w2.heap.size + 1 := (by simp); have hbf : ((w2.alloc (.cells #[.slice A5 0 c5] 61)).alloc (.cells #[.nilFunc] 87)).heap[w2.heap.size + 1]? = some (.cells #[.nilFunc] 87 (0, 0)) := (by first | (rw [← hsz]; done) | (rw [← hsz]; exact heap_alloc_new _ _)); have hcf : ((w2.alloc (.cells #[.slice A5 0 c5] 61)).alloc (.cells #[.nilFunc] 87)).cell? ⟨w2.heap.size + 1, 0, none⟩ = some .nilFunc := (blk_cell hbf 0).trans rfl; have hff : ((w2.alloc (.cells #[.slice A5 0 c5] 61)).alloc (.cells #[.nilFunc] 87)).frozen? ⟨w2.heap.size + 1, 0, none⟩ = false := blk_frozen hbf 0; have HBF := A_ hbf; have HBO := A_ (show ((w2.alloc (.cells #[.slice A5 0 c5] 61)).alloc (.cells #[.nilFunc] 87)).heap[w2.heap.size]? = some (.cells #[.slice A5 0 c5] 61 (0, 0)) from blk_alloc (heap_alloc_new _ _) _); clear hbf hsz; clear hs5 hb5) | ((with_reducible refine gate_store (t := 87) (p := 4) rfl ?_); refine store_event (t := 87) (p := 4) (v := .tmp 6) (w1 := ((w2.alloc (.cells #[.slice A5 0 c5] 61)).alloc (.cells #[.nilFunc] 87)).setCell ⟨w2.heap.size + 1, 0, none⟩ (.func (.func 58) #[] #[.pointer (some ⟨gn, 0, none⟩), .pointer (some ⟨w2.heap.size, 0, none⟩), .pointer (some ⟨w2.heap.size + 1, 0, none⟩)])) ?hg ?ho ?hn ?hr ?_; (case ho => rfl); (case hg => rfl); (case hn => rfl); (case hr => go_simp; rw [run_store _ _ _ _ _ rfl]; simp only [hcf, hff]; rw [if_neg (by simp)]; go_simp; done); intro w5 hw5; have BN5 := A_ (show w5.heap[gn]? = some (.cells #[.int .i64 (n : Int)] 3 (0, 0)) by rw [hw5]; exact blk_far (p := ⟨w2.heap.size + 1, 0, none⟩) (blk_alloc (blk_alloc BN2.out _) _) (show gn ≠ w2.heap.size + 1 by omega) _); have BO5 := A_ (show w5.heap[w2.heap.size]? = some (.cells #[.slice A5 0 c5] 61 (0, 0)) by rw [hw5]; exact blk_far (p := ⟨w2.heap.size + 1, 0, none⟩) HBO.out (show w2.heap.size ≠ w2.heap.size + 1 by omega) _); have BF5 := A_ (show w5.heap[w2.heap.size + 1]? = some (.cells #[.func (.func 58) #[] #[.pointer (some ⟨gn, 0, none⟩), .pointer (some ⟨w2.heap.size, 0, none⟩), .pointer (some ⟨w2.heap.size + 1, 0, none⟩)]] 87 (0, 0)) by rw [hw5]; exact blk_put HBF.out 0 _ rfl); have HB5 := A_ (show Below w.heap.size w w5 by rw [hw5]; exact below_set (below_alloc (below_alloc HB2.out _) _) (by have := below_size HB2.out; omega)); have HS5 := A_ (show OrdS w5 w.heap.size (fun k => k ≠ gn ∧ k < w2.heap.size) (.slice A5 0 c5) [] by rw [hw5]; exact Kd.S_far (p := ⟨w2.heap.size + 1, 0, none⟩) (Kd.S_alloc (Kd.S_alloc (Kd.S_mono (Kd.S_bound HS.out) (fun k hk => ⟨hk.1, hk.2.2.1⟩)) _) _) (fun k hk => show k ≠ w2.heap.size + 1 by omega) _); have hxf5 : w5.cell? ⟨w2.heap.size + 1, 0, none⟩ = some (.func (.func 58) #[] #[.pointer (some ⟨gn, 0, none⟩), .pointer (some ⟨w2.heap.size, 0, none⟩), .pointer (some ⟨w2.heap.size + 1, 0, none⟩)]) := (blk_cell BF5.out 0).trans rfl; have HGO := A_ (below_size HB2.out); have HLN := A_ hln; clear hcf hff hw5 HBF HBO HS BN2 hln) | (go_at_call 58; refine (ord_fill n HN.out w gn w2.heap.size (w2.heap.size + 1) (by have := HLN.out; omega) (by omega) HGO.out n [] [] (.slice none 0 0) (.slice A5 0 c5) w5 _ (by simp) (by have h4 : 4 ^ n ≤ 4 ^ 4 := Nat.pow_le_pow_right (by omega) HN.out; simp; omega) HB5.out BN5.out BO5.out BF5.out (World.ownsRow_nil _ _ _ _) (fun k e => by simp [Value.ownBlock] at e) HS5.out (fun k hk => ⟨by simp [Value.ownBlock], hk.1, by have := hk.2; omega, by have := hk.2; omega⟩)).mono ?_; rintro e w6 ⟨vo6, rfl, ho6, hs6, hb6, hk6, hv6⟩; have HS6 := A_ hs6; have HB6 := A_ hb6; have hxo6 : w6.cell? ⟨w2.heap.size, 0, none⟩ = some vo6 := (blk_cell ho6 0).trans rfl; clear ho6 hs6 hb6 hk6 hv6))
  go_ret
  exact ⟨vo6, rfl, Kd.S_mono HS6.out (fun _ _ => trivial), HB6.out⟩
 ·
  rw [if_neg c] at h; exact absurd h (by simp)

/-! ### impl_Road_isRun: function 43 -/
def Q38.f (k : Nat) (a0_0 : Int) (a0_1 : Bool) (a1 : Int) (a2 : Int) : Option (Bool) := (Q6.f k a0_0 a0_1 (([a1] : List Int))).bind fun t326 => (if t326 = true then ((Q30.f a2 0 a0_0).bind fun t327 => (if t327 = true then (if a0_1 = true then (some true) else (some (decide ((wrap64 (a1 + a2)) ≤ a0_0)))) else (some false))) else (some false))
set_option maxHeartbeats 8000000 in
set_option maxRecDepth 100000 in
theorem Q38.calls (k : Nat) (a0_0 : Int) (a0_1 : Bool) (a1 : Int) (a2 : Int) (r : Bool) (w : World) (h : Q38.f k a0_0 a0_1 a1 a2 = some r) :
    Calls Tryz.prog 43 #[.agg #[.int .i64 a0_0, .bool a0_1], .int .i64 a1, .int .i64 a2] w fun e w' => e = .returned (.bool r) ∧ Below w.heap.size w w' := by
 have hu25 := Tryz.underlying25; have HB := A_ (Below.refl w.heap.size w); have H : ((Q6.f k a0_0 a0_1 (([a1] : List Int))).bind fun t326 => (if t326 = true then ((Q30.f a2 0 a0_0).bind fun t327 => (if t327 = true then (if a0_1 = true then (some true) else (some (decide ((wrap64 (a1 + a2)) ≤ a0_0)))) else (some false))) else (some false))) = some r := h; clear h
 obtain ⟨y323, hy323⟩ : ∃ y_ : List Int, y_ = (([a1] : List Int)) := ⟨_, rfl⟩
 replace H : ((Q6.f k a0_0 a0_1 y323).bind fun t326 => (if t326 = true then ((Q30.f a2 0 a0_0).bind fun t327 => (if t327 = true then (if a0_1 = true then (some true) else (some (decide ((wrap64 (a1 + a2)) ≤ a0_0)))) else (some false))) else (some false))) = some r := by first | (rw [hy323]; with_reducible exact H) | (have H2_ := (Option.bind_some _ _).symm.trans H; rw [hy323]; with_reducible exact H2_) | (have H2_ := (Option.bind_some _ _).symm.trans H; with_reducible exact H2_) | with_reducible exact H | (rw [hy323]; exact H) | exact H
 have Ny323 := A_ hy323; clear hy323; replace H := bm H; obtain ⟨t326, A4, H⟩ := H; by_cases c5 : t326 = true
 ·
  subst c5
  rw [if_pos rfl] at H; replace H := bm H; obtain ⟨t327, A6, H⟩ := H; by_cases c7 : t327 = true
  ·
   subst c7
   rw [if_pos rfl] at H; by_cases c8 : a0_1 = true
   ·
    subst c8
    rw [if_pos rfl] at H; obtain rfl := Option.some.inj H; go_enter Tryz.func43, Tryz.ntmps43
    go_wp2_with (first | ((with_reducible refine gate_dst (N := 3) rfl ?_); refine bx (N := 3) #[.int .i64 a0_0, .bool true] 25 ?_; intro gb322 hg w9 hbox hb; have BK322 := A_ (hbox); have GW322 := A_ (bs hg (hq HB) : w.heap.size ≤ gb322); have GE322 := A_ (bs hg (hq HB) : w.heap.size ≤ gb322); replace HB := A_ (below_step (hq HB) hb); clear hb hbox hg; obtain ⟨hcz10_0, hcz10_1, hfz10_0, hfz10_1⟩ := zc4 BK322) | ((with_reducible refine gate_dst (N := 9) rfl ?_); refine Kd.R_lit (Kd.int .i64) _ 3 ?hg (N := 9) ?hd (xs := ([a1] : List Int)) (inner := [.int .i64 a1]) (ok := fun _ => True) (okp := fun _ => True) ?hr ?hp (fun _ hk => hk) trivial (Below.refl _ _) (Nat.le_refl _) (by simp) ?_; (case hd => rfl); (case hg => rfl); (case hr => first | (go_simp; done) | (go_simp; rfl)); (case hp => exact (Reps.one (show Kd.M (Kd.int .i64) _ _ _ a1 [.int .i64 a1] from rfl) (Reps.none _ _))); intro v324 w11 ho12 hb hg_ hnew_; clear hg_ hnew_; (first | rw [← Ny323.out] at ho12 | (simp only [Int.reduceToNat] at ho12; rw [← Ny323.out] at ho12)); have HO325 := A_ (Kd.R_lower ho12 (below_size (hq HB))); replace BK322 := A_ (blk_below (bq BK322) hb); replace HB := A_ (below_step (hq HB) hb); clear hb ho12; obtain ⟨Ao13, co13, eo13⟩ := Kd.R_slice HO325.out; subst eo13) | ((with_reducible refine gate_callee (f := 28) rfl ?_); refine gL (some 10) Tryz.func28 #[.agg #[.int .i64 a0_0, .bool true], .slice Ao13 y323.length co13] ?_; (with_reducible refine (Q6.calls k a0_0 true _ _ y323 true _ ?side1 ?side2 A4.out).mono ?_); (case side1 => exact cq (Kd.R_reads' HO325.out).2.2); (case side2 => exact (Kd.R_reads' HO325.out).2.1); rintro e w14 ⟨rfl, hb⟩; refine ⟨_, rfl, ?_⟩; replace HO325 := A_ (Kd.R_below (rq HO325) hb); replace BK322 := A_ (blk_below (bq BK322) hb); replace HB := A_ (below_step (hq HB) hb); clear hb; obtain ⟨hcz15_0, hcz15_1, hfz15_0, hfz15_1⟩ := zc4 BK322) | (go_at_call 68; (with_reducible refine (Q30.calls a2 0 a0_0 true _ A6.out).mono ?_); rintro e w' ⟨rfl, ⟨nd, rfl⟩⟩))
    go_ret
    exact ⟨rt, hq HB⟩
   ·
    replace c8 := Bool.eq_false_iff.mpr c8; subst c8
    rw [if_neg nf] at H; obtain rfl := Option.some.inj H; go_enter Tryz.func43, Tryz.ntmps43
    go_wp2_with (first | ((with_reducible refine gate_dst (N := 3) rfl ?_); refine bx (N := 3) #[.int .i64 a0_0, .bool false] 25 ?_; intro gb322 hg w16 hbox hb; have BK322 := A_ (hbox); have GW322 := A_ (bs hg (hq HB) : w.heap.size ≤ gb322); have GE322 := A_ (bs hg (hq HB) : w.heap.size ≤ gb322); replace HB := A_ (below_step (hq HB) hb); clear hb hbox hg; obtain ⟨hcz17_0, hcz17_1, hfz17_0, hfz17_1⟩ := zc4 BK322) | ((with_reducible refine gate_dst (N := 9) rfl ?_); refine Kd.R_lit (Kd.int .i64) _ 3 ?hg (N := 9) ?hd (xs := ([a1] : List Int)) (inner := [.int .i64 a1]) (ok := fun _ => True) (okp := fun _ => True) ?hr ?hp (fun _ hk => hk) trivial (Below.refl _ _) (Nat.le_refl _) (by simp) ?_; (case hd => rfl); (case hg => rfl); (case hr => first | (go_simp; done) | (go_simp; rfl)); (case hp => exact (Reps.one (show Kd.M (Kd.int .i64) _ _ _ a1 [.int .i64 a1] from rfl) (Reps.none _ _))); intro v324 w18 ho19 hb hg_ hnew_; clear hg_ hnew_; (first | rw [← Ny323.out] at ho19 | (simp only [Int.reduceToNat] at ho19; rw [← Ny323.out] at ho19)); have HO325 := A_ (Kd.R_lower ho19 (below_size (hq HB))); replace BK322 := A_ (blk_below (bq BK322) hb); replace HB := A_ (below_step (hq HB) hb); clear hb ho19; obtain ⟨Ao20, co20, eo20⟩ := Kd.R_slice HO325.out; subst eo20) | ((with_reducible refine gate_callee (f := 28) rfl ?_); refine gL (some 10) Tryz.func28 #[.agg #[.int .i64 a0_0, .bool false], .slice Ao20 y323.length co20] ?_; (with_reducible refine (Q6.calls k a0_0 false _ _ y323 true _ ?side1 ?side2 A4.out).mono ?_); (case side1 => exact cq (Kd.R_reads' HO325.out).2.2); (case side2 => exact (Kd.R_reads' HO325.out).2.1); rintro e w21 ⟨rfl, hb⟩; refine ⟨_, rfl, ?_⟩; replace HO325 := A_ (Kd.R_below (rq HO325) hb); replace BK322 := A_ (blk_below (bq BK322) hb); replace HB := A_ (below_step (hq HB) hb); clear hb; obtain ⟨hcz22_0, hcz22_1, hfz22_0, hfz22_1⟩ := zc4 BK322) | (go_at_call 68; (with_reducible refine (Q30.calls a2 0 a0_0 true _ A6.out).mono ?_); rintro e w' ⟨rfl, ⟨nd, rfl⟩⟩))
    go_ret
    exact ⟨rt, hq HB⟩
  ·
   replace c7 := Bool.eq_false_iff.mpr c7; subst c7
   rw [if_neg nf] at H; obtain rfl := Option.some.inj H; go_enter Tryz.func43, Tryz.ntmps43
   go_wp2_with (first | ((with_reducible refine gate_dst (N := 3) rfl ?_); refine bx (N := 3) #[.int .i64 a0_0, .bool a0_1] 25 ?_; intro gb322 hg w23 hbox hb; have BK322 := A_ (hbox); have GW322 := A_ (bs hg (hq HB) : w.heap.size ≤ gb322); have GE322 := A_ (bs hg (hq HB) : w.heap.size ≤ gb322); replace HB := A_ (below_step (hq HB) hb); clear hb hbox hg; obtain ⟨hcz24_0, hcz24_1, hfz24_0, hfz24_1⟩ := zc4 BK322) | ((with_reducible refine gate_dst (N := 9) rfl ?_); refine Kd.R_lit (Kd.int .i64) _ 3 ?hg (N := 9) ?hd (xs := ([a1] : List Int)) (inner := [.int .i64 a1]) (ok := fun _ => True) (okp := fun _ => True) ?hr ?hp (fun _ hk => hk) trivial (Below.refl _ _) (Nat.le_refl _) (by simp) ?_; (case hd => rfl); (case hg => rfl); (case hr => first | (go_simp; done) | (go_simp; rfl)); (case hp => exact (Reps.one (show Kd.M (Kd.int .i64) _ _ _ a1 [.int .i64 a1] from rfl) (Reps.none _ _))); intro v324 w25 ho26 hb hg_ hnew_; clear hg_ hnew_; (first | rw [← Ny323.out] at ho26 | (simp only [Int.reduceToNat] at ho26; rw [← Ny323.out] at ho26)); have HO325 := A_ (Kd.R_lower ho26 (below_size (hq HB))); replace BK322 := A_ (blk_below (bq BK322) hb); replace HB := A_ (below_step (hq HB) hb); clear hb ho26; obtain ⟨Ao27, co27, eo27⟩ := Kd.R_slice HO325.out; subst eo27) | ((with_reducible refine gate_callee (f := 28) rfl ?_); refine gL (some 10) Tryz.func28 #[.agg #[.int .i64 a0_0, .bool a0_1], .slice Ao27 y323.length co27] ?_; (with_reducible refine (Q6.calls k a0_0 a0_1 _ _ y323 true _ ?side1 ?side2 A4.out).mono ?_); (case side1 => exact cq (Kd.R_reads' HO325.out).2.2); (case side2 => exact (Kd.R_reads' HO325.out).2.1); rintro e w28 ⟨rfl, hb⟩; refine ⟨_, rfl, ?_⟩; replace HO325 := A_ (Kd.R_below (rq HO325) hb); replace BK322 := A_ (blk_below (bq BK322) hb); replace HB := A_ (below_step (hq HB) hb); clear hb; obtain ⟨hcz29_0, hcz29_1, hfz29_0, hfz29_1⟩ := zc4 BK322) | (go_at_call 68; (with_reducible refine (Q30.calls a2 0 a0_0 false _ A6.out).mono ?_); rintro e w' ⟨rfl, ⟨nd, rfl⟩⟩))
   go_ret
   exact ⟨rt, hq HB⟩
 ·
  replace c5 := Bool.eq_false_iff.mpr c5; subst c5
  rw [if_neg nf] at H; obtain rfl := Option.some.inj H; go_enter Tryz.func43, Tryz.ntmps43
  go_wp2_with (first | ((with_reducible refine gate_dst (N := 3) rfl ?_); refine bx (N := 3) #[.int .i64 a0_0, .bool a0_1] 25 ?_; intro gb322 hg w30 hbox hb; have BK322 := A_ (hbox); have GW322 := A_ (bs hg (hq HB) : w.heap.size ≤ gb322); have GE322 := A_ (bs hg (hq HB) : w.heap.size ≤ gb322); replace HB := A_ (below_step (hq HB) hb); clear hb hbox hg; obtain ⟨hcz31_0, hcz31_1, hfz31_0, hfz31_1⟩ := zc4 BK322) | ((with_reducible refine gate_dst (N := 9) rfl ?_); refine Kd.R_lit (Kd.int .i64) _ 3 ?hg (N := 9) ?hd (xs := ([a1] : List Int)) (inner := [.int .i64 a1]) (ok := fun _ => True) (okp := fun _ => True) ?hr ?hp (fun _ hk => hk) trivial (Below.refl _ _) (Nat.le_refl _) (by simp) ?_; (case hd => rfl); (case hg => rfl); (case hr => first | (go_simp; done) | (go_simp; rfl)); (case hp => exact (Reps.one (show Kd.M (Kd.int .i64) _ _ _ a1 [.int .i64 a1] from rfl) (Reps.none _ _))); intro v324 w32 ho33 hb hg_ hnew_; clear hg_ hnew_; (first | rw [← Ny323.out] at ho33 | (simp only [Int.reduceToNat] at ho33; rw [← Ny323.out] at ho33)); have HO325 := A_ (Kd.R_lower ho33 (below_size (hq HB))); replace BK322 := A_ (blk_below (bq BK322) hb); replace HB := A_ (below_step (hq HB) hb); clear hb ho33; obtain ⟨Ao34, co34, eo34⟩ := Kd.R_slice HO325.out; subst eo34) | ((with_reducible refine gate_callee (f := 28) rfl ?_); refine gL (some 10) Tryz.func28 #[.agg #[.int .i64 a0_0, .bool a0_1], .slice Ao34 y323.length co34] ?_; (with_reducible refine (Q6.calls k a0_0 a0_1 _ _ y323 false _ ?side1 ?side2 A4.out).mono ?_); (case side1 => exact cq (Kd.R_reads' HO325.out).2.2); (case side2 => exact (Kd.R_reads' HO325.out).2.1); rintro e w35 ⟨rfl, hb⟩; refine ⟨_, rfl, ?_⟩; replace HO325 := A_ (Kd.R_below (rq HO325) hb); replace BK322 := A_ (blk_below (bq BK322) hb); replace HB := A_ (below_step (hq HB) hb); clear hb))
  go_ret
  exact ⟨rt, hq HB⟩

/-! ### impl_Road_run: function 44 -/
def Q25.l0 : Nat → Int → List Int → Int → Int → Int → Bool → Option (List Int)
  | 0, _, _, _, _, _, _ => none
  | k + 1, x1, x7, x10, x11, x329000, x329001 => if x11 < x10 then (if x329000 = 0 then (none) else (if x7.length < 17592186044416 then (Q25.l0 k x1 (x7 ++ [Int.tmod (wrap64 (x1 + x11)) x329000]) x10 (wrap64 (x11 + 1)) x329000 x329001) else (none))) else (some x7)
def Q25.f (k : Nat) (a0_0 : Int) (a0_1 : Bool) (a1 : Int) (a2 : Int) : Option (List Int) := Q25.l0 k a1 (([] : List Int)) a2 0 a0_0 a0_1
set_option maxHeartbeats 8000000 in
set_option maxRecDepth 100000 in
theorem Q25.calls (k : Nat) (a0_0 : Int) (a0_1 : Bool) (a1 : Int) (a2 : Int) (r : List Int) (w : World) (h : Q25.f k a0_0 a0_1 a1 a2 = some r) :
    Calls Tryz.prog 44 #[.agg #[.int .i64 a0_0, .bool a0_1], .int .i64 a1, .int .i64 a2] w fun e w' => ∃ v0_ : Value, e = .returned (v0_) ∧ Kd.R (Kd.int .i64) 3 w' w.heap.size (fun _ => True) v0_ r ∧ Below w.heap.size w w' := by
 have hu25 := Tryz.underlying25; have HB := A_ (Below.refl w.heap.size w); have H : (Q25.l0 k a1 (([] : List Int)) a2 0 a0_0 a0_1) = some r := h; clear h
 obtain ⟨y329, hy329⟩ : ∃ y_ : List Int, y_ = (([] : List Int)) := ⟨_, rfl⟩
 replace H : (Q25.l0 k a1 y329 a2 0 a0_0 a0_1) = some r := by first | (rw [hy329]; with_reducible exact H) | (have H2_ := (Option.bind_some _ _).symm.trans H; rw [hy329]; with_reducible exact H2_) | (have H2_ := (Option.bind_some _ _).symm.trans H; with_reducible exact H2_) | with_reducible exact H | (rw [hy329]; exact H) | exact H
 have Ny329 := A_ hy329; clear hy329; have H' := A_ H; clear H; go_enter Tryz.func44, Tryz.ntmps44
 go_wp2_with (first | ((with_reducible refine gate_dst (N := 3) rfl ?_); refine bx (N := 3) #[.int .i64 a0_0, .bool a0_1] 25 ?_; intro gb328 hg w4 hbox hb; have BK328 := A_ (hbox); have GW328 := A_ (bs hg (hq HB) : w.heap.size ≤ gb328); have GE328 := A_ (bs hg (hq HB) : w.heap.size ≤ gb328); replace HB := A_ (below_step (hq HB) hb); clear hb hbox hg) | ((with_reducible refine gate_dst (N := 9) rfl ?_); refine Kd.R_lit (Kd.int .i64) _ 3 ?hg (N := 9) ?hd (xs := ([] : List Int)) (inner := []) (ok := fun _ => True) (okp := fun _ => True) ?hr ?hp (fun _ hk => hk) trivial (Below.refl _ _) (Nat.le_refl _) (by simp) ?_; (case hd => rfl); (case hg => rfl); (case hr => first | (go_simp; done) | (go_simp; rfl)); (case hp => exact (Reps.none _ _)); intro v330 w5 ho6 hb hg_ hnew_; clear hg_ hnew_; (first | rw [← Ny329.out] at ho6 | (simp only [Int.reduceToNat] at ho6; rw [← Ny329.out] at ho6)); have HO331 := A_ (Kd.R_lower ho6 (below_size (hq HB))); replace BK328 := A_ (blk_below (bq BK328) hb); replace HB := A_ (below_step (hq HB) hb); clear hb ho6))
 go_loopg [7, 11] k (fun kq v7 v11 w' => ∃ (x7_1 : List Int) (x11_1 : Int), v11 = .int .i64 x11_1 ∧ Aside0 (Q25.l0 kq a1 x7_1 a2 x11_1 a0_0 a0_1 = some r) ∧ Aside0 (kq ≤ k) ∧ Aside0 (Kd.R (Kd.int .i64) 3 w' w.heap.size (fun _ => True) v7 x7_1) ∧ Aside0 (w'.heap[gb328]? = some (.cells #[.int .i64 a0_0, .bool a0_1] 25 (0, 0))) ∧ Aside0 (Below w.heap.size w w'))
 case atStart => exact ⟨(y329), (0), rf, H', ⟨Nat.le_refl _⟩, ⟨rq HO331⟩, ⟨bq BK328⟩, ⟨hq HB⟩⟩
 case round =>
  clear H'; obtain ⟨x7_1, x11_1, rfl, HA, HK1, HO_7, BK328, HB⟩ := hrel
  cases gk with
  | zero => exact absurd HA.out (by simp [Q25.l0])
  | succ k1 =>
   have H := HA.out; clear HA; simp only [Q25.l0] at H
   by_cases c7 : x11_1 < a2
   ·
    rw [if_pos c7] at H; have c7b0 := decide_eq_true c7; clear c7; by_cases c8 : a0_0 = 0
    ·
     rw [if_pos c8] at H; exact absurd H (by simp)
    ·
     rw [if_neg c8] at H; have c8b0 : (a0_0 == 0) = false := beq_eq_false_iff_ne.mpr c8; have c8b1 : (a0_0 != 0) = true := bne_iff_ne.mpr c8; by_cases c9 : x7_1.length < 17592186044416
     ·
      rw [if_pos c9] at H; have LMc9 := A_ c9; clear c9
      obtain ⟨y332, hy332⟩ : ∃ y_ : List Int, y_ = (x7_1 ++ [Int.tmod (wrap64 (a1 + x11_1)) a0_0]) := ⟨_, rfl⟩
      replace H : (Q25.l0 k1 a1 y332 a2 (wrap64 (x11_1 + 1)) a0_0 a0_1) = some r := by first | (rw [hy332]; with_reducible exact H) | (have H2_ := (Option.bind_some _ _).symm.trans H; rw [hy332]; with_reducible exact H2_) | (have H2_ := (Option.bind_some _ _).symm.trans H; with_reducible exact H2_) | with_reducible exact H | (rw [hy332]; exact H) | exact H
      have Ny332 := A_ hy332; clear hy332; have H' := A_ H; clear H; obtain ⟨hcz10_0, hcz10_1, hfz10_0, hfz10_1⟩ := zc4 BK328; go_wp2_with (first | ((with_reducible refine gate_builtin (b := .append) (xs := #[.tmp 14, .tmp 21]) rfl ?_); at_builtin; refine Kd.R_append (Kd.int .i64) (w0 := w) w.heap.size rfl (.tmp 14) (.tmp 21) 26 3 (.int .i64 0) 8 rfl Tryz.underlying26 info3 rfl (by decide) (by omega) u7 x7_1 (Int.tmod (wrap64 (a1 + x11_1)) a0_0) [.int .i64 (Int.tmod (wrap64 (a1 + x11_1)) a0_0)] (fun _ => True) (fun _ => False) rfl rfl ?aP (fun _ hk => hk.elim) ?aF ?aO ?aB ?aS ?aL ?_; (case aP => exact rfl); (case aB => exact (hq HB)); (case aF => exact (fun _ _ => trivial)); (case aO => exact (rq HO_7)); (case aS => exact (below_size (hq HB))); (case aL => have := LMc9.out; omega); intro v333 w11 ho hb hg hat; rw [← Ny332.out] at ho; have n0_ := A_ (blk_grown (g := gb328) (o := .cells #[.int .i64 a0_0, .bool a0_1] 25 (0, 0)) (bq BK328) hg (Kd.R_ne HO_7.out BK328.out (by decide))); have n1_ := A_ (hb); have n2_ := A_ (ho); clear BK328; clear HB; clear HO_7; have BK328 := n0_; have HB := n1_; have HO334 := n2_; clear n0_ n1_ n2_; clear ho hb hg hat))
      go_roundg k1
      case measure => have := HK1.out; omega
      case rel => exact ⟨(y332), (wrap64 (x11_1 + 1)), rf, H', ⟨by have := HK1.out; omega⟩, ⟨rq HO334⟩, ⟨bq BK328⟩, ⟨hq HB⟩⟩
     ·
      rw [if_neg c9] at H; exact absurd H (by simp)
   ·
    rw [if_neg c7] at H; have c7b0 := decide_eq_false c7; clear c7; obtain rfl := Option.some.inj H; go_wp2
    go_ret
    exact ⟨_, rt, rq HO_7, hq HB⟩

/-! ### slices.Sort at ints, by the contract that is laid from the shelf -/
def sortI (l : List Int) : List Int := l.mergeSort fun x y => decide (x ≤ y)
def Q45.f (k : Nat) (l0 : List Int) : Option (List Int) := if l0.length ≤ 1048576 then some (sortI l0) else none
theorem Q45.calls (k : Nat) (P0_ : Nat → Prop) (u9000_ : Value) (l0 : List Int) (r : List Int) (w0 w : World) (hB : Below w0.heap.size w0 w) (ho0 : Kd.R (Kd.int .i64) 3 w w0.heap.size P0_ u9000_ l0) (h : Q45.f k l0 = some r) :
    Calls Tryz.prog 56 #[u9000_] w fun e w' => e = .returned (.tuple #[]) ∧ Kd.R (Kd.int .i64) 3 w' w0.heap.size (fun k_ => (P0_ k_ ∨ w.heap.size ≤ k_)) u9000_ r ∧ Below w0.heap.size w0 w' ∧ Kept w w' (fun k_ => P0_ k_) := by
 unfold Q45.f at h; by_cases c : l0.length ≤ 1048576
 ·
  rw [if_pos c] at h; obtain rfl := Option.some.inj h; have hs : (sortI l0).length = l0.length := List.length_mergeSort _; have hsz : w0.heap.size ≤ w.heap.size := hB.size; by_cases h0 : l0.length = 0
  ·
   have hl : l0 = [] := List.eq_nil_of_length_eq_zero h0; subst hl; obtain ⟨A, c1, rfl⟩ := Kd.R_slice ho0; refine (Go.Proofs.YtjhppcpjobofbabGreat.Shelf.slices_Sort_int_none A c1 w).mono ?_; rintro e w' ⟨rfl, rfl⟩; rw [show sortI [] = [] by unfold sortI; simp]; exact ⟨rfl, Kd.R_mono ho0 (fun _ hk => .inl hk), hB, Kept.refl _ _⟩
  ·
   have ho := Kd.own_of_R ho0
   rcases ho.2 with ⟨_, hz⟩ | ⟨g, cap, cur, rfl, hg, hh, hn, hm, hc, ht⟩
   ·
    exact absurd hz h0
   ·
    have hlt : g < w.heap.size := (Array.getElem?_eq_some_iff.1 hh).1; refine (Go.Proofs.YtjhppcpjobofbabGreat.Shelf.slices_Sort_int g 0 cap l0 w (holds_of_blockI hh (by simpa [encs] using ht)) hlt (by omega)).mono ?_; rintro e w' ⟨rfl, n, os, rfl⟩; have hgr := grownBy_sortedI (w := w) (g := g) (n := n) (os := os) (sortI l0).toArray; have hown := ownsRow_sortedI (n := n) (os := os) (ts := sortI l0) hs hg hh hn hm hc; refine ⟨rfl, Kd.R_of_own ?_ (fun k_ hk => .inl (ho0.1 k_ hk)), hB.grown hgr hsz (fun k_ e_ => by injection e_ with e_; omega), Kept.of_grown hgr (Kept.refl _ _) (fun k_ e_ => .inl (ho0.1 k_ (by injection e_ with e_; subst e_; rfl)))⟩; rw [hs]; exact hown
 ·
  rw [if_neg c] at h; exact absurd h (by simp)

-- NOT PRINTED: function 72 (impl_mapped)

-- NOT PRINTED: function 87 (slices_IndexFunc_int_int)

-- NOT PRINTED: function 74 (slices_DeleteFunc_int_int)

/-! ### impl_Road_tour_3: function 76 -/
def Q23.f (a0 : Int) (a1 : Int) : Option (Int) := some (wrap64 ((wrap64 (a0 + a1)) + (mn a0 a1)))
set_option maxHeartbeats 8000000 in
set_option maxRecDepth 100000 in
theorem Q23.calls (a0 : Int) (a1 : Int) (r : Int) (w : World) (h : Q23.f a0 a1 = some r) :
    Calls Tryz.prog 76 #[.int .i64 a0, .int .i64 a1] w fun e w' => e = .returned (.int .i64 r) ∧ Below w.heap.size w w' := by
 have HB := A_ (Below.refl w.heap.size w); have H : (some (wrap64 ((wrap64 (a0 + a1)) + (mn a0 a1)))) = some r := h; clear h
 obtain ⟨ji3, hji3⟩ : ∃ j_ : Int, (mn a0 a1) = j_ := ⟨_, rfl⟩
 replace H : (some (wrap64 ((wrap64 (a0 + a1)) + (ji3)))) = some r := by first | (rw [hji3] at H; exact H) | (simp only [hji3] at H ⊢; exact H)
 have hji3_ : (if a1 < a0 then a1 else a0) = ji3 := hji3; obtain rfl := Option.some.inj H; go_enter Tryz.func76, Tryz.ntmps76
 go_wp2
 go_ret
 exact ⟨by first | rfl | (simp [errW_none, errW_some] <;> rfl) | (simp only [← hji3]; first | rfl | (simp [errW_none, errW_some] <;> rfl)) | (simp [*, errW_none, errW_some] <;> rfl), hq HB⟩

/-! ### impl_Road_tour_1: function 73 -/
def Q79.f (a0 : Int) (a1_0 : Int) (a1_1 : Bool) (a2_0 : Int) : Option (Int) := if a1_1 = true then (if a1_0 = 0 then (none) else (some (Int.tmod (wrap64 ((wrap64 (a0 - a2_0)) + a1_0)) a1_0))) else (some (wrap64 (a0 - a2_0)))
set_option maxHeartbeats 8000000 in
set_option maxRecDepth 100000 in
theorem Q79.calls (a0 : Int) (gc1 : Nat) (a1_0 : Int) (a1_1 : Bool) (gc2 : Nat) (a2_0 : Int) (r : Int) (w : World) (hb1 : w.heap[gc1]? = some (.cells #[.int .i64 a1_0, .bool a1_1] 25 (0, 0))) (hb2 : w.heap[gc2]? = some (.cells #[.int .i64 a2_0] 3 (0, 0))) (h : Q79.f a0 a1_0 a1_1 a2_0 = some r) :
    Calls Tryz.prog 73 #[.int .i64 a0, .pointer (some ⟨gc1, 0, none⟩), .pointer (some ⟨gc2, 0, none⟩)] w fun e w' => e = .returned (.int .i64 r) ∧ Drawn0 w w' := by
 have BK1 := A_ hb1; clear hb1; have BK2 := A_ hb2; clear hb2; have H : (if a1_1 = true then (if a1_0 = 0 then (none) else (some (Int.tmod (wrap64 ((wrap64 (a0 - a2_0)) + a1_0)) a1_0))) else (some (wrap64 (a0 - a2_0)))) = some r := h; clear h; by_cases c4 : a1_1 = true
 ·
  subst c4
  rw [if_pos rfl] at H; by_cases c5 : a1_0 = 0
  ·
   rw [if_pos c5] at H; exact absurd H (by simp)
  ·
   rw [if_neg c5] at H; have c5b0 : (a1_0 == 0) = false := beq_eq_false_iff_ne.mpr c5; have c5b1 : (a1_0 != 0) = true := bne_iff_ne.mpr c5; obtain rfl := Option.some.inj H; obtain ⟨hcz6_0, hcz6_1, hfz6_0, hfz6_1⟩ := zc4 BK1; have hcz7_0 : w.cell? ⟨gc2, 0, none⟩ = some (.int .i64 a2_0) := bc BK2 0; have hfz7_0 := blk_frozen BK2.out 0; go_enter Tryz.func73, Tryz.ntmps73
   go_wp2
   go_ret
   exact ⟨rf, by repeat (first | exact Drawn0.refl _ | apply Drawn0.step)⟩
 ·
  replace c4 := Bool.eq_false_iff.mpr c4; subst c4
  rw [if_neg nf] at H; obtain rfl := Option.some.inj H; obtain ⟨hcz8_0, hcz8_1, hfz8_0, hfz8_1⟩ := zc4 BK1; have hcz9_0 : w.cell? ⟨gc2, 0, none⟩ = some (.int .i64 a2_0) := bc BK2 0; have hfz9_0 := blk_frozen BK2.out 0; go_enter Tryz.func73, Tryz.ntmps73
  go_wp2
  go_ret
  exact ⟨rf, by repeat (first | exact Drawn0.refl _ | apply Drawn0.step)⟩

/-! ### impl_mapped__Road_tour_1: function 72 -/
def Q40.l0 : Nat → List Int → List Int → Int → Int → Int → Bool → Int → Option (List Int)
  | 0, _, _, _, _, _, _, _ => none
  | k + 1, x5, x9, x10, x11, x2000, x2001, x3000 => if x11 < x10 then (if 0 ≤ x11 then (if x11 < (x9.length : Int) then ((Q79.f (rd x9 x11) x2000 x2001 x3000).bind fun t339 => (if x5.length < 17592186044416 then (Q40.l0 k (x5 ++ [t339]) x9 x10 (wrap64 (x11 + 1)) x2000 x2001 x3000) else (none))) else (none)) else (none)) else (some x5)
def Q40.f (k : Nat) (l0 : List Int) (a1_0 : Int) (a1_1 : Bool) (a2_0 : Int) : Option (List Int) := Q40.l0 k (([] : List Int)) l0 (l0.length : Int) 0 a1_0 a1_1 a2_0
set_option maxHeartbeats 8000000 in
set_option maxRecDepth 100000 in
theorem Q40.calls (k : Nat) (A0 : Option Addr) (c0 : Nat) (l0 : List Int) (gc1 : Nat) (a1_0 : Int) (a1_1 : Bool) (gc2 : Nat) (a2_0 : Int) (r : List Int) (w : World) (hb1 : w.heap[gc1]? = some (.cells #[.int .i64 a1_0, .bool a1_1] 25 (0, 0))) (hb2 : w.heap[gc2]? = some (.cells #[.int .i64 a2_0] 3 (0, 0))) (hr0 : Kd.C (Kd.int .i64) w A0 l0.length l0) (hc0 : l0.length ≤ c0) (h : Q40.f k l0 a1_0 a1_1 a2_0 = some r) :
    Calls Tryz.prog 72 #[.slice A0 l0.length c0, .func (.func 73) #[] #[.pointer (some ⟨gc1, 0, none⟩), .pointer (some ⟨gc2, 0, none⟩)]] w fun e w' => ∃ v0_ : Value, e = .returned (v0_) ∧ Kd.R (Kd.int .i64) 3 w' w.heap.size (fun _ => True) v0_ r ∧ Below w.heap.size w w' := by
 have HR0 := A_ hr0; have HC0 := A_ hc0; clear hr0 hc0; have BK1 := A_ hb1; clear hb1; have BK2 := A_ hb2; clear hb2; have HB := A_ (Below.refl w.heap.size w); have H : (Q40.l0 k (([] : List Int)) l0 (l0.length : Int) 0 a1_0 a1_1 a2_0) = some r := h; clear h
 obtain ⟨y335, hy335⟩ : ∃ y_ : List Int, y_ = (([] : List Int)) := ⟨_, rfl⟩
 replace H : (Q40.l0 k y335 l0 (l0.length : Int) 0 a1_0 a1_1 a2_0) = some r := by first | (rw [hy335]; with_reducible exact H) | (have H2_ := (Option.bind_some _ _).symm.trans H; rw [hy335]; with_reducible exact H2_) | (have H2_ := (Option.bind_some _ _).symm.trans H; with_reducible exact H2_) | with_reducible exact H | (rw [hy335]; exact H) | exact H
 have Ny335 := A_ hy335; clear hy335; have H' := A_ H; clear H; go_enter Tryz.func72, Tryz.ntmps72
 go_wp2_with (first | ((with_reducible refine gate_dst (N := 8) rfl ?_); refine Kd.R_lit (Kd.int .i64) _ 3 ?hg (N := 8) ?hd (xs := ([] : List Int)) (inner := []) (ok := fun _ => True) (okp := fun _ => True) ?hr ?hp (fun _ hk => hk) trivial (Below.refl _ _) (Nat.le_refl _) (by simp) ?_; (case hd => rfl); (case hg => rfl); (case hr => first | (go_simp; done) | (go_simp; rfl)); (case hp => exact (Reps.none _ _)); intro v336 w4 ho5 hb hg_ hnew_; clear hg_ hnew_; (first | rw [← Ny335.out] at ho5 | (simp only [Int.reduceToNat] at ho5; rw [← Ny335.out] at ho5)); have HO337 := A_ (Kd.R_lower (Kd.R_newB ho5 (g := gc2) (o := .cells #[.int .i64 a2_0] 3 (0, 0)) (bq BK2)) (below_size (hq HB))); replace BK1 := A_ (blk_below (bq BK1) hb); replace BK2 := A_ (blk_below (bq BK2) hb); replace HB := A_ (below_step (hq HB) hb); clear hb ho5))
 go_loopg [5, 11] k (fun kq v5 v11 w' => ∃ (x5_1 : List Int) (x11_1 : Int), v11 = .int .i64 x11_1 ∧ Aside0 (Q40.l0 kq x5_1 l0 (l0.length : Int) x11_1 a1_0 a1_1 a2_0 = some r) ∧ Aside0 (kq ≤ k) ∧ Aside0 (Kd.R (Kd.int .i64) 3 w' w.heap.size (fun k_ => k_ ≠ gc2) v5 x5_1) ∧ Aside0 (w'.heap[gc1]? = some (.cells #[.int .i64 a1_0, .bool a1_1] 25 (0, 0))) ∧ Aside0 (w'.heap[gc2]? = some (.cells #[.int .i64 a2_0] 3 (0, 0))) ∧ Aside0 (Below w.heap.size w w'))
 case atStart => exact ⟨(y335), (0), rf, H', ⟨Nat.le_refl _⟩, ⟨by (with_reducible repeat (first | apply Kd.R_alloc | apply Kd.R_drewN | apply Kd.R_drew)); exact Kd.R_mono HO337.out (fun _ hk => hk.2)⟩, ⟨bq BK1⟩, ⟨bq BK2⟩, ⟨hq HB⟩⟩
 case round =>
  clear H'; obtain ⟨x5_1, x11_1, rfl, HA, HK1, HO_5, BK1, BK2, HB⟩ := hrel
  cases gk with
  | zero => exact absurd HA.out (by simp [Q40.l0])
  | succ k1 =>
   have H := HA.out; clear HA; simp only [Q40.l0] at H
   by_cases c6 : x11_1 < (l0.length : Int)
   ·
    rw [if_pos c6] at H; have c6b0 := decide_eq_true c6; clear c6; by_cases c7 : 0 ≤ x11_1
    ·
     rw [if_pos c7] at H; have c7b0 := decide_eq_true c7; clear c7; by_cases c8 : x11_1 < (l0.length : Int)
     ·
      rw [if_pos c8] at H; have c8b0 := decide_eq_true c8; clear c8; replace H := bm H; obtain ⟨t339, A9, H⟩ := H; by_cases c10 : x5_1.length < 17592186044416
      ·
       rw [if_pos c10] at H; have LMc10 := A_ c10; clear c10
       obtain ⟨y340, hy340⟩ : ∃ y_ : List Int, y_ = (x5_1 ++ [t339]) := ⟨_, rfl⟩
       replace H : (Q40.l0 k1 y340 l0 (l0.length : Int) (wrap64 (x11_1 + 1)) a1_0 a1_1 a2_0) = some r := by first | (rw [hy340]; with_reducible exact H) | (have H2_ := (Option.bind_some _ _).symm.trans H; rw [hy340]; with_reducible exact H2_) | (have H2_ := (Option.bind_some _ _).symm.trans H; with_reducible exact H2_) | with_reducible exact H | (rw [hy340]; exact H) | exact H
       have Ny340 := A_ hy340; clear hy340; have H' := A_ H; clear H; have p338 : 0 ≤ (x11_1 : Int) := dq; have q338 : x11_1 < (l0.length : Int) := dq; obtain ⟨ad338, e338, hx338_0⟩ := Kd.at_int HR0.out x11_1 p338 q338
       cases e338
       replace hx338_0 := (HB.out.cell (World.block_lt_of_cell? w _ hx338_0)).trans hx338_0; replace p338 := eq_true p338; replace q338 := eq_true q338; go_wp2_with (first | (go_at_call 73; (with_reducible refine (Q79.calls (rd l0 x11_1) gc1 a1_0 a1_1 gc2 a2_0 t339 _ ?side1 ?side2 A9.out).mono ?_); (case side1 => (with_reducible repeat (first | refine blk_drewN ?_ _ | refine blk_drew ?_ | refine blk_alloc ?_ _)); exact BK1.out); (case side2 => (with_reducible repeat (first | refine blk_drewN ?_ _ | refine blk_drew ?_ | refine blk_alloc ?_ _)); exact BK2.out); rintro e w' ⟨rfl, ⟨nd, rfl⟩⟩) | ((with_reducible refine gate_builtin (b := .append) (xs := #[.tmp 15, .tmp 19]) rfl ?_); at_builtin; refine Kd.R_append (Kd.int .i64) (w0 := w) w.heap.size rfl (.tmp 15) (.tmp 19) 26 3 (.int .i64 0) 8 rfl Tryz.underlying26 info3 rfl (by decide) (by omega) u5 x5_1 t339 [.int .i64 t339] (fun k_ => k_ ≠ gc2) (fun _ => False) rfl rfl ?aP (fun _ hk => hk.elim) ?aF ?aO ?aB ?aS ?aL ?_; (case aP => exact rfl); (case aB => exact (hq HB)); (case aF => exact (fun k_ hk => Kd.freshB (g := gc2) (o := .cells #[.int .i64 a2_0] 3 (0, 0)) (bq BK2) k_ hk)); (case aO => exact (rq HO_5)); (case aS => exact (below_size (hq HB))); (case aL => have := LMc10.out; omega); intro v341 w11 ho hb hg hat; rw [← Ny340.out] at ho; have n0_ := A_ (blk_grown (g := gc1) (o := .cells #[.int .i64 a1_0, .bool a1_1] 25 (0, 0)) (bq BK1) hg (Kd.R_ne HO_5.out BK1.out (by decide))); have n1_ := A_ (blk_grown (g := gc2) (o := .cells #[.int .i64 a2_0] 3 (0, 0)) (bq BK2) hg (Kd.R_away HO_5.out (fun _ hk => hk))); have n2_ := A_ (hb); have n3_ := A_ (ho); clear BK1; clear BK2; clear HB; clear HO_5; have BK1 := n0_; have BK2 := n1_; have HB := n2_; have HO342 := n3_; clear n0_ n1_ n2_ n3_; clear ho hb hg hat))
       go_roundg k1
       case measure => have := HK1.out; omega
       case rel => exact ⟨(y340), (wrap64 (x11_1 + 1)), rf, H', ⟨by have := HK1.out; omega⟩, ⟨rq HO342⟩, ⟨bq BK1⟩, ⟨bq BK2⟩, ⟨hq HB⟩⟩
      ·
       rw [if_neg c10] at H; exact absurd H (by simp)
     ·
      rw [if_neg c8] at H; exact absurd H (by simp)
    ·
     rw [if_neg c7] at H; exact absurd H (by simp)
   ·
    rw [if_neg c6] at H; have c6b0 := decide_eq_false c6; clear c6; obtain rfl := Option.some.inj H; go_wp2
    go_ret
    exact ⟨_, rt, by (with_reducible repeat (first | apply Kd.R_alloc | apply Kd.R_drewN | apply Kd.R_drew)); exact Kd.R_mono HO_5.out (fun _ hk => trivial), hq HB⟩

/-! ### impl_Road_tour_2: function 75 -/
def Q68.f (a0 : Int) : Option (Bool) := some (a0 == 0)
set_option maxHeartbeats 8000000 in
set_option maxRecDepth 100000 in
theorem Q68.calls (a0 : Int) (r : Bool) (w : World) (h : Q68.f a0 = some r) :
    Calls Tryz.prog 75 #[.int .i64 a0] w fun e w' => e = .returned (.bool r) ∧ Drawn0 w w' := by
 have H : (some (a0 == 0)) = some r := h; clear h; obtain rfl := Option.some.inj H; go_enter Tryz.func75, Tryz.ntmps75
 go_wp2
 go_ret
 exact ⟨rf, by repeat (first | exact Drawn0.refl _ | apply Drawn0.step)⟩

end Go.Proofs.YtjhppcpjobofbabGreat.PFnRuns
