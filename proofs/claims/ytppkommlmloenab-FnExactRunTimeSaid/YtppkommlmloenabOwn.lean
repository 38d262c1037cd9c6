/- Rows of the call's own that lie in blocks from lo on and below hi: plain lemmas over any program. No conditions. -/
import Derived.Test.YtppkommlmloenabWMore
namespace Go.Proofs.Ytppkommlmloenab.Own
open Go.RowKit Go.Proofs.YtppkommlmloenabW.PrintWords
/-! ### What the walks show again and again, each told once: the last argument is found where it is used. -/
theorem A_ {p : Prop} (h : p) : Aside0 p := ⟨h⟩
theorem bq {A B : Prop} (h : Aside0 A) (f : A → B := by intro h_; (with_reducible repeat (first | refine blk_drewN ?_ _ | refine blk_drew ?_ | refine blk_alloc ?_ _)); exact h_) : B := f h.out
theorem hq {A B : Prop} (h : Aside0 A) (f : A → B := by intro h_; repeat (first | (with_reducible first | exact h_ | apply below_alloc | apply pw_below_drewN | apply below_drew1 | refine below_set ?_ (Aside0.out (by assumption))) | exact h_)) : B := f h.out
theorem rq {A B : Prop} (h : Aside0 A) (f : A → B := by intro h_; (with_reducible repeat (first | apply Kd.R_alloc | apply Kd.R_drewN | apply Kd.R_drew)); exact h_) : B := f h.out
theorem sq {A B : Prop} (h : Aside0 A) (f : A → B := by intro h_; (with_reducible repeat (first | apply Kd.S_alloc | apply Kd.S_drewN | apply Kd.S_drew)); exact h_) : B := f h.out
theorem nq {A B : Prop} (h : Aside0 A) (f : A → B := by intro h_; (with_reducible repeat (first | apply Kd.N_alloc | apply Kd.N_drewN | apply Kd.N_drew)); exact h_) : B := f h.out
theorem vq {A B : Prop} (h : Aside0 A) (f : A → B := by intro h_; (with_reducible repeat (first | apply Kd.V_alloc | apply Kd.V_drewN | apply Kd.V_drew)); exact h_) : B := f h.out
theorem bp {A B : Prop} (h : A) (f : A → B := by intro h_; (with_reducible repeat (first | refine blk_drewN ?_ _ | refine blk_drew ?_ | refine blk_alloc ?_ _)); exact h_) : B := f h
theorem bc {W : World} {g : Nat} {t : TypeId} {cs : Array Value} {v : Value} (h : Aside0 (W.heap[g]? = some (.cells cs t (0, 0)))) (i : Nat) (e : cs[i]? = some v := by rfl) : W.cell? ⟨g, i, none⟩ = some v := (blk_cell h.out i).trans e
theorem gq {p : Prop} (h : p := by (try simp only [List.map_toArray, List.map_cons, List.map_nil]); first | done | rfl | (simp only [List.length_drop, List.length_take]; rfl)) : p := h
theorem cq {A B : Prop} (h : A) (f : A → B := by intro h_; repeat (first | exact h_ | (with_reducible refine Kd.C_alloc ?_ _) | (with_reducible refine Kd.C_drewN ?_ _) | (with_reducible refine Kd.C_drew ?_))) : B := f h
theorem rt {p : Prop} (h : p := by first | rfl | (simp [errW_none, errW_some] <;> rfl) | (simp [*, errW_none, errW_some] <;> rfl)) : p := h
theorem pq {a : Act} {d : Option Tmp} {v : Value} {a' : Act} (h : Act.put a d v = a' := by simp only [Act.put, List.setIfInBounds_toArray, List.set_cons_zero, List.set_cons_succ, i64_w, i32_w]; rfl) : Act.put a d v = a' := h
theorem cj {A B : Prop} (f : A → B := by intro hk; repeat' (first | exact hk.1 | exact hk.2 | exact hk.1.1 | exact hk.1.2 | exact hk.2.1 | exact hk.2.2 | exact hk.1.1.1 | exact hk.1.1.2 | exact hk.1.2.1 | exact hk.1.2.2 | exact hk.2.1.1 | exact hk.2.1.2 | exact hk.2.2.1 | exact hk.2.2.2 | exact hk.1.1.1.1 | exact hk.1.1.1.2 | exact hk.1.1.2.1 | exact hk.1.1.2.2 | exact hk.1.2.1.1 | exact hk.1.2.1.2 | exact hk.1.2.2.1 | exact hk.1.2.2.2 | exact hk.2.1.1.1 | exact hk.2.1.1.2 | exact hk.2.1.2.1 | exact hk.2.1.2.2 | exact hk.2.2.1.1 | exact hk.2.2.1.2 | exact hk.2.2.2.1 | exact hk.2.2.2.2 | refine ⟨?_, ?_⟩)) : A → B := f
section
variable {α : Type} {d : Kd α} {e lo hi : Nat} {w w1 W : World} {v : Value} {xs : List α} {A : Option Addr} {n c : Nat} {P : Nat → Prop}

def OwnR (d : Kd α) (e : Nat) (w : World) (lo hi : Nat) (v : Value) (xs : List α) : Prop := Kd.R d e w lo (fun k => k < hi) v xs ∧ hi ≤ w.heap.size
def OwnS (d : Kd α) (e : Nat) (w : World) (lo hi : Nat) (v : Value) (xs : List α) : Prop := Kd.S d e w lo (fun k => k < hi) v xs ∧ hi ≤ w.heap.size

theorem OwnR.mk' (h : Kd.R d e w1 W.heap.size (fun _ => True) v xs) : ∃ lo hi, W.heap.size ≤ lo ∧ OwnR d e w1 lo hi v xs :=
  ⟨W.heap.size, w1.heap.size, Nat.le_refl _, Kd.R_mono (Kd.R_bound h) (fun _ hk => hk.2.2.1), Nat.le_refl _⟩
theorem OwnS.mk' (h : Kd.S d e w1 W.heap.size (fun _ => True) v xs) : ∃ lo hi, W.heap.size ≤ lo ∧ OwnS d e w1 lo hi v xs :=
  ⟨W.heap.size, w1.heap.size, Nat.le_refl _, Kd.S_mono (Kd.S_bound h) (fun _ hk => hk.2.2.1), Nat.le_refl _⟩
theorem OwnR.below (h : OwnR d e w lo hi v xs) (hb : Below w.heap.size w w1) : OwnR d e w1 lo hi v xs := ⟨Kd.R_below h.1 hb, Nat.le_trans h.2 hb.size⟩
theorem OwnS.below (h : OwnS d e w lo hi v xs) (hb : Below w.heap.size w w1) : OwnS d e w1 lo hi v xs := ⟨Kd.S_below h.1 hb, Nat.le_trans h.2 hb.size⟩
theorem OwnR.drewN (h : OwnR d e w lo hi v xs) (m : Nat) : OwnR d e (w.drewN m) lo hi v xs := h.below (pw_below_drewN (Below.refl _ _) m)
theorem OwnS.drewN (h : OwnS d e w lo hi v xs) (m : Nat) : OwnS d e (w.drewN m) lo hi v xs := h.below (pw_below_drewN (Below.refl _ _) m)
theorem OwnR.kept (h : OwnR d e w lo hi v xs) (hk : Kept w w1 P) (hp : ∀ k, lo ≤ k → k < hi → ¬ P k) : OwnR d e w1 lo hi v xs :=
  ⟨Kd.R_mono (Kd.R_kept (Kd.R_bound h.1) hk (fun k hk => hp k hk.2.1 hk.1)) (fun _ hk => hk.1), Nat.le_trans h.2 hk.1⟩
theorem OwnS.kept (h : OwnS d e w lo hi v xs) (hk : Kept w w1 P) (hp : ∀ k, lo ≤ k → k < hi → ¬ P k) : OwnS d e w1 lo hi v xs :=
  ⟨Kd.S_mono (Kd.S_kept (Kd.S_bound h.1) hk (fun k hk => hp k hk.2.1 hk.1)) (fun _ hk => hk.1), Nat.le_trans h.2 hk.1⟩
theorem OwnR.slice (h : OwnR d e w lo hi v xs) : ∃ A c, v = .slice A xs.length c := Kd.R_slice h.1
theorem OwnS.slice (h : OwnS d e w lo hi v xs) : ∃ A c, v = .slice A xs.length c := Kd.S_slice h.1
theorem OwnR.reads (h : OwnR d e w lo hi (.slice A n c) xs) : n = xs.length ∧ n ≤ c ∧ d.C w A xs.length xs := Kd.R_reads' h.1
theorem OwnS.reads (h : OwnS d e w lo hi (.slice A n c) xs) : n = xs.length ∧ n ≤ c ∧ d.C w A xs.length xs := Kd.S_reads' h.1
theorem OwnR.lend {b : Nat} (h : OwnR d e w lo hi v xs) (hb : b ≤ lo) : Kd.R d e w b (fun k => lo ≤ k ∧ k < hi) v xs := Kd.R_lower (Kd.R_mono (Kd.R_bound h.1) (fun _ hk => ⟨hk.2.1, hk.1⟩)) hb
theorem OwnS.lend {b : Nat} (h : OwnS d e w lo hi v xs) (hb : b ≤ lo) : Kd.S d e w b (fun k => lo ≤ k ∧ k < hi) v xs := Kd.S_lower (Kd.S_mono (Kd.S_bound h.1) (fun _ hk => ⟨hk.2.1, hk.1⟩)) hb
/-- What was marked: it lies before w1's end. -/
theorem OwnR.marked {b : Nat} (h : Kd.R d e w b P v xs) : OwnR d e w b w.heap.size v xs := ⟨Kd.R_mono (Kd.R_bound h) (fun _ hk => hk.2.2.1), Nat.le_refl _⟩
theorem OwnS.marked {b : Nat} (h : Kd.S d e w b P v xs) : OwnS d e w b w.heap.size v xs := ⟨Kd.S_mono (Kd.S_bound h) (fun _ hk => hk.2.2.1), Nat.le_refl _⟩
end
/-! ### A literal of elements that lead to what came in: it is only read. -/
theorem V_lit {P : Program} {ops : Array Oper} {rest : List Oper} {o : Oper} {a : Act} {Q : Exit → Act → World → Prop} {α : Type} (d : Kd α) {W : World} (base e : Nat) (hgd : o.guard = none) {N' : Tmp} (_hd : o.dst = some N') {xs : List α} {inner : List Value}
    (hrun : (execOp a.eval o).run P W = .ok (.value (.slice (some ⟨W.heap.size, 0, none⟩) xs.length xs.length)) (W.alloc (.cells inner.toArray e)))
    (hrep : Reps (Kd.FK d W (fun _ => True)) d.sz xs inner) (hm : xs.length ≤ 9223372036854775807)
    (h : ∀ v1 w1, Kd.V d e w1 base (fun _ => True) v1 xs → Below W.heap.size W w1 → wpList P ops Q rest (a.put o.dst v1) w1) : wpList P ops Q (o :: rest) a W := by
  refine Kd.N_lit d (w0 := W) W.heap.size e hgd _hd (ok := fun _ => True) (okp := fun _ => True) hrun hrep (fun _ hk => hk) trivial (Below.refl _ _) (Nat.le_refl _) hm ?_
  intro v1 w1 hv hb _ _
  obtain ⟨A, c, rfl⟩ := Kd.N_slice hv
  exact h _ w1 ⟨A, c, rfl, (Kd.N_reads' hv).2.1, Kd.N_F hv⟩ hb
theorem V_lit_step {P : Program} {ops : Array Oper} {o : Oper} {a : Act} {Q : Exit → Act → World → Prop} {Kc : Act → World → Prop} {α : Type} (d : Kd α) {W : World} (base e : Nat) (hw : Region.wanted o (yielded ops a.tmps) = true) {N' : Tmp} (_hd : o.dst = some N') {xs : List α} {inner : List Value}
    (hrun : (execOp a.eval o).run P W = .ok (.value (.slice (some ⟨W.heap.size, 0, none⟩) xs.length xs.length)) (W.alloc (.cells inner.toArray e)))
    (hrep : Reps (Kd.FK d W (fun _ => True)) d.sz xs inner) (hm : xs.length ≤ 9223372036854775807)
    (h : ∀ v1 w1, Kd.V d e w1 base (fun _ => True) v1 xs → Below W.heap.size W w1 → Kc (a.put o.dst v1) w1) : if Region.wanted o (yielded ops a.tmps) = true then Oper.wp P o a W Kc Q else Kc (a.put o.dst undef) W := by
  refine Kd.N_lit_step d (w0 := W) W.heap.size e hw _hd (ok := fun _ => True) (okp := fun _ => True) hrun hrep (fun _ hk => hk) trivial (Below.refl _ _) (Nat.le_refl _) hm ?_
  intro v1 w1 hv hb _ _
  obtain ⟨A, c, rfl⟩ := Kd.N_slice hv
  exact h _ w1 ⟨A, c, rfl, (Kd.N_reads' hv).2.1, Kd.N_F hv⟩ hb
/-! ### A literal of two rows of the call's own. -/
theorem two_M {α : Type} {d : Kd α} {e' : Nat} {W : World} {base : Nat} {x1 x2 : List α} {v1 v2 : Value} (h1 : d.R e' W base (fun k => some k = v1.ownBlock) v1 x1) (h2 : d.R e' W base (fun k => some k = v2.ownBlock) v2 x2) : ∀ j x, [x1, x2][j]? = some x → (Kd.slice e' d).M W base (fun k => (j = 0 ∧ some k = v1.ownBlock) ∨ (j = 1 ∧ some k = v2.ownBlock)) x (([v1, v2].drop (j * (Kd.slice e' d).sz)).take (Kd.slice e' d).sz) := by
  intro j x hj
  match j with
  | 0 =>
    obtain rfl : x1 = x := by simpa using hj
    exact Kd.M_row (Kd.R_mono h1 (fun k hk => .inl ⟨rfl, hk⟩))
  | 1 =>
    obtain rfl : x2 = x := by simpa using hj
    exact Kd.M_row (Kd.R_mono h2 (fun k hk => .inr ⟨rfl, hk⟩))
  | j + 2 => simp at hj
theorem two_ap {v1 v2 : Value} (hne : ∀ k, v2.ownBlock = some k → some k ≠ v1.ownBlock) : ∀ i j k, ((i = 0 ∧ some k = v1.ownBlock) ∨ (i = 1 ∧ some k = v2.ownBlock)) → ((j = 0 ∧ some k = v1.ownBlock) ∨ (j = 1 ∧ some k = v2.ownBlock)) → i = j := by
  rintro i j k (⟨rfl, h⟩ | ⟨rfl, h⟩) (⟨rfl, h'⟩ | ⟨rfl, h'⟩)
  · rfl
  · exact absurd h (hne k h'.symm)
  · exact absurd h' (hne k h.symm)
  · rfl
theorem below_of {W w1 : World} {base : Nat} (hb : Below base W w1) (hg : W.grownBy w1 none) : Below W.heap.size W w1 := ⟨hb.os, hb.tape, hb.output, hb.size, fun i hi => hg.block i hi (by simp)⟩
theorem S_lit2 {P : Program} {ops : Array Oper} {rest : List Oper} {o : Oper} {a : Act} {Q : Exit → Act → World → Prop} {α : Type} (d : Kd α) (e' : Nat) {W : World} (base e : Nat) (hgd : o.guard = none) {N' : Tmp} (_hd : o.dst = some N') {x1 x2 : List α} {v1 v2 : Value}
    (hrun : (execOp a.eval o).run P W = .ok (.value (.slice (some ⟨W.heap.size, 0, none⟩) 2 2)) (W.alloc (.cells #[v1, v2] e)))
    (h1 : d.R e' W base (fun k => some k = v1.ownBlock) v1 x1) (h2 : d.R e' W base (fun k => some k = v2.ownBlock) v2 x2) (hne : ∀ k, v2.ownBlock = some k → some k ≠ v1.ownBlock) (hbase : base ≤ W.heap.size)
    (h : ∀ v w1, Kd.S (Kd.slice e' d) e w1 base (fun _ => True) v [x1, x2] → Below W.heap.size W w1 → (∀ k, v.ownBlock = some k → W.heap.size ≤ k) → wpList P ops Q rest (a.put o.dst v) w1) : wpList P ops Q (o :: rest) a W := by
  refine Kd.S_lits (Kd.slice e' d) (w0 := W) base e hgd _hd (xs := [x1, x2]) (inner := [v1, v2]) (ok := fun _ => True) _ hrun rfl (two_M h1 h2) (two_ap hne) (fun _ _ _ => trivial) trivial (Below.refl _ _) hbase (by simp) ?_
  rintro v w1 hs hb hg ⟨b, hb', hle⟩
  exact h v w1 hs (below_of hb hg) (fun k hk => by rw [hb'] at hk; injection hk with hk; omega)
theorem S_lit2_step {P : Program} {ops : Array Oper} {o : Oper} {a : Act} {Q : Exit → Act → World → Prop} {Kc : Act → World → Prop} {α : Type} (d : Kd α) (e' : Nat) {W : World} (base e : Nat) (hw : Region.wanted o (yielded ops a.tmps) = true) {N' : Tmp} (_hd : o.dst = some N') {x1 x2 : List α} {v1 v2 : Value}
    (hrun : (execOp a.eval o).run P W = .ok (.value (.slice (some ⟨W.heap.size, 0, none⟩) 2 2)) (W.alloc (.cells #[v1, v2] e)))
    (h1 : d.R e' W base (fun k => some k = v1.ownBlock) v1 x1) (h2 : d.R e' W base (fun k => some k = v2.ownBlock) v2 x2) (hne : ∀ k, v2.ownBlock = some k → some k ≠ v1.ownBlock) (hbase : base ≤ W.heap.size)
    (h : ∀ v w1, Kd.S (Kd.slice e' d) e w1 base (fun _ => True) v [x1, x2] → Below W.heap.size W w1 → (∀ k, v.ownBlock = some k → W.heap.size ≤ k) → Kc (a.put o.dst v) w1) : if Region.wanted o (yielded ops a.tmps) = true then Oper.wp P o a W Kc Q else Kc (a.put o.dst undef) W := by
  refine Kd.S_lits_step (Kd.slice e' d) (w0 := W) base e hw _hd (xs := [x1, x2]) (inner := [v1, v2]) (ok := fun _ => True) _ hrun rfl (two_M h1 h2) (two_ap hne) (fun _ _ _ => trivial) trivial (Below.refl _ _) hbase (by simp) ?_
  rintro v w1 hs hb hg ⟨b, hb', hle⟩
  exact h v w1 hs (below_of hb hg) (fun k hk => by rw [hb'] at hk; injection hk with hk; omega)
/-! ### A row of rows behind another one, both of the call's own. -/
def ApS {α : Type} (d : Kd α) (e : Nat) (W : World) (base : Nat) (v : Value) (xs : List α) (u : Value) (ys : List α) : Prop := ∃ B1 B2 : Nat → Prop, Kd.S d e W base B1 v xs ∧ Kd.S d e W base B2 u ys ∧ ∀ k, B1 k → ¬ B2 k
theorem apS {α : Type} {d : Kd α} {e base : Nat} {w w1 : World} {ok : Nat → Prop} {v u : Value} {xs ys : List α} (h : Kd.S d e w base ok v xs) (ho : Kd.S d e w1 w.heap.size (fun _ => True) u ys) (hb : Below w.heap.size w w1) (hbase : base ≤ w.heap.size) : ApS d e w1 base v xs u ys :=
  ⟨fun k => k < w.heap.size, fun k => w.heap.size ≤ k, Kd.S_mono (Kd.S_below (Kd.S_mono (ok' := fun k => k < w.heap.size) (Kd.S_bound h) (fun _ hk => hk.2.2.1)) hb) (fun _ hk => hk), Kd.S_lower (Kd.S_mono (Kd.S_bound ho) (fun _ hk => hk.2.1)) hbase, fun _ h1 h2 => by omega⟩
theorem zip_from {α : Type} (l : List α) (n j : Nat) : (l.zipIdx n)[j]? = (l[j]?).map fun y => (y, n + j) := by
  rw [List.getElem?_zipIdx]
open Classical in
theorem S_append_rows {P : Program} {ops : Array Oper} {rest : List Oper} {o : Oper} {a : Act} {Q : Exit → Act → World → Prop} {α : Type} (d : Kd α) {w0 W : World} (base : Nat) (hgd : o.guard = none) (s x : Operand) (t e : TypeId) (z : Value) (bytes : Nat)
    (ho : o.op = .call { callee := .builtin .append, args := #[s, x], argTypes := #[t, t] })
    (ht : P.underlying t = some (.slice e)) (hinfo : (P.info? e).map (fun i => (i.zero, i.size, i.bytes)) = some (some z, d.sz, bytes)) (hz : z.cells.size = d.sz) (hs0 : 0 < d.sz) (hb0 : 0 < bytes)
    (v : Value) (xs ys : List α) (u : Value) (hs : a.eval s = v) (hx : a.eval x = u) {ok : Nat → Prop}
    (_HO : Kd.S d e W base ok v xs) (HA : ApS d e W base v xs u ys) (_hfresh : ∀ k, W.heap.size ≤ k → ok k)
    (HB : Below base w0 W) (hbase : base ≤ W.heap.size) (hl : (xs.length + ys.length) * bytes ≤ 140737488355328)
    (h : ∀ v1 w1, Kd.S d e w1 base (fun _ => True) v1 (xs ++ ys) → Below base w0 w1 → W.grownBy w1 v.ownBlock → (v1.ownBlock = v.ownBlock ∨ ∃ b, v1.ownBlock = some b ∧ W.heap.size ≤ b) → wpList P ops Q rest (a.put o.dst v1) w1) :
    wpList P ops Q (o :: rest) a W := by
  obtain ⟨B1, B2, ⟨f1, h1⟩, ⟨f2, h2⟩, hap⟩ := HA
  have hf : ∃ f : Nat → Nat, (∀ k, B1 k → f k = f1 k) ∧ ∀ k, B2 k → f k = f2 k + xs.length :=
    ⟨fun k => if B1 k then f1 k else f2 k + xs.length, fun k hk => if_pos hk, fun k hk => if_neg (fun h3 => hap k h3 hk)⟩
  obtain ⟨f, g1, g2⟩ := hf
  have h1' : (Kd.tag f d).R e W base (fun _ => True) v xs.zipIdx :=
    ⟨fun _ _ => trivial, h1.2.imp_ (fun p c hp => d.M_mono (fun k hk => ⟨⟨trivial, hk.1.2⟩, (g1 k hk.1.1).trans hk.2⟩) hp)⟩
  obtain ⟨A, c, hu, hc, hr⟩ := OwnRow.reads h2.2
  rw [List.length_zipIdx] at hu hc hr
  have hr2 : ReadsRow (fun (p : α × Nat) cs => (Kd.tag f d).M W base B2 p cs) d.sz W A ys.length (ys.zipIdx xs.length) := by
    refine ⟨by simp, hr.2.1, fun hn => ?_⟩
    obtain ⟨ad, e1, hcell⟩ := hr.2.2 hn
    refine ⟨ad, e1, fun j p hj => ?_⟩
    rw [zip_from] at hj
    obtain ⟨y, hy, rfl⟩ := Option.map_eq_some_iff.1 hj
    obtain ⟨cs, hc1, hc2, hc3⟩ := hcell j (y, j) (by rw [zip_from, hy]; simp)
    exact ⟨cs, hc1, d.M_mono (fun k hk => ⟨hk.1.1, by rw [g2 k hk.1.1, hk.2]; exact Nat.add_comm _ _⟩) hc2, hc3⟩
  refine Kd.R_append_rows (Kd.tag f d) (w0 := w0) base hgd s x t e z bytes ho ht hinfo hz hs0 hb0 v xs.zipIdx (ys.zipIdx xs.length) A ys.length c (fun _ => True) B2 hs (hx.trans hu) h1' hr2 (fun _ _ hp => hp) (fun k hk => ⟨trivial, fun e2 => hap k (h1.1 k e2.symm) hk⟩) (fun _ _ => trivial) HB hbase (by rw [List.length_zipIdx]; exact hl) ?_
  intro v1 w1 hR hb hg hat
  refine h v1 w1 ⟨f, ?_⟩ hb hg hat
  rw [List.zipIdx_append, Nat.zero_add]
  exact hR
/-! ### A predicate that may use up its rounds, asked of a list's elements in order. -/
def anyO {α : Type} (q : α → Option Bool) : List α → Option Bool
  | [] => some false
  | x :: t => (q x).bind fun b => if b = true then some true else anyO q t
def idxO {α : Type} (q : α → Option Bool) : List α → Nat → Option Int
  | [], _ => some (-1)
  | x :: t, i => (q x).bind fun b => if b = true then some (i : Int) else idxO q t (i + 1)
theorem idxO_any {α : Type} {q : α → Option Bool} {b : Bool} : ∀ {l : List α} {i : Nat}, anyO q l = some b → ∃ r, idxO q l i = some r ∧ decide (r ≥ 0) = b
  | [], i, h => ⟨-1, rfl, by simp [anyO] at h; subst h; rfl⟩
  | x :: t, i, h => by
    simp only [anyO] at h
    obtain ⟨c, hc, h⟩ := Option.bind_eq_some_iff.mp h
    simp only [idxO, hc, Option.bind_some]
    cases c with
    | true => simp at h; subst h; exact ⟨i, by simp, by simp⟩
    | false => simp at h; simpa using idxO_any h
theorem anyO_mono {α : Type} {q q' : α → Option Bool} (h : ∀ x, LeO (q x) (q' x)) : ∀ l : List α, LeO (anyO q l) (anyO q' l)
  | [] => fun _ hr => hr
  | x :: t => by
    simp only [anyO]
    exact LeO.bind (h x) (fun b => LeO.ite (LeO.refl _) (anyO_mono h t))
end Go.Proofs.Ytppkommlmloenab.Own
