/- Rows of the call's own that lie in blocks from lo on and below hi: plain lemmas over any program. No conditions. -/
import Derived.Test.YtppkommlmloenaaWMore
namespace Go.Proofs.Ytppkommlmloenaa.Own
open Go.RowKit Go.Proofs.YtppkommlmloenaaW.PrintWords
/-! ### What the walks show again and again, each told once: the last argument is found where it is used. -/
theorem A_ {p : Prop} (h : p) : Aside0 p := ⟨h⟩
theorem bq {A B : Prop} (h : Aside0 A) (f : A → B := by intro h_; (with_reducible repeat (first | refine blk_drewN ?_ _ | refine blk_drew ?_ | refine blk_alloc ?_ _)); exact h_) : B := f h.out
theorem hq {A B : Prop} (h : Aside0 A) (f : A → B := by intro h_; repeat (first | (with_reducible first | exact h_ | apply below_alloc | apply pw_below_drewN | apply below_drew1 | refine below_set ?_ (Aside0.out (by assumption))) | exact h_)) : B := f h.out
theorem rq {A B : Prop} (h : Aside0 A) (f : A → B := by intro h_; (with_reducible repeat (first | apply Kd.R_alloc | apply Kd.R_drewN | apply Kd.R_drew)); exact h_) : B := f h.out
theorem sq {A B : Prop} (h : Aside0 A) (f : A → B := by intro h_; (with_reducible repeat (first | apply Kd.S_alloc | apply Kd.S_drewN | apply Kd.S_drew)); exact h_) : B := f h.out
theorem nq {A B : Prop} (h : Aside0 A) (f : A → B := by intro h_; (with_reducible repeat (first | apply Kd.N_alloc | apply Kd.N_drewN | apply Kd.N_drew)); exact h_) : B := f h.out
theorem vq {A B : Prop} (h : Aside0 A) (f : A → B := by intro h_; (with_reducible repeat (first | apply Kd.V_alloc | apply Kd.V_drewN | apply Kd.V_drew)); exact h_) : B := f h.out
theorem bp {A B : Prop} (h : A) (f : A → B := by intro h_; (with_reducible repeat (first | refine blk_drewN ?_ _ | refine blk_drew ?_ | refine blk_alloc ?_ _)); exact h_) : B := f h
theorem bc {W : World} {g : Nat} {t : TypeId} {cs : Array Value} {v : Value} (h : Aside0 (W.heap[g]? = some (.cells cs t (0, 0)))) (i : Nat) (e : cs[i]? = some v := by rfl) : W.cell? ⟨g, i, none⟩ = some v := (blk_cell h.out i).trans e
theorem gq {p : Prop} (h : p := by (try simp only [List.map_toArray, List.map_cons, List.map_nil]); first | done | rfl | (simp only [List.length_drop, List.length_take]; rfl)) : p := h
theorem cj {A B : Prop} (f : A → B := by intro hk; repeat' (first | exact hk.1 | exact hk.2 | exact hk.1.1 | exact hk.1.2 | exact hk.2.1 | exact hk.2.2 | exact hk.1.1.1 | exact hk.1.1.2 | exact hk.1.2.1 | exact hk.1.2.2 | exact hk.2.1.1 | exact hk.2.1.2 | exact hk.2.2.1 | exact hk.2.2.2 | exact hk.1.1.1.1 | exact hk.1.1.1.2 | exact hk.1.1.2.1 | exact hk.1.1.2.2 | exact hk.1.2.1.1 | exact hk.1.2.1.2 | exact hk.1.2.2.1 | exact hk.1.2.2.2 | exact hk.2.1.1.1 | exact hk.2.1.1.2 | exact hk.2.1.2.1 | exact hk.2.1.2.2 | exact hk.2.2.1.1 | exact hk.2.2.1.2 | exact hk.2.2.2.1 | exact hk.2.2.2.2 | refine ⟨?_, ?_⟩)) : A → B := f
section
variable {α : Type} {d : Kd α} {e lo hi : Nat} {w w1 W : World} {v : Value} {xs : List α} {A : Option Addr} {n c : Nat} {P : Nat → Prop}

def OwnR (d : Kd α) (e : Nat) (w : World) (lo hi : Nat) (v : Value) (xs : List α) : Prop := Kd.R d e w lo (fun k => k < hi) v xs ∧ hi ≤ w.heap.size
def OwnS (d : Kd α) (e : Nat) (w : World) (lo hi : Nat) (v : Value) (xs : List α) : Prop := Kd.S d e w lo (fun k => k < hi) v xs ∧ hi ≤ w.heap.size

theorem OwnR.mk' (h : Kd.R d e w1 W.heap.size (fun _ => True) v xs) : ∃ lo hi, W.heap.size ≤ lo ∧ OwnR d e w1 lo hi v xs :=
  ⟨W.heap.size, w1.heap.size, Nat.le_refl _, Kd.R_mono (Kd.R_bound h) (fun _ hk => hk.2.2.1), Nat.le_refl _⟩
theorem OwnS.mk' (h : Kd.S d e w1 W.heap.size (fun _ => True) v xs) : ∃ lo hi, W.heap.size ≤ lo ∧ OwnS d e w1 lo hi v xs :=
  ⟨W.heap.size, w1.heap.size, Nat.le_refl _, Kd.S_mono (Kd.S_bound h) (fun _ hk => hk.2.2.1), Nat.le_refl _⟩
theorem OwnR.below (h : OwnR d e w lo hi v xs) (hb : Below w.heap.size w w1) : OwnR d e w1 lo hi v xs := ⟨Kd.R_below h.1 hb, Nat.le_trans h.2 hb.size⟩
theorem OwnS.below (h : OwnS d e w lo hi v xs) (hb : Below w.heap.size w w1) : OwnS d e w1 lo hi v xs := ⟨Kd.S_below h.1 hb, Nat.le_trans h.2 hb.size⟩
theorem OwnR.drewN (h : OwnR d e w lo hi v xs) (m : Nat) : OwnR d e (w.drewN m) lo hi v xs := h.below (pw_below_drewN (Below.refl _ _) m)
theorem OwnS.drewN (h : OwnS d e w lo hi v xs) (m : Nat) : OwnS d e (w.drewN m) lo hi v xs := h.below (pw_below_drewN (Below.refl _ _) m)
theorem OwnR.kept (h : OwnR d e w lo hi v xs) (hk : Kept w w1 P) (hp : ∀ k, lo ≤ k → k < hi → ¬ P k) : OwnR d e w1 lo hi v xs :=
  ⟨Kd.R_mono (Kd.R_kept (Kd.R_bound h.1) hk (fun k hk => hp k hk.2.1 hk.1)) (fun _ hk => hk.1), Nat.le_trans h.2 hk.1⟩
theorem OwnS.kept (h : OwnS d e w lo hi v xs) (hk : Kept w w1 P) (hp : ∀ k, lo ≤ k → k < hi → ¬ P k) : OwnS d e w1 lo hi v xs :=
  ⟨Kd.S_mono (Kd.S_kept (Kd.S_bound h.1) hk (fun k hk => hp k hk.2.1 hk.1)) (fun _ hk => hk.1), Nat.le_trans h.2 hk.1⟩
theorem OwnR.slice (h : OwnR d e w lo hi v xs) : ∃ A c, v = .slice A xs.length c := Kd.R_slice h.1
theorem OwnS.slice (h : OwnS d e w lo hi v xs) : ∃ A c, v = .slice A xs.length c := Kd.S_slice h.1
theorem OwnR.reads (h : OwnR d e w lo hi (.slice A n c) xs) : n = xs.length ∧ n ≤ c ∧ d.C w A xs.length xs := Kd.R_reads' h.1
theorem OwnS.reads (h : OwnS d e w lo hi (.slice A n c) xs) : n = xs.length ∧ n ≤ c ∧ d.C w A xs.length xs := Kd.S_reads' h.1
theorem OwnR.lend {b : Nat} (h : OwnR d e w lo hi v xs) (hb : b ≤ lo) : Kd.R d e w b (fun k => lo ≤ k ∧ k < hi) v xs := Kd.R_lower (Kd.R_mono (Kd.R_bound h.1) (fun _ hk => ⟨hk.2.1, hk.1⟩)) hb
theorem OwnS.lend {b : Nat} (h : OwnS d e w lo hi v xs) (hb : b ≤ lo) : Kd.S d e w b (fun k => lo ≤ k ∧ k < hi) v xs := Kd.S_lower (Kd.S_mono (Kd.S_bound h.1) (fun _ hk => ⟨hk.2.1, hk.1⟩)) hb
/-- What was marked: it lies before w1's end. -/
theorem OwnR.marked {b : Nat} (h : Kd.R d e w b P v xs) : OwnR d e w b w.heap.size v xs := ⟨Kd.R_mono (Kd.R_bound h) (fun _ hk => hk.2.2.1), Nat.le_refl _⟩
theorem OwnS.marked {b : Nat} (h : Kd.S d e w b P v xs) : OwnS d e w b w.heap.size v xs := ⟨Kd.S_mono (Kd.S_bound h) (fun _ hk => hk.2.2.1), Nat.le_refl _⟩
end
/-! ### A literal of elements that lead to what came in: it is only read. -/
theorem V_lit {P : Program} {ops : Array Oper} {rest : List Oper} {o : Oper} {a : Act} {Q : Exit → Act → World → Prop} {α : Type} (d : Kd α) {W : World} (base e : Nat) (hgd : o.guard = none) {N' : Tmp} (_hd : o.dst = some N') {xs : List α} {inner : List Value}
    (hrun : (execOp a.eval o).run P W = .ok (.value (.slice (some ⟨W.heap.size, 0, none⟩) xs.length xs.length)) (W.alloc (.cells inner.toArray e)))
    (hrep : Reps (Kd.FK d W (fun _ => True)) d.sz xs inner) (hm : xs.length ≤ 9223372036854775807)
    (h : ∀ v1 w1, Kd.V d e w1 base (fun _ => True) v1 xs → Below W.heap.size W w1 → wpList P ops Q rest (a.put o.dst v1) w1) : wpList P ops Q (o :: rest) a W := by
  refine Kd.N_lit d (w0 := W) W.heap.size e hgd _hd (ok := fun _ => True) (okp := fun _ => True) hrun hrep (fun _ hk => hk) trivial (Below.refl _ _) (Nat.le_refl _) hm ?_
  intro v1 w1 hv hb _ _
  obtain ⟨A, c, rfl⟩ := Kd.N_slice hv
  exact h _ w1 ⟨A, c, rfl, (Kd.N_reads' hv).2.1, Kd.N_F hv⟩ hb
theorem V_lit_step {P : Program} {ops : Array Oper} {o : Oper} {a : Act} {Q : Exit → Act → World → Prop} {Kc : Act → World → Prop} {α : Type} (d : Kd α) {W : World} (base e : Nat) (hw : Region.wanted o (yielded ops a.tmps) = true) {N' : Tmp} (_hd : o.dst = some N') {xs : List α} {inner : List Value}
    (hrun : (execOp a.eval o).run P W = .ok (.value (.slice (some ⟨W.heap.size, 0, none⟩) xs.length xs.length)) (W.alloc (.cells inner.toArray e)))
    (hrep : Reps (Kd.FK d W (fun _ => True)) d.sz xs inner) (hm : xs.length ≤ 9223372036854775807)
    (h : ∀ v1 w1, Kd.V d e w1 base (fun _ => True) v1 xs → Below W.heap.size W w1 → Kc (a.put o.dst v1) w1) : if Region.wanted o (yielded ops a.tmps) = true then Oper.wp P o a W Kc Q else Kc (a.put o.dst undef) W := by
  refine Kd.N_lit_step d (w0 := W) W.heap.size e hw _hd (ok := fun _ => True) (okp := fun _ => True) hrun hrep (fun _ hk => hk) trivial (Below.refl _ _) (Nat.le_refl _) hm ?_
  intro v1 w1 hv hb _ _
  obtain ⟨A, c, rfl⟩ := Kd.N_slice hv
  exact h _ w1 ⟨A, c, rfl, (Kd.N_reads' hv).2.1, Kd.N_F hv⟩ hb
/-! ### A literal of two rows of the call's own. -/
theorem two_M {α : Type} {d : Kd α} {e' : Nat} {W : World} {base : Nat} {x1 x2 : List α} {v1 v2 : Value} (h1 : d.R e' W base (fun k => some k = v1.ownBlock) v1 x1) (h2 : d.R e' W base (fun k => some k = v2.ownBlock) v2 x2) : ∀ j x, [x1, x2][j]? = some x → (Kd.slice e' d).M W base (fun k => (j = 0 ∧ some k = v1.ownBlock) ∨ (j = 1 ∧ some k = v2.ownBlock)) x (([v1, v2].drop (j * (Kd.slice e' d).sz)).take (Kd.slice e' d).sz) := by
  intro j x hj
  match j with
  | 0 =>
    obtain rfl : x1 = x := by simpa using hj
    exact Kd.M_row (Kd.R_mono h1 (fun k hk => .inl ⟨rfl, hk⟩))
  | 1 =>
    obtain rfl : x2 = x := by simpa using hj
    exact Kd.M_row (Kd.R_mono h2 (fun k hk => .inr ⟨rfl, hk⟩))
  | j + 2 => simp at hj
theorem two_ap {v1 v2 : Value} (hne : ∀ k, v2.ownBlock = some k → some k ≠ v1.ownBlock) : ∀ i j k, ((i = 0 ∧ some k = v1.ownBlock) ∨ (i = 1 ∧ some k = v2.ownBlock)) → ((j = 0 ∧ some k = v1.ownBlock) ∨ (j = 1 ∧ some k = v2.ownBlock)) → i = j := by
  rintro i j k (⟨rfl, h⟩ | ⟨rfl, h⟩) (⟨rfl, h'⟩ | ⟨rfl, h'⟩)
  · rfl
  · exact absurd h (hne k h'.symm)
  · exact absurd h' (hne k h.symm)
  · rfl
theorem below_of {W w1 : World} {base : Nat} (hb : Below base W w1) (hg : W.grownBy w1 none) : Below W.heap.size W w1 := ⟨hb.os, hb.tape, hb.output, hb.size, fun i hi => hg.block i hi (by simp)⟩
theorem S_lit2 {P : Program} {ops : Array Oper} {rest : List Oper} {o : Oper} {a : Act} {Q : Exit → Act → World → Prop} {α : Type} (d : Kd α) (e' : Nat) {W : World} (base e : Nat) (hgd : o.guard = none) {N' : Tmp} (_hd : o.dst = some N') {x1 x2 : List α} {v1 v2 : Value}
    (hrun : (execOp a.eval o).run P W = .ok (.value (.slice (some ⟨W.heap.size, 0, none⟩) 2 2)) (W.alloc (.cells #[v1, v2] e)))
    (h1 : d.R e' W base (fun k => some k = v1.ownBlock) v1 x1) (h2 : d.R e' W base (fun k => some k = v2.ownBlock) v2 x2) (hne : ∀ k, v2.ownBlock = some k → some k ≠ v1.ownBlock) (hbase : base ≤ W.heap.size)
    (h : ∀ v w1, Kd.S (Kd.slice e' d) e w1 base (fun _ => True) v [x1, x2] → Below W.heap.size W w1 → (∀ k, v.ownBlock = some k → W.heap.size ≤ k) → wpList P ops Q rest (a.put o.dst v) w1) : wpList P ops Q (o :: rest) a W := by
  refine Kd.S_lits (Kd.slice e' d) (w0 := W) base e hgd _hd (xs := [x1, x2]) (inner := [v1, v2]) (ok := fun _ => True) _ hrun rfl (two_M h1 h2) (two_ap hne) (fun _ _ _ => trivial) trivial (Below.refl _ _) hbase (by simp) ?_
  rintro v w1 hs hb hg ⟨b, hb', hle⟩
  exact h v w1 hs (below_of hb hg) (fun k hk => by rw [hb'] at hk; injection hk with hk; omega)
theorem S_lit2_step {P : Program} {ops : Array Oper} {o : Oper} {a : Act} {Q : Exit → Act → World → Prop} {Kc : Act → World → Prop} {α : Type} (d : Kd α) (e' : Nat) {W : World} (base e : Nat) (hw : Region.wanted o (yielded ops a.tmps) = true) {N' : Tmp} (_hd : o.dst = some N') {x1 x2 : List α} {v1 v2 : Value}
    (hrun : (execOp a.eval o).run P W = .ok (.value (.slice (some ⟨W.heap.size, 0, none⟩) 2 2)) (W.alloc (.cells #[v1, v2] e)))
    (h1 : d.R e' W base (fun k => some k = v1.ownBlock) v1 x1) (h2 : d.R e' W base (fun k => some k = v2.ownBlock) v2 x2) (hne : ∀ k, v2.ownBlock = some k → some k ≠ v1.ownBlock) (hbase : base ≤ W.heap.size)
    (h : ∀ v w1, Kd.S (Kd.slice e' d) e w1 base (fun _ => True) v [x1, x2] → Below W.heap.size W w1 → (∀ k, v.ownBlock = some k → W.heap.size ≤ k) → Kc (a.put o.dst v) w1) : if Region.wanted o (yielded ops a.tmps) = true then Oper.wp P o a W Kc Q else Kc (a.put o.dst undef) W := by
  refine Kd.S_lits_step (Kd.slice e' d) (w0 := W) base e hw _hd (xs := [x1, x2]) (inner := [v1, v2]) (ok := fun _ => True) _ hrun rfl (two_M h1 h2) (two_ap hne) (fun _ _ _ => trivial) trivial (Below.refl _ _) hbase (by simp) ?_
  rintro v w1 hs hb hg ⟨b, hb', hle⟩
  exact h v w1 hs (below_of hb hg) (fun k hk => by rw [hb'] at hk; injection hk with hk; omega)
/-! ### A predicate that may use up its rounds, asked of a list's elements in order. -/
def anyO {α : Type} (q : α → Option Bool) : List α → Option Bool
  | [] => some false
  | x :: t => (q x).bind fun b => if b = true then some true else anyO q t
def idxO {α : Type} (q : α → Option Bool) : List α → Nat → Option Int
  | [], _ => some (-1)
  | x :: t, i => (q x).bind fun b => if b = true then some (i : Int) else idxO q t (i + 1)
theorem idxO_any {α : Type} {q : α → Option Bool} {b : Bool} : ∀ {l : List α} {i : Nat}, anyO q l = some b → ∃ r, idxO q l i = some r ∧ decide (r ≥ 0) = b
  | [], i, h => ⟨-1, rfl, by simp [anyO] at h; subst h; rfl⟩
  | x :: t, i, h => by
    simp only [anyO] at h
    obtain ⟨c, hc, h⟩ := Option.bind_eq_some_iff.mp h
    simp only [idxO, hc, Option.bind_some]
    cases c with
    | true => simp at h; subst h; exact ⟨i, by simp, by simp⟩
    | false => simp at h; simpa using idxO_any h
theorem anyO_mono {α : Type} {q q' : α → Option Bool} (h : ∀ x, LeO (q x) (q' x)) : ∀ l : List α, LeO (anyO q l) (anyO q' l)
  | [] => fun _ hr => hr
  | x :: t => by
    simp only [anyO]
    exact LeO.bind (h x) (fun b => LeO.ite (LeO.refl _) (anyO_mono h t))
end Go.Proofs.Ytppkommlmloenaa.Own
