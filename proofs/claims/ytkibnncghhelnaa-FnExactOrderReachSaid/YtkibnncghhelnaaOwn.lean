/- Rows of the call's own that lie in blocks from lo on and below hi: plain lemmas over any program. No conditions. -/
import Derived.Test.YtkibnncghhelnaaWMore
namespace Go.Proofs.Ytkibnncghhelnaa.Own
open Go.RowKit Go.Proofs.YtkibnncghhelnaaW.PrintWords
section
variable {α : Type} {d : Kd α} {e lo hi : Nat} {w w1 W : World} {v : Value} {xs : List α} {A : Option Addr} {n c : Nat} {P : Nat → Prop}

def OwnR (d : Kd α) (e : Nat) (w : World) (lo hi : Nat) (v : Value) (xs : List α) : Prop := Kd.R d e w lo (fun k => k < hi) v xs ∧ hi ≤ w.heap.size
def OwnS (d : Kd α) (e : Nat) (w : World) (lo hi : Nat) (v : Value) (xs : List α) : Prop := Kd.S d e w lo (fun k => k < hi) v xs ∧ hi ≤ w.heap.size

theorem OwnR.mk' (h : Kd.R d e w1 W.heap.size (fun _ => True) v xs) : ∃ lo hi, W.heap.size ≤ lo ∧ OwnR d e w1 lo hi v xs :=
  ⟨W.heap.size, w1.heap.size, Nat.le_refl _, Kd.R_mono (Kd.R_bound h) (fun _ hk => hk.2.2.1), Nat.le_refl _⟩
theorem OwnS.mk' (h : Kd.S d e w1 W.heap.size (fun _ => True) v xs) : ∃ lo hi, W.heap.size ≤ lo ∧ OwnS d e w1 lo hi v xs :=
  ⟨W.heap.size, w1.heap.size, Nat.le_refl _, Kd.S_mono (Kd.S_bound h) (fun _ hk => hk.2.2.1), Nat.le_refl _⟩
theorem OwnR.below (h : OwnR d e w lo hi v xs) (hb : Below w.heap.size w w1) : OwnR d e w1 lo hi v xs := ⟨Kd.R_below h.1 hb, Nat.le_trans h.2 hb.size⟩
theorem OwnS.below (h : OwnS d e w lo hi v xs) (hb : Below w.heap.size w w1) : OwnS d e w1 lo hi v xs := ⟨Kd.S_below h.1 hb, Nat.le_trans h.2 hb.size⟩
theorem OwnR.drewN (h : OwnR d e w lo hi v xs) (m : Nat) : OwnR d e (w.drewN m) lo hi v xs := h.below (pw_below_drewN (Below.refl _ _) m)
theorem OwnS.drewN (h : OwnS d e w lo hi v xs) (m : Nat) : OwnS d e (w.drewN m) lo hi v xs := h.below (pw_below_drewN (Below.refl _ _) m)
theorem OwnR.kept (h : OwnR d e w lo hi v xs) (hk : Kept w w1 P) (hp : ∀ k, lo ≤ k → k < hi → ¬ P k) : OwnR d e w1 lo hi v xs :=
  ⟨Kd.R_mono (Kd.R_kept (Kd.R_bound h.1) hk (fun k hk => hp k hk.2.1 hk.1)) (fun _ hk => hk.1), Nat.le_trans h.2 hk.1⟩
theorem OwnS.kept (h : OwnS d e w lo hi v xs) (hk : Kept w w1 P) (hp : ∀ k, lo ≤ k → k < hi → ¬ P k) : OwnS d e w1 lo hi v xs :=
  ⟨Kd.S_mono (Kd.S_kept (Kd.S_bound h.1) hk (fun k hk => hp k hk.2.1 hk.1)) (fun _ hk => hk.1), Nat.le_trans h.2 hk.1⟩
theorem OwnR.slice (h : OwnR d e w lo hi v xs) : ∃ A c, v = .slice A xs.length c := Kd.R_slice h.1
theorem OwnS.slice (h : OwnS d e w lo hi v xs) : ∃ A c, v = .slice A xs.length c := Kd.S_slice h.1
theorem OwnR.reads (h : OwnR d e w lo hi (.slice A n c) xs) : n = xs.length ∧ n ≤ c ∧ d.C w A xs.length xs := Kd.R_reads' h.1
theorem OwnS.reads (h : OwnS d e w lo hi (.slice A n c) xs) : n = xs.length ∧ n ≤ c ∧ d.C w A xs.length xs := Kd.S_reads' h.1
theorem OwnR.lend {b : Nat} (h : OwnR d e w lo hi v xs) (hb : b ≤ lo) : Kd.R d e w b (fun k => lo ≤ k ∧ k < hi) v xs := Kd.R_lower (Kd.R_mono (Kd.R_bound h.1) (fun _ hk => ⟨hk.2.1, hk.1⟩)) hb
theorem OwnS.lend {b : Nat} (h : OwnS d e w lo hi v xs) (hb : b ≤ lo) : Kd.S d e w b (fun k => lo ≤ k ∧ k < hi) v xs := Kd.S_lower (Kd.S_mono (Kd.S_bound h.1) (fun _ hk => ⟨hk.2.1, hk.1⟩)) hb
/-- What was marked: it lies before w1's end. -/
theorem OwnR.marked {b : Nat} (h : Kd.R d e w b P v xs) : OwnR d e w b w.heap.size v xs := ⟨Kd.R_mono (Kd.R_bound h) (fun _ hk => hk.2.2.1), Nat.le_refl _⟩
theorem OwnS.marked {b : Nat} (h : Kd.S d e w b P v xs) : OwnS d e w b w.heap.size v xs := ⟨Kd.S_mono (Kd.S_bound h) (fun _ hk => hk.2.2.1), Nat.le_refl _⟩
end
/-! ### A predicate that may use up its rounds, asked of a list's elements in order. -/
def anyO {α : Type} (q : α → Option Bool) : List α → Option Bool
  | [] => some false
  | x :: t => (q x).bind fun b => if b = true then some true else anyO q t
def idxO {α : Type} (q : α → Option Bool) : List α → Nat → Option Int
  | [], _ => some (-1)
  | x :: t, i => (q x).bind fun b => if b = true then some (i : Int) else idxO q t (i + 1)
theorem idxO_any {α : Type} {q : α → Option Bool} {b : Bool} : ∀ {l : List α} {i : Nat}, anyO q l = some b → ∃ r, idxO q l i = some r ∧ decide (r ≥ 0) = b
  | [], i, h => ⟨-1, rfl, by simp [anyO] at h; subst h; rfl⟩
  | x :: t, i, h => by
    simp only [anyO] at h
    obtain ⟨c, hc, h⟩ := Option.bind_eq_some_iff.mp h
    simp only [idxO, hc, Option.bind_some]
    cases c with
    | true => simp at h; subst h; exact ⟨i, by simp, by simp⟩
    | false => simp at h; simpa using idxO_any h
theorem anyO_mono {α : Type} {q q' : α → Option Bool} (h : ∀ x, LeO (q x) (q' x)) : ∀ l : List α, LeO (anyO q l) (anyO q' l)
  | [] => fun _ hr => hr
  | x :: t => by
    simp only [anyO]
    exact LeO.bind (h x) (fun b => LeO.ite (LeO.refl _) (anyO_mono h t))
end Go.Proofs.Ytkibnncghhelnaa.Own
