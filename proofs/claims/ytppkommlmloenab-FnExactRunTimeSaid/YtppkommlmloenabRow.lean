/- The arguments of a law, opened to numbers, bools, lists and structures: plain lemmas over any program. No conditions. -/
import Derived.ChangeArms
import Derived.ChangeSame
import Derived.Deep.Slices
import Derived.WideShapes
import Derived.Test.YtppkommlmloenabWMore
namespace Go.Proofs.Ytppkommlmloenab.Row
open Go.RowKit Go.ChangeShapes Go.WideShapes Go.Deep Go.Proofs.YtppkommlmloenabW.PrintWords

/-- What reads as data of type t is of the kind d, and ok. -/
def Opens (P : Program) (t : TypeId) {α : Type} (d : Kd α) (ok : α → Prop) : Prop :=
  ∀ {H : Type} {enc : TypeId × Value → H} {w : World} {base : Nat} {spare : Nat → Bool} {held : Bool} {fuel : Nat} {cs : List Value} {x : DataW H × List MemPlace},
    DataW.trod enc P w base spare held fuel t cs = some x → ∃ a, d.K w a cs ∧ ok a

theorem list_choose {α : Type} {p : Nat → α → Prop} : ∀ n : Nat, (∀ i, i < n → ∃ a, p i a) → ∃ l : List α, l.length = n ∧ ∀ (i : Nat) (a : α), l[i]? = some a → p i a
  | 0, _ => ⟨[], rfl, fun i a h => by simp at h⟩
  | n + 1, h => by
    obtain ⟨l, hl, hp⟩ := list_choose n (fun i hi => h i (Nat.lt_succ_of_lt hi))
    obtain ⟨a, ha⟩ := h n (Nat.lt_succ_self n)
    refine ⟨l ++ [a], by simp [hl], fun i b hb => ?_⟩
    rcases Nat.lt_or_ge i l.length with hi | hi
    · rw [List.getElem?_append_left hi] at hb
      exact hp i b hb
    · have hi' : i = n := by
        have := (List.getElem?_eq_some_iff.1 hb).1
        simp at this
        omega
      subst hi'
      rw [List.getElem?_append_right hi, hl] at hb
      simp at hb
      exact hb ▸ ha

theorem opens_int {P : Program} {t : TypeId} {k : IntKind} (ht : P.underlying t = some (.int k)) : Opens P t (Kd.int k) (fun n => (Lit.int k n).wf = true) := by
  intro H enc w base spare held fuel cs x h
  obtain ⟨n, rfl, _, hw⟩ := DataW.trod_int ht h
  exact ⟨n, rfl, hw⟩

theorem opens_bool {P : Program} {t : TypeId} (ht : P.underlying t = some .bool) : Opens P t Kd.bool (fun _ => True) := by
  intro H enc w base spare held fuel cs x h
  obtain ⟨b, rfl, _⟩ := DataW.trod_bool ht h
  exact ⟨b, rfl, trivial⟩

theorem opens_slice {P : Program} {t e : TypeId} {α : Type} {d : Kd α} {ok : α → Prop} (ht : P.underlying t = some (.slice e)) (hC : P.cellsOf e = d.sz) (he : Opens P e d ok) :
    Opens P t (Kd.slice e d) (fun l => l.length ≤ maxLen ∧ ∀ x ∈ l, ok x) := by
  intro H enc w base spare held fuel cs x h
  rcases open_slice ht h with ⟨rfl, _⟩ | ⟨a, len, cap, m, n, D, Pl, rfl, hb, hl, hm, hmm, _, hx⟩
  · exact ⟨[], ⟨none, 0, rfl, Nat.le_refl _, rfl, by simp, fun h0 => absurd h0 (by simp)⟩, by simp, by simp⟩
  · have hle : len ≤ m := by rw [hmm]; split <;> omega
    obtain ⟨l, hll, hp⟩ := list_choose (p := fun i y => ok y ∧ ∃ c : List Value, c.length = d.sz ∧ d.K w y c ∧ ∀ j u, c[j]? = some u → w.cell? (a.add (i * d.sz + j)) = some u) len (fun i hi => by
      obtain ⟨c, h1, h2⟩ := hx i (by omega)
      obtain ⟨y, hK, hok⟩ := he h2
      obtain ⟨_, hcl, hat⟩ := World.cells?_some h1
      refine ⟨y, hok, c, hcl.trans hC, hK, fun j u hu => ?_⟩
      have hj := (List.getElem?_eq_some_iff.1 hu).1
      rw [← Go.Deep.add_add, ← hC, hat j (by omega), hu])
    have hmL : len ≤ maxLen := by omega
    refine ⟨l, ⟨some a, cap, by rw [hll], by omega, rfl, by rw [hll]; unfold maxLen at hmL; omega, fun _ => ⟨a, rfl, fun j p hj => ?_⟩⟩, by omega, fun y hy => ?_⟩
    · obtain ⟨_, c, h1, h2, h3⟩ := hp j p hj
      exact ⟨c, h1, h2, h3⟩
    · obtain ⟨j, hj, rfl⟩ := List.getElem_of_mem hy
      exact (hp j _ (List.getElem?_eq_getElem hj)).1

theorem opens_iso {P : Program} {t : TypeId} {α β : Type} {d : Kd α} {ok : α → Prop} (f : β → α) (g : α → β) (hg : ∀ a, f (g a) = a) (h : Opens P t d ok) : Opens P t (Kd.iso d f) (fun b => ok (f b)) := by
  intro H enc w base spare held fuel cs x hx
  obtain ⟨a, hK, hok⟩ := h hx
  exact ⟨g a, by show d.K w (f (g a)) cs; rw [hg]; exact hK, by show ok (f (g a)); rw [hg]; exact hok⟩

theorem opens_struct2 {P : Program} {t : TypeId} {f0 f1 : Field} {α0 α1 : Type} {d0 : Kd α0} {d1 : Kd α1} {ok0 : α0 → Prop} {ok1 : α1 → Prop} (ht : P.underlying t = some (.struct #[f0, f1]))
    (hs : P.cellsOf t = d0.sz + d1.sz) (o0 : f0.offset = 0) (c0 : P.cellsOf f0.type = d0.sz) (o1 : f1.offset = d0.sz) (c1 : P.cellsOf f1.type = d1.sz) (h0 : Opens P f0.type d0 ok0) (h1 : Opens P f1.type d1 ok1) :
    Opens P t (Kd.pair d0 d1) (fun x => ok0 x.1 ∧ ok1 x.2) := by
  intro H enc w base spare held fuel cs x h
  obtain ⟨xs, n, _, _, hl, hxl, hf⟩ := DataW.trod_struct ht h
  have e0 := hf 0 f0 rfl
  have e1 := hf 1 f1 rfl
  have hx2 : xs.length = 2 := by simpa using hxl
  rw [List.getElem?_eq_getElem (by omega)] at e0 e1
  obtain ⟨a0, K0, k0⟩ := h0 e0
  obtain ⟨a1, K1, k1⟩ := h1 e1
  rw [o0, c0, List.drop_zero] at K0
  rw [o1, c1] at K1
  refine ⟨(a0, a1), ⟨cs.take d0.sz, cs.drop d0.sz, (List.take_append_drop _ _).symm, K0, ?_⟩, k0, k1⟩
  have : (cs.drop d0.sz).take d1.sz = cs.drop d0.sz := List.take_of_length_le (by rw [List.length_drop]; omega)
  rw [this] at K1
  exact K1

theorem opens_struct3 {P : Program} {t : TypeId} {f0 f1 f2 : Field} {α0 α1 α2 : Type} {d0 : Kd α0} {d1 : Kd α1} {d2 : Kd α2} {ok0 : α0 → Prop} {ok1 : α1 → Prop} {ok2 : α2 → Prop} (ht : P.underlying t = some (.struct #[f0, f1, f2]))
    (hs : P.cellsOf t = d0.sz + (d1.sz + d2.sz)) (o0 : f0.offset = 0) (c0 : P.cellsOf f0.type = d0.sz) (o1 : f1.offset = d0.sz) (c1 : P.cellsOf f1.type = d1.sz) (o2 : f2.offset = d0.sz + d1.sz) (c2 : P.cellsOf f2.type = d2.sz)
    (h0 : Opens P f0.type d0 ok0) (h1 : Opens P f1.type d1 ok1) (h2 : Opens P f2.type d2 ok2) :
    Opens P t (Kd.pair d0 (Kd.pair d1 d2)) (fun x => ok0 x.1 ∧ ok1 x.2.1 ∧ ok2 x.2.2) := by
  intro H enc w base spare held fuel cs x h
  obtain ⟨xs, n, _, _, hl, hxl, hf⟩ := DataW.trod_struct ht h
  have e0 := hf 0 f0 rfl
  have e1 := hf 1 f1 rfl
  have e2 := hf 2 f2 rfl
  have hx2 : xs.length = 3 := by simpa using hxl
  rw [List.getElem?_eq_getElem (by omega)] at e0 e1 e2
  obtain ⟨a0, K0, k0⟩ := h0 e0
  obtain ⟨a1, K1, k1⟩ := h1 e1
  obtain ⟨a2, K2, k2⟩ := h2 e2
  rw [o0, c0, List.drop_zero] at K0
  rw [o1, c1] at K1
  rw [o2, c2] at K2
  refine ⟨(a0, a1, a2), ⟨cs.take d0.sz, cs.drop d0.sz, (List.take_append_drop _ _).symm, K0, (cs.drop d0.sz).take d1.sz, (cs.drop d0.sz).drop d1.sz, (List.take_append_drop _ _).symm, K1, ?_⟩, k0, k1, k2⟩
  have : (cs.drop (d0.sz + d1.sz)).take d2.sz = (cs.drop d0.sz).drop d1.sz := by
    rw [List.drop_drop]
    exact List.take_of_length_le (by rw [List.length_drop]; omega)
  rw [this] at K2
  exact K2

theorem opens_struct4 {P : Program} {t : TypeId} {f0 f1 f2 f3 : Field} {α0 α1 α2 α3 : Type} {d0 : Kd α0} {d1 : Kd α1} {d2 : Kd α2} {d3 : Kd α3} {ok0 : α0 → Prop} {ok1 : α1 → Prop} {ok2 : α2 → Prop} {ok3 : α3 → Prop} (ht : P.underlying t = some (.struct #[f0, f1, f2, f3]))
    (hs : P.cellsOf t = d0.sz + (d1.sz + (d2.sz + d3.sz))) (o0 : f0.offset = 0) (c0 : P.cellsOf f0.type = d0.sz) (o1 : f1.offset = d0.sz) (c1 : P.cellsOf f1.type = d1.sz) (o2 : f2.offset = d0.sz + d1.sz) (c2 : P.cellsOf f2.type = d2.sz)
    (o3 : f3.offset = d0.sz + d1.sz + d2.sz) (c3 : P.cellsOf f3.type = d3.sz)
    (h0 : Opens P f0.type d0 ok0) (h1 : Opens P f1.type d1 ok1) (h2 : Opens P f2.type d2 ok2) (h3 : Opens P f3.type d3 ok3) :
    Opens P t (Kd.pair d0 (Kd.pair d1 (Kd.pair d2 d3))) (fun x => ok0 x.1 ∧ ok1 x.2.1 ∧ ok2 x.2.2.1 ∧ ok3 x.2.2.2) := by
  intro H enc w base spare held fuel cs x h
  obtain ⟨xs, n, _, _, hl, hxl, hf⟩ := DataW.trod_struct ht h
  have e0 := hf 0 f0 rfl
  have e1 := hf 1 f1 rfl
  have e2 := hf 2 f2 rfl
  have e3 := hf 3 f3 rfl
  have hx2 : xs.length = 4 := by simpa using hxl
  rw [List.getElem?_eq_getElem (by omega)] at e0 e1 e2 e3
  obtain ⟨a0, K0, k0⟩ := h0 e0
  obtain ⟨a1, K1, k1⟩ := h1 e1
  obtain ⟨a2, K2, k2⟩ := h2 e2
  obtain ⟨a3, K3, k3⟩ := h3 e3
  rw [o0, c0, List.drop_zero] at K0
  rw [o1, c1] at K1
  rw [o2, c2] at K2
  rw [o3, c3] at K3
  refine ⟨(a0, a1, a2, a3), ⟨cs.take d0.sz, cs.drop d0.sz, (List.take_append_drop _ _).symm, K0, (cs.drop d0.sz).take d1.sz, (cs.drop d0.sz).drop d1.sz, (List.take_append_drop _ _).symm, K1, ((cs.drop d0.sz).drop d1.sz).take d2.sz, ((cs.drop d0.sz).drop d1.sz).drop d2.sz, (List.take_append_drop _ _).symm, ?_, ?_⟩, k0, k1, k2, k3⟩
  · rw [List.drop_drop]
    exact K2
  · have : (cs.drop (d0.sz + d1.sz + d2.sz)).take d3.sz = ((cs.drop d0.sz).drop d1.sz).drop d2.sz := by
      have e : ((cs.drop d0.sz).drop d1.sz).drop d2.sz = cs.drop (d0.sz + d1.sz + d2.sz) := by rw [List.drop_drop, List.drop_drop, Nat.add_assoc]
      rw [e]
      exact List.take_of_length_le (by rw [List.length_drop]; omega)
    rw [this] at K3
    exact K3

/-- A slice that came in. -/
theorem open_row {P : Program} {t e : TypeId} {α : Type} {d : Kd α} {ok : List α → Prop} (O : Opens P t (Kd.slice e d) ok) {H : Type} {enc : TypeId × Value → H} {w : World} {base : Nat} {spare : Nat → Bool} {held : Bool} {a : Option Addr} {len cap : Nat} {D : DataW H} {ps : List MemPlace}
    (h : DataW.Trod enc P w base spare held t (.slice a len cap) D ps) : ∃ l : List α, len = l.length ∧ l.length ≤ cap ∧ d.C w a l.length l ∧ ok l := by
  obtain ⟨fuel, hf⟩ := h
  obtain ⟨l, ⟨A, c, hcs, hl, hC⟩, hok⟩ := O hf
  simp [Value.cells] at hcs
  obtain ⟨rfl, rfl, rfl⟩ := hcs
  exact ⟨l, rfl, hl, hC, hok⟩

/-- A struct that came in. -/
theorem open_agg {P : Program} {t : TypeId} {α : Type} {d : Kd α} {ok : α → Prop} (O : Opens P t d ok) {H : Type} {enc : TypeId × Value → H} {w : World} {base : Nat} {spare : Nat → Bool} {held : Bool} {cs : Array Value} {D : DataW H} {ps : List MemPlace}
    (h : DataW.Trod enc P w base spare held t (.agg cs) D ps) : ∃ a, d.K w a cs.toList ∧ ok a := by
  obtain ⟨fuel, hf⟩ := h
  exact O (by simpa [Value.cells] using hf)
end Go.Proofs.Ytppkommlmloenab.Row
