/- Plain facts on numbers and lists: what the functions that the law FnExactGuardsNeeded reaches answer, and that the law's own function answers true. No program, no memory. -/
import Derived.Test.YtkibnncghhelnaaPFnExactGuardsNeededx1
import Derived.Test.YtkibnncghhelnaaPFnExactGuardsNeededx2
import Derived.Test.YtkibnncghhelnaaPFnExactGuardsNeededx3
import Derived.Test.YtkibnncghhelnaaPFnExactGuardsNeededx4
import Derived.Test.YtkibnncghhelnaaPFnExactGuardsNeededx5
import Derived.Test.YtkibnncghhelnaaPFnExactGuardsNeededx6
import Derived.Test.YtkibnncghhelnaaPFnExactGuardsNeededx7
namespace Go.Proofs.Ytkibnncghhelnaa.Pure
open Go.RowKit Go.Proofs.Ytkibnncghhelnaa.PFnExactGuardsNeeded Go.Proofs.YtkibnncghhelnaaW.PrintWords Go.Proofs.YtkibnncghhelnaaW.PrintLast Go.Proofs.YtkibnncghhelnaaW.PrintMore
set_option linter.unusedVariables false
set_option linter.unusedSimpArgs false
theorem wrap64_id {x : Int} (h1 : -9223372036854775808 ≤ x) (h2 : x ≤ 9223372036854775807) : wrap64 x = x := by unfold wrap64; omega
theorem i64_of {x : Int} (h : (Lit.int .i64 x).wf = true) : -9223372036854775808 ≤ x ∧ x ≤ 9223372036854775807 := by
  simp [Lit.wf, IntKind.min, IntKind.max, IntKind.bits, IntKind.signed, IntKind.wrap] at h
  omega
def inR (x a b : Int) : Bool := decide (a ≤ x) && decide (x ≤ b)
theorem inR_iff {x a b : Int} : inR x a b = true ↔ a ≤ x ∧ x ≤ b := by unfold inR; simp
theorem inR_not {x a b : Int} : inR x a b = false ↔ ¬ (a ≤ x ∧ x ≤ b) := by rw [← inR_iff]; simp
def road (s : Int) (r : Bool) : Bool := inR s 2 24 && (!r || decide (3 ≤ s))
theorem road_bd {s : Int} {r : Bool} (h : road s r = true) : 2 ≤ s ∧ s ≤ 24 ∧ (r = true → 3 ≤ s) := by
  unfold road at h
  rw [Bool.and_eq_true, inR_iff] at h
  refine ⟨h.1.1, h.1.2, fun hr => ?_⟩
  have := h.2
  simp [hr] at this
  exact this
theorem spec_l1In_eq (a b c : Int) : spec_l1In.f a b c = some (inR a b c) := by
  unfold spec_l1In.f inR
  by_cases h : a ≥ b
  · have h' : b ≤ a := h
    simp [h, h']
  · have h' : ¬ b ≤ a := h
    simp [h, h']
theorem impl_within_eq (a b c : Int) : impl_within.f a b c = some (inR a b c) := by
  unfold impl_within.f inR
  by_cases h : a ≥ b
  · have h' : b ≤ a := h
    simp [h, h']
  · have h' : ¬ b ≤ a := h
    simp [h, h']
theorem spec_l2Road_eq (s : Int) (r : Bool) : spec_l2Road.f s r = some (road s r) := by
  unfold spec_l2Road.f road
  rw [spec_l1In_eq, Option.bind_some]
  cases inR s 2 24 <;> cases r <;> simp
  omega
theorem impl_IsRoad_eq (s : Int) (r : Bool) : impl_IsRoad.f s r = some (road s r) := by
  unfold impl_IsRoad.f road
  rw [impl_within_eq, Option.bind_some]
  cases inR s 2 24 <;> cases r <;> simp
theorem laws_toRoad_eq (s : Int) (r : Bool) : laws_toRoad.f s r = some (s, r) := rfl
theorem impl_isGuards_eq (k : Int) : impl_isGuards.f k = some (inR k 1 6) := by
  unfold impl_isGuards.f
  rw [impl_within_eq, Option.bind_some]
theorem wrap_succ {i n : Nat} (h : i < n) (hn : n ≤ 9223372036854775807) : wrap64 ((i : Int) + 1) = ((i + 1 : Nat) : Int) := by unfold wrap64; omega
theorem drop_rd (l : List Int) (i : Nat) (h : i < l.length) : l.drop i = rd l (i : Int) :: l.drop (i + 1) := by
  rw [List.drop_eq_getElem_cons h]
  unfold rd
  simp [List.getD_eq_getElem?_getD, h]
theorem rd_get (l : List Int) (i : Nat) (h : i < l.length) : rd l (i : Int) = l[i] := by
  unfold rd
  simp [List.getD_eq_getElem?_getD, h]
theorem succ_of {k : Nat} (h : 0 < k) : ∃ m, k = m + 1 := ⟨k - 1, by omega⟩
theorem headD_mem {α : Type} (ls : List α) (z : α) (h : 0 < ls.length) : ls.headD z ∈ ls := by cases ls <;> simp_all
theorem drop_end {α : Type} (l : List α) (i : Nat) (h : l.length ≤ i) : l.drop i = [] := List.drop_of_length_le h
def allIn (l : List Int) (a b : Int) : Bool := l.all (fun x => inR x a b)
/-- Numbers in line, from a on. -/
def marks (a : Int) : Nat → List Int
  | 0 => []
  | n + 1 => a :: marks (a + 1) n
theorem marks_len (a : Int) (n : Nat) : (marks a n).length = n := by
  induction n generalizing a with
  | zero => rfl
  | succ n ih => simp [marks, ih]
theorem marks_snoc (a : Int) (n : Nat) : marks a (n + 1) = marks a n ++ [a + n] := by
  induction n generalizing a with
  | zero => simp [marks]
  | succ n ih =>
    rw [marks, ih (a + 1)]
    simp [marks]
    omega
theorem marks_rd (a : Int) (n i : Nat) (h : i < n) : rd (marks a n) (i : Int) = a + i := by
  rw [rd_get _ _ (by rw [marks_len]; exact h)]
  induction n generalizing a i with
  | zero => omega
  | succ n ih =>
    cases i with
    | zero => simp [marks]
    | succ i =>
      simp only [marks, List.getElem_cons_succ]
      rw [ih (a + 1) i (by omega)]
      omega
def runL (s x : Int) (n : Nat) : List Int := (List.range n).map (fun (i : Nat) => Int.tmod (x + i) s)
theorem runL_snoc (s x : Int) (n : Nat) : runL s x (n + 1) = runL s x n ++ [Int.tmod (x + n) s] := by unfold runL; rw [List.range_succ]; simp
theorem runL_len (s x : Int) (n : Nat) : (runL s x n).length = n := by simp [runL]
def fits (s : Int) (r : Bool) (x n : Int) : Bool := inR x 0 (s - 1) && inR n 0 s && (r || decide (x + n ≤ s))
def carrierOk (s f0 f1 f2 : Int) : Bool := inR f0 0 (s - 1) && inR f1 0 48 && inR f2 0 20
def gapM (s : Int) (r : Bool) (a b : Int) : Int :=
  let d := if a - b < b - a then b - a else a - b
  if r = true then (if s - d < d then s - d else d) else d
theorem gapM_bd {s : Int} {r : Bool} {a b : Int} (hs : 2 ≤ s) (ha : 0 ≤ a ∧ a ≤ s - 1) (hb : 0 ≤ b ∧ b ≤ s - 1) : 0 ≤ gapM s r a b ∧ gapM s r a b ≤ s - 1 := by
  unfold gapM
  simp only
  split <;> split <;> (try split) <;> omega
def hi2 (a b : Int) : Int := if b < a then a else b
theorem spec_l1Most_eq (a b : Int) : spec_l1Most.f a b = some (hi2 a b) := by unfold spec_l1Most.f hi2; by_cases h : b < a <;> simp [h]
def legM (s : Int) (r : Bool) (f0 f1 x : Int) : Int := if f1 - gapM s r f0 x < 0 then -1 else (if s - 1 < x + (f1 - gapM s r f0 x) then s - 1 else x + (f1 - gapM s r f0 x))
theorem carrierOk_bd {s a b c : Int} (h : carrierOk s a b c = true) : (0 ≤ a ∧ a ≤ s - 1) ∧ (0 ≤ b ∧ b ≤ 48) ∧ (0 ≤ c ∧ c ≤ 20) := by
  unfold carrierOk at h
  rw [Bool.and_eq_true, Bool.and_eq_true, inR_iff, inR_iff, inR_iff] at h
  exact ⟨h.1.1, h.1.2, h.2⟩
def movesOk (l : List Int) : Bool := inR (l.length : Int) 1 24 && allIn l (-1) 1
def walkerOk (s st f d : Int) (l : List Int) : Bool := inR st 0 (s - 1) && (decide (f = 1) || decide (f = -1)) && inR d 0 60 && movesOk l
/-- The least gap of p to a list of places, at most m. -/
def nearM (s : Int) (r : Bool) (p : Int) : List Int → Int → Int
  | [], m => m
  | q :: t, m => nearM s r p t (if gapM s r p q < m then gapM s r p q else m)
def farOth (s : Int) (r : Bool) (l : List Int) : Nat → Int → Int → Int → Int × Int
  | 0, _, f, o => (f, o)
  | d + 1, p, f, o => farOth s r l d (p + 1) (if f < nearM s r p l s then nearM s r p l s else f) (if nearM s r p l s > 0 then o + 1 else o)
def finM (n : Nat) (x : Int × Int) : Int := if x.1 < Int.tdiv (x.2 + n - 1) n then Int.tdiv (x.2 + n - 1) n else x.1
def boundM (s : Int) (r : Bool) (l : List Int) : Int := finM l.length (farOth s r l s.toNat 0 0 0)
theorem allIn_rd {l : List Int} {a b : Int} (h : allIn l a b = true) (i : Nat) (hi : i < l.length) : a ≤ rd l (i : Int) ∧ rd l (i : Int) ≤ b := by
  unfold allIn at h
  rw [List.all_eq_true] at h
  rw [rd_get l i hi]
  exact inR_iff.1 (h _ (List.getElem_mem hi))
/-- Each place of a round, from i on, is near to the next one. -/
def cycM (s : Int) (r : Bool) (l : List Int) (i d : Nat) : Bool := (List.range' i d).all (fun j => decide (gapM s r (rd l (j : Int)) (rd l (((j + 1) % l.length : Nat) : Int)) ≤ 1))
theorem cycM_succ (s : Int) (r : Bool) (l : List Int) (i d : Nat) : cycM s r l i (d + 1) = (decide (gapM s r (rd l (i : Int)) (rd l (((i + 1) % l.length : Nat) : Int)) ≤ 1) && cycM s r l (i + 1) d) := by
  unfold cycM
  rw [List.range'_succ, List.all_cons]
def roundOk (s : Int) (r : Bool) (l : List Int) : Bool := allIn l 0 (s - 1) && cycM s r l 0 l.length
def patrolOk (s : Int) (r : Bool) (ls : List (List Int)) : Bool := inR (ls.length : Int) 1 6 && inR ((ls.headD []).length : Int) 1 60 && ls.all (fun l => decide (l.length = (ls.headD []).length) && roundOk s r l)
theorem tmod_nat (a n : Nat) : Int.tmod (a : Int) (n : Int) = ((a % n : Nat) : Int) := by
  rw [Int.tmod_eq_emod_of_nonneg (by omega)]
  rfl
theorem rd_bd {l : List Int} {a b : Int} (h : allIn l a b = true) (i : Nat) (hi : i < l.length) : a ≤ rd l (i : Int) ∧ rd l (i : Int) ≤ b := allIn_rd h i hi
def tot : List (List Int) → Nat
  | [] => 0
  | x :: t => x.length + tot t
theorem tot_append (a b : List (List Int)) : tot (a ++ b) = tot a + tot b := by induction a with
  | nil => simp [tot]
  | cons x t ih => simp [tot, ih]; omega
def marksSS (a : Int) : List (List Int) → List (List Int)
  | [] => []
  | x :: t => marks a x.length :: marksSS (a + x.length) t
theorem marksSS_len (a : Int) (l : List (List Int)) : (marksSS a l).length = l.length := by
  induction l generalizing a with
  | nil => rfl
  | cons x t ih => simp [marksSS, ih]
theorem marksSS_append (a : Int) (l t : List (List Int)) : marksSS a (l ++ t) = marksSS a l ++ marksSS (a + tot l) t := by
  induction l generalizing a with
  | nil => simp [marksSS, tot]
  | cons x l ih =>
    simp only [List.cons_append, marksSS, tot, ih]
    rw [show a + (x.length : Int) + (tot l : Int) = a + ((x.length + tot l : Nat) : Int) by omega]
def ringM (s : Int) (k : Nat) (n : Nat) : List (List Int) := (List.range n).map (fun (i : Nat) => runL s (Int.tdiv (i * s) k) s.toNat)
theorem ringM_snoc (s : Int) (k n : Nat) : ringM s k (n + 1) = ringM s k n ++ [runL s (Int.tdiv (n * s) k) s.toNat] := by unfold ringM; rw [List.range_succ]; simp
theorem ringM_len (s : Int) (k n : Nat) : (ringM s k n).length = n := by simp [ringM]
theorem ringM_mem {s : Int} {k n : Nat} {x : List Int} (h : x ∈ ringM s k n) : x.length = s.toNat := by
  unfold ringM at h
  obtain ⟨i, _, rfl⟩ := List.mem_map.1 h
  exact runL_len _ _ _
theorem tdiv_bd (a : Int) (k : Nat) (h0 : 0 ≤ a) (h1 : a ≤ 1000) (hk : 0 < k) : 0 ≤ Int.tdiv a k ∧ Int.tdiv a k ≤ 1000 := by
  rw [Int.tdiv_eq_ediv_of_nonneg h0]
  exact ⟨Int.ediv_nonneg h0 (by omega), Int.le_trans (Int.ediv_le_self _ h0) h1⟩
theorem mul_bd {i : Nat} {s : Int} (hi : i ≤ 6) (hs : 2 ≤ s ∧ s ≤ 24) : 0 ≤ (i : Int) * s ∧ (i : Int) * s ≤ 144 := by
  have : (i : Int) * s ≤ 6 * 24 := Int.mul_le_mul (by omega) hs.2 (by omega) (by omega)
  exact ⟨Int.mul_nonneg (by omega) (by omega), by omega⟩
theorem spec_l5Ring_l1 (s : Int) (r : Bool) (g : Nat) (hs : 2 ≤ s ∧ s ≤ 24) (hg : 1 ≤ g ∧ g ≤ 6) (i : Nat) (hi : i < g) (out : List (List Int)) (ho : out.length ≤ 100) : ∀ (d t k : Nat), (t : Int) + d = s → d < k → ∃ k', k' + d + 1 = k ∧
    spec_l5Ring.l1 k (g : Int) out (i : Int) (runL s (Int.tdiv (i * s) g) t) (t : Int) s r = spec_l5Ring.l0 k' (g : Int) (out ++ [runL s (Int.tdiv (i * s) g) s.toNat]) ((i + 1 : Nat) : Int) s r
  | 0, t, k, h, hk => by
    obtain ⟨k, rfl⟩ := succ_of (k := k) (by omega)
    refine ⟨k, rfl, ?_⟩
    simp only [spec_l5Ring.l1]
    rw [if_neg (by omega), if_pos (by omega), wrap_succ (n := g) (by omega) (by omega), show t = s.toNat by omega]
  | d + 1, t, k, h, hk => by
    obtain ⟨k, rfl⟩ := succ_of (k := k) (by omega)
    obtain ⟨k', hk', e⟩ := spec_l5Ring_l1 s r g hs hg i hi out ho d (t + 1) k (by omega) (by omega)
    refine ⟨k', by omega, ?_⟩
    have hm := mul_bd (i := i) (s := s) (by omega) hs
    have hd := tdiv_bd (i * s) g hm.1 (by omega) (by omega)
    simp only [spec_l5Ring.l1]
    rw [if_pos (by omega), if_neg (by omega), if_neg (by omega), if_pos (by rw [runL_len]; omega), wrap64_id (x := (i : Int) * s) (by omega) (by omega), wrap64_id (x := Int.tdiv (i * s) g) (by omega) (by omega), wrap64_id (x := Int.tdiv (i * s) g + t) (by omega) (by omega), ← runL_snoc, wrap_succ (n := s.toNat) (by omega) (by omega)]
    exact e
theorem spec_l5Ring_l0 (s : Int) (r : Bool) (g : Nat) (hs : 2 ≤ s ∧ s ≤ 24) (hg : 1 ≤ g ∧ g ≤ 6) : ∀ (d i k : Nat), i + d = g → 30 * d < k →
    spec_l5Ring.l0 k (g : Int) (ringM s g i) (i : Int) s r = some (ringM s g g)
  | 0, i, k, h, hk => by
    obtain ⟨k, rfl⟩ := succ_of (k := k) (by omega)
    simp only [spec_l5Ring.l0]
    rw [if_neg (by omega), show i = g by omega]
  | d + 1, i, k, h, hk => by
    obtain ⟨k, rfl⟩ := succ_of (k := k) (by omega)
    simp only [spec_l5Ring.l0]
    rw [if_pos (by omega)]
    obtain ⟨k', hk', e⟩ := spec_l5Ring_l1 s r g hs hg i (by omega) (ringM s g i) (by rw [ringM_len]; omega) s.toNat 0 k (by omega) (by omega)
    have e' : spec_l5Ring.l1 k (g : Int) (ringM s g i) (i : Int) [] 0 s r = _ := e
    rw [e', ← ringM_snoc]
    exact spec_l5Ring_l0 s r g hs hg d (i + 1) k' (by omega) (by omega)
theorem spec_l5Ring_eq (k : Nat) (s : Int) (r : Bool) (g : Nat) (hs : 2 ≤ s ∧ s ≤ 24) (hg : 1 ≤ g ∧ g ≤ 6) (hk : 200 < k) : spec_l5Ring.f k s r (g : Int) = some (ringM s g g) := by
  unfold spec_l5Ring.f
  exact spec_l5Ring_l0 s r g hs hg g 0 k (by omega) (by omega)
theorem impl_RingPatrol_l1 (s : Int) (r : Bool) (g : Nat) (hs : 2 ≤ s ∧ s ≤ 24) (hg : 1 ≤ g ∧ g ≤ 6) (i : Nat) (hi : i < g) (out : List (List Int)) (ho : out.length ≤ 100) : ∀ (d t k : Nat), (t : Int) + d = s → d < k → ∃ k', k' + d + 1 = k ∧
    impl_RingPatrol.l1 k (g : Int) out (i : Int) (runL s (Int.tdiv (i * s) g) t) (g : Int) (i : Int) s (t : Int) s r = impl_RingPatrol.l0 k' (g : Int) (out ++ [runL s (Int.tdiv (i * s) g) s.toNat]) (g : Int) ((i + 1 : Nat) : Int) s r
  | 0, t, k, h, hk => by
    obtain ⟨k, rfl⟩ := succ_of (k := k) (by omega)
    refine ⟨k, rfl, ?_⟩
    simp only [impl_RingPatrol.l1]
    rw [if_neg (by omega), if_pos (by omega), wrap_succ (n := g) (by omega) (by omega), show t = s.toNat by omega]
  | d + 1, t, k, h, hk => by
    obtain ⟨k, rfl⟩ := succ_of (k := k) (by omega)
    obtain ⟨k', hk', e⟩ := impl_RingPatrol_l1 s r g hs hg i hi out ho d (t + 1) k (by omega) (by omega)
    refine ⟨k', by omega, ?_⟩
    have hm := mul_bd (i := i) (s := s) (by omega) hs
    have hd := tdiv_bd (i * s) g hm.1 (by omega) (by omega)
    simp only [impl_RingPatrol.l1]
    rw [if_pos (by omega), if_neg (by omega), if_neg (by omega), if_pos (by rw [runL_len]; omega), wrap64_id (x := (i : Int) * s) (by omega) (by omega), wrap64_id (x := Int.tdiv (i * s) g) (by omega) (by omega), wrap64_id (x := Int.tdiv (i * s) g + t) (by omega) (by omega), ← runL_snoc, wrap_succ (n := s.toNat) (by omega) (by omega)]
    exact e
theorem impl_RingPatrol_l0 (s : Int) (r : Bool) (g : Nat) (hs : 2 ≤ s ∧ s ≤ 24) (hg : 1 ≤ g ∧ g ≤ 6) : ∀ (d i k : Nat), i + d = g → 30 * d < k →
    impl_RingPatrol.l0 k (g : Int) (ringM s g i) (g : Int) (i : Int) s r = some (ringM s g g, true)
  | 0, i, k, h, hk => by
    obtain ⟨k, rfl⟩ := succ_of (k := k) (by omega)
    simp only [impl_RingPatrol.l0]
    rw [if_neg (by omega), show i = g by omega]
  | d + 1, i, k, h, hk => by
    obtain ⟨k, rfl⟩ := succ_of (k := k) (by omega)
    simp only [impl_RingPatrol.l0]
    rw [if_pos (by omega)]
    obtain ⟨k', hk', e⟩ := impl_RingPatrol_l1 s r g hs hg i (by omega) (ringM s g i) (by rw [ringM_len]; omega) s.toNat 0 k (by omega) (by omega)
    have e' : impl_RingPatrol.l1 k (g : Int) (ringM s g i) (i : Int) [] (g : Int) (i : Int) s 0 s r = _ := e
    rw [e', ← ringM_snoc]
    exact impl_RingPatrol_l0 s r g hs hg d (i + 1) k' (by omega) (by omega)
theorem impl_RingPatrol_eq (k : Nat) (s : Int) (r : Bool) (g : Int) (hk : 300 < k) : impl_RingPatrol.f k s r g = some (if (road s r && r && inR g 1 6) = true then (ringM s g.toNat g.toNat, true) else ([], false)) := by
  obtain ⟨k, rfl⟩ := succ_of (k := k) (by omega)
  unfold impl_RingPatrol.f
  rw [impl_IsRoad_eq, Option.bind_some, impl_isGuards_eq]
  cases hr : road s r with
  | false => simp [impl_RingPatrol.j0]
  | true =>
    have hb := road_bd hr
    cases r with
    | false => simp [impl_RingPatrol.j0]
    | true =>
      cases hg : inR g 1 6 with
      | false => simp [impl_RingPatrol.j0]
      | true =>
        have hg := inR_iff.1 hg
        have e := impl_RingPatrol_l0 s true g.toNat ⟨hb.1, hb.2.1⟩ (by omega) g.toNat 0 k (by omega) (by omega)
        rw [Int.toNat_of_nonneg (by omega)] at e
        simp only [impl_RingPatrol.j0, if_true, Option.bind_some, Bool.not_true]
        rw [if_neg (by simp)]
        simpa [ringM] using e
def dn (a : Int) : Nat → List Int
  | 0 => []
  | n + 1 => a :: dn (a - 1) n
theorem dn_len (a : Int) (n : Nat) : (dn a n).length = n := by
  induction n generalizing a with
  | zero => rfl
  | succ n ih => simp [dn, ih]
theorem dn_snoc (a : Int) (n : Nat) : dn a (n + 1) = dn a n ++ [a - n] := by
  induction n generalizing a with
  | zero => simp [dn]
  | succ n ih =>
    rw [dn, ih (a - 1)]
    simp [dn]
    omega
def sweepA (f : Int) (m : Nat) (w : Bool) : List Int := marks f m ++ (if w = true then [f + m - 1] else [])
def sweepM (f : Int) (m : Nat) (w : Bool) : List Int := sweepA f m w ++ dn (f + m - 2) (m - 2) ++ (if (w && decide (1 < m)) = true then [f] else [])
theorem sweepA_len (f : Int) (m : Nat) (w : Bool) : (sweepA f m w).length ≤ m + 1 := by unfold sweepA; cases w <;> simp [marks_len]
theorem sweepM_len (f : Int) (m : Nat) (w : Bool) : (sweepM f m w).length ≤ 2 * m + 2 := by
  unfold sweepM
  have := sweepA_len f m w
  rw [List.length_append, List.length_append, dn_len]
  split <;> simp <;> omega
theorem spec_l5Sweep_l1 (f : Int) (m : Nat) (w : Bool) (hf : 0 ≤ f ∧ f ≤ 200) (hm : 1 ≤ m ∧ m ≤ 24) : ∀ (d t k : Nat), t + d = m - 2 → d < k →
    spec_l5Sweep.l1 k f (m : Int) w (sweepA f m w ++ dn (f + m - 2) t) (f + m - 2 - t) = some (sweepM f m w)
  | 0, t, k, h, hk => by
    obtain ⟨k, rfl⟩ := succ_of (k := k) (by omega)
    have hA := sweepA_len f m w
    simp only [spec_l5Sweep.l1]
    rw [if_neg (by omega), show t = m - 2 by omega]
    unfold sweepM
    cases w with
    | false => simp
    | true =>
      by_cases c : 1 < m
      · rw [if_pos rfl, if_pos (by omega), if_pos (by rw [List.length_append, dn_len]; omega)]
        simp [c]
      · rw [if_pos rfl, if_neg (by omega)]
        simp [c]
  | d + 1, t, k, h, hk => by
    obtain ⟨k, rfl⟩ := succ_of (k := k) (by omega)
    have hA := sweepA_len f m w
    simp only [spec_l5Sweep.l1]
    rw [if_pos (by omega), if_pos (by rw [List.length_append, dn_len]; omega), wrap64_id (by omega) (by omega), List.append_assoc, ← dn_snoc, show f + (m : Int) - 2 - (t : Int) - 1 = f + m - 2 - ((t + 1 : Nat) : Int) by omega]
    exact spec_l5Sweep_l1 f m w hf hm d (t + 1) k (by omega) (by omega)
theorem spec_l5Sweep_l0 (f : Int) (m : Nat) (w : Bool) (hf : 0 ≤ f ∧ f ≤ 200) (hm : 1 ≤ m ∧ m ≤ 24) : ∀ (d t k : Nat), t + d = m → d + 40 < k →
    spec_l5Sweep.l0 k f (m : Int) w (marks f t) (f + t) = some (sweepM f m w)
  | 0, t, k, h, hk => by
    obtain ⟨k, rfl⟩ := succ_of (k := k) (by omega)
    obtain ⟨k, rfl⟩ := succ_of (k := k) (by omega)
    have e := spec_l5Sweep_l1 f m w hf hm (m - 2) 0 k (by omega) (by omega)
    simp only [dn, List.append_nil, Int.natCast_zero, Int.sub_zero] at e
    simp only [spec_l5Sweep.l0, spec_l5Sweep.j1]
    rw [wrap64_id (x := f + m) (by omega) (by omega), wrap64_id (x := f + m - 2) (by omega) (by omega), wrap64_id (x := f + m - 1) (by omega) (by omega), if_neg (by omega), show t = m by omega]
    cases w with
    | true =>
      rw [if_pos rfl, if_pos (by rw [marks_len]; omega)]
      simpa [sweepA] using e
    | false =>
      rw [if_neg (by simp)]
      simpa [sweepA] using e
  | d + 1, t, k, h, hk => by
    obtain ⟨k, rfl⟩ := succ_of (k := k) (by omega)
    simp only [spec_l5Sweep.l0]
    rw [wrap64_id (x := f + m) (by omega) (by omega), if_pos (by omega), if_pos (by rw [marks_len]; omega), wrap64_id (by omega) (by omega), ← marks_snoc, show f + (t : Int) + 1 = f + ((t + 1 : Nat) : Int) by omega]
    exact spec_l5Sweep_l0 f m w hf hm d (t + 1) k (by omega) (by omega)
theorem spec_l5Sweep_eq (k : Nat) (f m : Int) (w : Bool) (hf : 0 ≤ f ∧ f ≤ 200) (hm : 1 ≤ m ∧ m ≤ 24) (hk : 100 < k) : spec_l5Sweep.f k f m w = some (sweepM f m.toNat w) := by
  have e := spec_l5Sweep_l0 f m.toNat w hf (by omega) m.toNat 0 k (by omega) (by omega)
  rw [Int.toNat_of_nonneg (by omega)] at e
  unfold spec_l5Sweep.f
  simpa [marks] using e
theorem impl_partRound_l1 (f : Int) (m : Nat) (lo : Int) (w : Bool) (hw : w = decide ((m : Int) < lo)) (hf : 0 ≤ f ∧ f ≤ 200) (hm : 1 ≤ m ∧ m ≤ 24) (h1 : (w && decide (m = 1)) = false) : ∀ (d t k : Nat), t + d = m - 2 → d < k →
    impl_partRound.l1 k f (m : Int) lo (sweepA f m w ++ dn (f + m - 2) t) (m - 2 - t) = some (sweepM f m w)
  | 0, t, k, h, hk => by
    obtain ⟨k, rfl⟩ := succ_of (k := k) (by omega)
    have hA := sweepA_len f m w
    simp only [impl_partRound.l1]
    rw [if_neg (by omega), show t = m - 2 by omega]
    unfold sweepM
    by_cases c : (m : Int) < lo
    · have : w = true := by rw [hw]; simp [c]
      subst this
      simp at h1
      rw [if_pos c, if_pos (by rw [List.length_append, dn_len]; omega)]
      have : 1 < m := by omega
      simp [this]
    · have : w = false := by rw [hw]; simp [c]
      subst this
      rw [if_neg c]
      simp
  | d + 1, t, k, h, hk => by
    obtain ⟨k, rfl⟩ := succ_of (k := k) (by omega)
    have hA := sweepA_len f m w
    simp only [impl_partRound.l1]
    rw [if_pos (by omega), if_pos (by rw [List.length_append, dn_len]; omega), wrap64_id (x := f + ((m : Int) - 2 - t)) (by omega) (by omega), wrap64_id (by omega) (by omega), List.append_assoc, show f + ((m : Int) - 2 - t) = f + m - 2 - t by omega, ← dn_snoc, show (m : Int) - 2 - (t : Int) - 1 = m - 2 - ((t + 1 : Nat) : Int) by omega]
    exact impl_partRound_l1 f m lo w hw hf hm h1 d (t + 1) k (by omega) (by omega)
theorem impl_partRound_l0 (f : Int) (m : Nat) (lo : Int) (w : Bool) (hw : w = decide ((m : Int) < lo)) (hf : 0 ≤ f ∧ f ≤ 200) (hm : 1 ≤ m ∧ m ≤ 24) : ∀ (d t k : Nat), t + d = m → d + 40 < k →
    impl_partRound.l0 k f (m : Int) lo (marks f t) (m : Int) (t : Int) = some (sweepM f m w)
  | 0, t, k, h, hk => by
    obtain ⟨k, rfl⟩ := succ_of (k := k) (by omega)
    obtain ⟨k, rfl⟩ := succ_of (k := k) (by omega)
    simp only [impl_partRound.l0, impl_partRound.j1]
    rw [wrap64_id (x := f + m) (by omega) (by omega), wrap64_id (x := f + m - 1) (by omega) (by omega), wrap64_id (x := (m : Int) - 2) (by omega) (by omega), if_neg (by omega), show t = m by omega]
    by_cases c : (m : Int) < lo
    · have hw' : w = true := by rw [hw]; simp [c]
      subst hw'
      rw [if_pos c]
      by_cases c1 : (m : Int) = 1
      · rw [if_pos c1, if_pos (by rw [marks_len]; omega)]
        have : m = 1 := by omega
        subst this
        simp [sweepM, sweepA, marks, dn]
      · have e := impl_partRound_l1 f m lo true hw hf hm (by simp; omega) (m - 2) 0 k (by omega) (by omega)
        simp only [dn, List.append_nil, Int.natCast_zero, Int.sub_zero] at e
        rw [if_neg c1, if_pos (by rw [marks_len]; omega)]
        simpa [sweepA] using e
    · have hw' : w = false := by rw [hw]; simp [c]
      subst hw'
      have e := impl_partRound_l1 f m lo false hw hf hm (by simp) (m - 2) 0 k (by omega) (by omega)
      simp only [dn, List.append_nil, Int.natCast_zero, Int.sub_zero] at e
      rw [if_neg c]
      simpa [sweepA] using e
  | d + 1, t, k, h, hk => by
    obtain ⟨k, rfl⟩ := succ_of (k := k) (by omega)
    simp only [impl_partRound.l0]
    rw [if_pos (by omega), if_pos (by rw [marks_len]; omega), wrap64_id (x := f + (t : Int)) (by omega) (by omega), ← marks_snoc, wrap_succ (n := m) (by omega) (by omega)]
    exact impl_partRound_l0 f m lo w hw hf hm d (t + 1) k (by omega) (by omega)
theorem impl_partRound_eq (k : Nat) (f m lo : Int) (hf : 0 ≤ f ∧ f ≤ 200) (hm : 1 ≤ m ∧ m ≤ 24) (hk : 100 < k) : impl_partRound.f k f m lo = some (sweepM f m.toNat (decide (m < lo))) := by
  have e := impl_partRound_l0 f m.toNat lo _ rfl hf (by omega) m.toNat 0 k (by omega) (by omega)
  rw [Int.toNat_of_nonneg (by omega)] at e
  unfold impl_partRound.f
  simpa [marks] using e
def partMany (s g i : Nat) : Nat := if i < s % g then s / g + 1 else s / g
def partWait (s g i : Nat) : Bool := decide (0 < s % g) && decide (s % g ≤ i)
def partsL (s g : Nat) : Nat → Nat → Int → List (List Int)
  | 0, _, _ => []
  | d + 1, i, f => sweepM f (partMany s g i) (partWait s g i) :: partsL s g d (i + 1) (f + partMany s g i)
def partsM (s g : Nat) : List (List Int) := partsL s g g 0 0
theorem partMany_bd {s g i : Nat} (hs : 2 ≤ s ∧ s ≤ 24) (hg : 1 ≤ g ∧ g ≤ 6) (hgs : g ≤ s) : 1 ≤ partMany s g i ∧ partMany s g i ≤ 24 := by
  unfold partMany
  have h1 : 0 < s / g := Nat.div_pos hgs (by omega)
  have h2 : s / g ≤ s := Nat.div_le_self s g
  by_cases c : i < s % g
  · rw [if_pos c]
    have h3 : g ≠ 1 := by intro e; subst e; rw [Nat.mod_one] at c; omega
    have h4 : s / g ≤ s / 2 := Nat.div_le_div_left (by omega) (by omega)
    omega
  · rw [if_neg c]; omega
theorem partsL_len (s g d i : Nat) (f : Int) : (partsL s g d i f).length = d := by
  induction d generalizing i f with
  | zero => rfl
  | succ d ih => simp [partsL, ih]
theorem partsL_mem {s g : Nat} (hs : 2 ≤ s ∧ s ≤ 24) (hg : 1 ≤ g ∧ g ≤ 6) (hgs : g ≤ s) {d i : Nat} {f : Int} {x : List Int} (h : x ∈ partsL s g d i f) : x.length ≤ 50 := by
  induction d generalizing i f with
  | zero => simp [partsL] at h
  | succ d ih =>
    rw [partsL] at h
    rcases List.mem_cons.1 h with rfl | h
    · have := sweepM_len f (partMany s g i) (partWait s g i)
      have := partMany_bd (i := i) hs hg hgs
      omega
    · exact ih h
theorem tdiv_nat (a n : Nat) : Int.tdiv (a : Int) (n : Int) = ((a / n : Nat) : Int) := by
  rw [Int.tdiv_eq_ediv_of_nonneg (by omega)]
  rfl
theorem part_wait {s g i : Nat} (hs : 2 ≤ s ∧ s ≤ 24) (hg : 1 ≤ g ∧ g ≤ 6) : decide ((partMany s g i : Int) < (((s + g - 1) / g : Nat) : Int)) = partWait s g i := by
  unfold partMany partWait
  have hd : (s + g - 1) / g = if 0 < s % g then s / g + 1 else s / g := by
    obtain rfl | rfl | rfl | rfl | rfl | rfl : g = 1 ∨ g = 2 ∨ g = 3 ∨ g = 4 ∨ g = 5 ∨ g = 6 := by omega
    all_goals (split <;> omega)
  rw [hd]
  by_cases c : 0 < s % g
  · by_cases c2 : i < s % g
    · rw [if_pos c, if_pos c2, decide_eq_false (by omega), decide_eq_false (show ¬ s % g ≤ i by omega), Bool.and_false]
    · rw [if_pos c, if_neg c2, decide_eq_true (by omega), decide_eq_true c, decide_eq_true (show s % g ≤ i by omega), Bool.and_true]
  · have : ¬ i < s % g := by omega
    rw [if_neg c, if_neg this, decide_eq_false (by omega), decide_eq_false c, Bool.false_and]
theorem spec_l5Parts_l0 (s g : Nat) (r : Bool) (hs : 2 ≤ s ∧ s ≤ 24) (hg : 1 ≤ g ∧ g ≤ 6) (hgs : g ≤ s) : ∀ (d i k : Nat) (f : Int) (acc : List (List Int)), i + d = g → d + 120 < k → 0 ≤ f → f ≤ 24 * i → acc.length ≤ i →
    spec_l5Parts.l0 k (g : Int) acc f ((s % g : Nat) : Int) (i : Int) (s : Int) r = some (acc ++ partsL s g d i f)
  | 0, i, k, f, acc, h, hk, h0, h1, h2 => by
    obtain ⟨k, rfl⟩ := succ_of (k := k) (by omega)
    simp only [spec_l5Parts.l0]
    rw [if_neg (by omega)]
    simp [partsL]
  | d + 1, i, k, f, acc, h, hk, h0, h1, h2 => by
    obtain ⟨k, rfl⟩ := succ_of (k := k) (by omega)
    have hm := partMany_bd (i := i) hs hg hgs
    have hq : s / g ≤ 24 := Nat.le_trans (Nat.div_le_self s g) hs.2
    have w1 : wrap64 ((s / g : Nat) : Int) = ((s / g : Nat) : Int) := by generalize s / g = q at hq; exact wrap64_id (by omega) (by omega)
    have w2 : wrap64 (((s / g : Nat) : Int) + 1) = ((s / g : Nat) : Int) + 1 := by generalize s / g = q at hq; exact wrap64_id (by omega) (by omega)
    simp only [spec_l5Parts.l0]
    rw [if_pos (by omega), if_neg (by omega), tdiv_nat, w1, w2]
    have key : ∀ (m : Int) (w : Bool), m = partMany s g i → w = partWait s g i → ((spec_l5Sweep.f k f m w).bind fun t => if acc.length < 5864062014805 then spec_l5Parts.l0 k (g : Int) (acc ++ [t]) (wrap64 (f + m)) ((s % g : Nat) : Int) (wrap64 ((i : Int) + 1)) (s : Int) r else none) = some (acc ++ partsL s g (d + 1) i f) := by
      intro m w em ew
      subst em ew
      rw [spec_l5Sweep_eq k f _ _ (by omega) (by omega) (by omega), Option.bind_some, if_pos (by omega), wrap64_id (x := f + ((partMany s g i : Nat) : Int)) (by omega) (by omega), wrap_succ (n := g) (by omega) (by omega), Int.toNat_natCast, spec_l5Parts_l0 s g r hs hg hgs d (i + 1) k _ _ (by omega) (by omega) (by omega) (by omega) (by simp; omega)]
      simp [partsL]
    by_cases c : ((s % g : Nat) : Int) > 0
    · rw [if_pos c]
      by_cases c2 : (i : Int) < ((s % g : Nat) : Int)
      · rw [if_pos c2]
        have c3 : i < s % g := by omega
        exact key _ _ (by unfold partMany; rw [if_pos c3]; omega) (by unfold partWait; rw [decide_eq_false (show ¬ (i : Int) ≥ ((s % g : Nat) : Int) by omega), decide_eq_false (show ¬ s % g ≤ i by omega), Bool.and_false])
      · rw [if_neg c2]
        have c3 : ¬ i < s % g := by omega
        exact key _ _ (by unfold partMany; rw [if_neg c3]) (by unfold partWait; rw [decide_eq_true (show (i : Int) ≥ ((s % g : Nat) : Int) by omega), decide_eq_true (show 0 < s % g by omega), decide_eq_true (show s % g ≤ i by omega), Bool.true_and])
    · rw [if_neg c]
      have c3 : ¬ i < s % g := by omega
      rw [if_neg (by omega)]
      exact key _ _ (by unfold partMany; rw [if_neg c3]) (by unfold partWait; rw [decide_eq_false (show ¬ 0 < s % g by omega), Bool.false_and])
theorem spec_l5Parts_eq (k : Nat) (s g : Nat) (r : Bool) (hs : 2 ≤ s ∧ s ≤ 24) (hg : 1 ≤ g ∧ g ≤ 6) (hgs : g ≤ s) (hk : 200 < k) : spec_l5Parts.f k (s : Int) r (g : Int) = some (partsM s g) := by
  unfold spec_l5Parts.f partsM
  have e := spec_l5Parts_l0 s g r hs hg hgs g 0 k 0 [] (by omega) (by omega) (by omega) (by omega) (by simp)
  rw [if_neg (by omega), tmod_nat]
  simpa using e
theorem impl_PartPatrol_l0 (s g : Nat) (r : Bool) (hs : 2 ≤ s ∧ s ≤ 24) (hg : 1 ≤ g ∧ g ≤ 6) (hgs : g ≤ s) : ∀ (d i k : Nat) (f : Int) (acc : List (List Int)), i + d = g → d + 120 < k → 0 ≤ f → f ≤ 24 * i → acc.length ≤ i →
    impl_PartPatrol.l0 k (g : Int) acc f (((s + g - 1) / g : Nat) : Int) (g : Int) (i : Int) (s : Int) r = some (acc ++ partsL s g d i f, true)
  | 0, i, k, f, acc, h, hk, h0, h1, h2 => by
    obtain ⟨k, rfl⟩ := succ_of (k := k) (by omega)
    simp only [impl_PartPatrol.l0]
    rw [if_neg (by omega)]
    simp [partsL]
  | d + 1, i, k, f, acc, h, hk, h0, h1, h2 => by
    obtain ⟨k, rfl⟩ := succ_of (k := k) (by omega)
    have hm := partMany_bd (i := i) hs hg hgs
    have hq : s / g ≤ 24 := Nat.le_trans (Nat.div_le_self s g) hs.2
    have w1 : wrap64 ((s / g : Nat) : Int) = ((s / g : Nat) : Int) := by generalize s / g = q at hq; exact wrap64_id (by omega) (by omega)
    have w2 : wrap64 (((s / g : Nat) : Int) + 1) = ((s / g : Nat) : Int) + 1 := by generalize s / g = q at hq; exact wrap64_id (by omega) (by omega)
    simp only [impl_PartPatrol.l0]
    rw [if_pos (by omega), if_neg (by omega), tdiv_nat, tmod_nat, w1, w2]
    have key : ∀ (m : Int), m = partMany s g i → ((impl_partRound.f k f m (((s + g - 1) / g : Nat) : Int)).bind fun t => if acc.length < 5864062014805 then impl_PartPatrol.l0 k (g : Int) (acc ++ [t]) (wrap64 (f + m)) (((s + g - 1) / g : Nat) : Int) (g : Int) (wrap64 ((i : Int) + 1)) (s : Int) r else none) = some (acc ++ partsL s g (d + 1) i f, true) := by
      intro m em
      subst em
      rw [impl_partRound_eq k f _ _ (by omega) (by omega) (by omega), Option.bind_some, if_pos (by omega), wrap64_id (x := f + ((partMany s g i : Nat) : Int)) (by omega) (by omega), wrap_succ (n := g) (by omega) (by omega), Int.toNat_natCast, part_wait hs hg, impl_PartPatrol_l0 s g r hs hg hgs d (i + 1) k _ _ (by omega) (by omega) (by omega) (by omega) (by simp; omega)]
      simp [partsL]
    by_cases c2 : (i : Int) < ((s % g : Nat) : Int)
    · rw [if_pos c2]
      have c3 : i < s % g := by omega
      exact key _ (by unfold partMany; rw [if_pos c3]; omega)
    · rw [if_neg c2]
      have c3 : ¬ i < s % g := by omega
      exact key _ (by unfold partMany; rw [if_neg c3])
theorem impl_PartPatrol_eq (k : Nat) (s : Int) (r : Bool) (g : Int) (hk : 300 < k) : impl_PartPatrol.f k s r g = some (if (road s r && !r && inR g 1 6 && decide (g ≤ s)) = true then (partsM s.toNat g.toNat, true) else ([], false)) := by
  obtain ⟨k, rfl⟩ := succ_of (k := k) (by omega)
  unfold impl_PartPatrol.f
  rw [impl_IsRoad_eq, Option.bind_some, impl_isGuards_eq]
  cases hr : road s r with
  | false => simp [impl_PartPatrol.j0]
  | true =>
    have hb := road_bd hr
    cases r with
    | true => simp [impl_PartPatrol.j0]
    | false =>
      cases hg : inR g 1 6 with
      | false => simp [impl_PartPatrol.j0]
      | true =>
        have hg := inR_iff.1 hg
        by_cases c : g ≤ s
        · have e := impl_PartPatrol_l0 s.toNat g.toNat false (by omega) (by omega) (by omega) g.toNat 0 k 0 [] (by omega) (by omega) (by omega) (by omega) (by simp)
          rw [← tdiv_nat, show ((s.toNat + g.toNat - 1 : Nat) : Int) = s + g - 1 by omega, Int.toNat_of_nonneg (by omega), Int.toNat_of_nonneg (by omega)] at e
          have c' : ¬ g > s := by omega
          have hd := tdiv_bd (s + g - 1) g.toNat (by omega) (by omega) (by omega)
          rw [Int.toNat_of_nonneg (by omega)] at hd
          simp only [impl_PartPatrol.j0, if_true, Option.bind_some]
          rw [if_neg (by simp), if_neg (by simp; omega), if_neg (by omega), wrap64_id (x := s + g) (by omega) (by omega), wrap64_id (x := s + g - 1) (by omega) (by omega), wrap64_id (x := Int.tdiv (s + g - 1) g) (by omega) (by omega)]
          have e0 : impl_PartPatrol.l0 k g [] 0 (Int.tdiv (s + g - 1) g) g 0 s false = _ := e
          rw [e0]
          simp [c, partsM]
        · have c' : g > s := by omega
          simp [c, c', impl_PartPatrol.j0]
theorem allIn_rdZ {l : List Int} {a b : Int} (h : allIn l a b = true) {i : Int} (h0 : 0 ≤ i) (h1 : i < (l.length : Int)) : a ≤ rd l i ∧ rd l i ≤ b := by
  obtain ⟨n, rfl⟩ := Int.eq_ofNat_of_zero_le h0
  have hn : n < l.length := by omega
  have e := rd_get l n hn
  unfold allIn at h
  have := List.all_eq_true.1 h _ (List.getElem_mem hn)
  rw [inR_iff] at this
  rw [e]
  exact this
def stepW (s : Int) (r : Bool) (p x : Int) : Int := if r = true then Int.tmod (p + x + s) s else if inR (p + x) 0 (s - 1) = true then p + x else p
theorem stepW_bd {s : Int} {r : Bool} {p x : Int} (hs : 2 ≤ s) (hp : 0 ≤ p ∧ p ≤ s - 1) (hx : -1 ≤ x ∧ x ≤ 1) : 0 ≤ stepW s r p x ∧ stepW s r p x ≤ s - 1 := by
  unfold stepW
  by_cases c : r = true
  · rw [if_pos c]
    have h1 := Int.tmod_nonneg s (show 0 ≤ p + x + s by omega)
    have h2 := Int.tmod_lt_of_pos (p + x + s) (show 0 < s by omega)
    omega
  · rw [if_neg c]
    by_cases d : inR (p + x) 0 (s - 1) = true
    · rw [if_pos d]
      exact inR_iff.1 d
    · rw [if_neg d]
      exact hp
theorem stepW_zero {s : Int} {r : Bool} {p : Int} (hs : 2 ≤ s) (hp : 0 ≤ p ∧ p ≤ s - 1) : stepW s r p 0 = p := by
  unfold stepW
  by_cases c : r = true
  · rw [if_pos c, Int.add_zero, Int.tmod_eq_emod_of_nonneg (by omega), Int.add_emod_right, Int.emod_eq_of_lt (by omega) (by omega)]
  · rw [if_neg c, Int.add_zero, if_pos (inR_iff.2 hp)]
/-- A walker's move at a time. -/
def mvW (f d : Int) (l : List Int) (t : Nat) : Int := if d ≤ (t : Int) then f * rd l (Int.tmod ((t : Int) - d) (l.length : Int)) else 0
/-- A walker's place at a time. -/
def atW (s : Int) (r : Bool) (st f d : Int) (l : List Int) : Nat → Int
  | 0 => st
  | t + 1 => stepW s r (atW s r st f d l t) (mvW f d l t)
def walkM (s : Int) (r : Bool) (st f d : Int) (l : List Int) (n : Nat) : List Int := (List.range (n + 1)).map (atW s r st f d l)
theorem walkM_len (s : Int) (r : Bool) (st f d : Int) (l : List Int) (n : Nat) : (walkM s r st f d l n).length = n + 1 := by simp [walkM]
theorem walkM_snoc (s : Int) (r : Bool) (st f d : Int) (l : List Int) (n : Nat) : walkM s r st f d l (n + 1) = walkM s r st f d l n ++ [atW s r st f d l (n + 1)] := by
  unfold walkM
  rw [List.range_succ (n := n + 1)]
  simp
theorem walkM_zero (s : Int) (r : Bool) (st f d : Int) (l : List Int) : walkM s r st f d l 0 = [st] := by simp [walkM, atW]
theorem walkM_rd (s : Int) (r : Bool) (st f d : Int) (l : List Int) (n i : Nat) (h : i ≤ n) : rd (walkM s r st f d l n) (i : Int) = atW s r st f d l i := by
  rw [rd_get _ _ (by rw [walkM_len]; omega)]
  simp [walkM]
/-- The facts of a walker that is valid. -/
theorem walkerOk_bd {s st f d : Int} {l : List Int} (h : walkerOk s st f d l = true) : (0 ≤ st ∧ st ≤ s - 1) ∧ (f = 1 ∨ f = -1) ∧ (0 ≤ d ∧ d ≤ 60) ∧ (1 ≤ (l.length : Int) ∧ (l.length : Int) ≤ 24) ∧ allIn l (-1) 1 = true := by
  unfold walkerOk movesOk at h
  simp only [Bool.and_eq_true, Bool.or_eq_true, decide_eq_true_eq, inR_iff] at h
  exact ⟨h.1.1.1, h.1.1.2, h.1.2, h.2.1, h.2.2⟩
theorem mvW_ix {d : Int} {l : List Int} {t : Nat} (hl : 1 ≤ (l.length : Int)) (c : d ≤ (t : Int)) : 0 ≤ Int.tmod ((t : Int) - d) (l.length : Int) ∧ Int.tmod ((t : Int) - d) (l.length : Int) < (l.length : Int) :=
  ⟨Int.tmod_nonneg _ (by omega), Int.tmod_lt_of_pos _ (by omega)⟩
theorem mvW_bd {f d : Int} {l : List Int} {t : Nat} (hf : f = 1 ∨ f = -1) (hl : 1 ≤ (l.length : Int)) (ha : allIn l (-1) 1 = true) : -1 ≤ mvW f d l t ∧ mvW f d l t ≤ 1 := by
  unfold mvW
  by_cases c : d ≤ (t : Int)
  · rw [if_pos c]
    have hi := mvW_ix hl c
    have := allIn_rdZ ha hi.1 hi.2
    rcases hf with rfl | rfl <;> omega
  · rw [if_neg c]; omega
theorem atW_bd {s : Int} {r : Bool} {st f d : Int} {l : List Int} (hs : 2 ≤ s) (h : walkerOk s st f d l = true) : ∀ t, 0 ≤ atW s r st f d l t ∧ atW s r st f d l t ≤ s - 1
  | 0 => (walkerOk_bd h).1
  | t + 1 => stepW_bd hs (atW_bd hs h t) (mvW_bd (walkerOk_bd h).2.1 (walkerOk_bd h).2.2.2.1.1 (walkerOk_bd h).2.2.2.2)
/-- The first time, from t on and d times long, at which all walks are at one place, or -1. -/
def meetF (ws : List (List Int)) : Nat → Nat → Int
  | 0, _ => -1
  | d + 1, t => if (ws.all fun w => rd w (t : Int) == rd (ws.headD []) (t : Int)) = true then (t : Int) else meetF ws d (t + 1)
theorem meetF_succ (ws : List (List Int)) (d t : Nat) : meetF ws (d + 1) t = if (ws.all fun w => rd w (t : Int) == rd (ws.headD []) (t : Int)) = true then (t : Int) else meetF ws d (t + 1) := rfl
theorem meetF_bd (ws : List (List Int)) : ∀ d t, meetF ws d t = -1 ∨ ((t : Int) ≤ meetF ws d t ∧ meetF ws d t < (t : Int) + d)
  | 0, t => .inl rfl
  | d + 1, t => by
    unfold meetF
    split
    · right; omega
    · rcases meetF_bd ws d (t + 1) with h | h
      · exact .inl h
      · right; omega
/-- From place i on, d places long: each is at most one away from the one ahead of it. -/
def chnM (s : Int) (r : Bool) (l : List Int) : Nat → Nat → Bool
  | _, 0 => true
  | i, d + 1 => decide (gapM s r (rd l ((i : Int) - 1)) (rd l (i : Int)) ≤ 1) && chnM s r l (i + 1) d
theorem chnM_succ (s : Int) (r : Bool) (l : List Int) (i d : Nat) : chnM s r l i (d + 1) = (decide (gapM s r (rd l ((i : Int) - 1)) (rd l (i : Int)) ≤ 1) && chnM s r l (i + 1) d) := rfl
def walkOkM (s : Int) (r : Bool) (l : List Int) : Bool := inR (l.length : Int) 1 61 && allIn l 0 (s - 1) && chnM s r l 1 (l.length - 1)
def leaversOk (s : Int) (r : Bool) (ls : List (List Int)) : Bool := inR (ls.length : Int) 1 4 && ls.all (walkOkM s r)
/-- The place of the first x in a list whose places begin with i, or -1. -/
def firstM (x : Int) : List Int → Nat → Int
  | [], _ => -1
  | y :: t, i => if y = x then (i : Int) else firstM x t (i + 1)
theorem firstM_bd (x : Int) : ∀ (l : List Int) (i : Nat), firstM x l i = -1 ∨ ((i : Int) ≤ firstM x l i ∧ firstM x l i < (i : Int) + l.length)
  | [], i => .inl rfl
  | y :: t, i => by
    simp only [firstM, List.length_cons]
    split
    · right; omega
    · rcases firstM_bd x t (i + 1) with h | h
      · exact .inl h
      · right; omega
/-- The better of the time held and a list's first. -/
def betM (x b : Int) (l : List Int) : Int := if 0 ≤ firstM x l 0 ∧ (b < 0 ∨ firstM x l 0 < b) then firstM x l 0 else b
def bestM (x : Int) (b : Int) (ls : List (List Int)) : Int := ls.foldl (betM x) b
/-- The place at a time; the last one where the list has ended. -/
def atM (l : List Int) (t : Int) : Int := rd l (if (l.length : Int) - 1 < t then (l.length : Int) - 1 else t)
def farM (s : Int) (r : Bool) (x t : Int) (m : Int) (ls : List (List Int)) : Int := ls.foldl (fun m l => if m < gapM s r (atM l t) x then gapM s r (atM l t) x else m) m
def leaveM (s : Int) (r : Bool) (ls : List (List Int)) (x : Int) : Int := if bestM x (-1) ls < 0 then -1 else bestM x (-1) ls + farM s r x (bestM x (-1) ls) 0 ls
theorem betM_bd (x b : Int) (l : List Int) (n : Int) (hl : (l.length : Int) ≤ n) (hb : -1 ≤ b ∧ b ≤ n) : -1 ≤ betM x b l ∧ betM x b l ≤ n := by
  unfold betM
  have := firstM_bd x l 0
  split <;> omega
theorem bestM_bd (x : Int) (n : Int) : ∀ (ls : List (List Int)) (b : Int), (∀ l ∈ ls, (l.length : Int) ≤ n) → -1 ≤ b ∧ b ≤ n → -1 ≤ bestM x b ls ∧ bestM x b ls ≤ n
  | [], b, _, hb => hb
  | l :: t, b, h, hb => bestM_bd x n t _ (fun y hy => h y (List.mem_cons_of_mem _ hy)) (betM_bd x b l n (h l (List.mem_cons_self ..)) hb)
theorem atM_bd {s : Int} {l : List Int} {t : Int} (hl : 1 ≤ l.length) (ha : allIn l 0 (s - 1) = true) (ht : 0 ≤ t) : 0 ≤ atM l t ∧ atM l t ≤ s - 1 := by
  unfold atM
  have : ∃ n : Nat, n < l.length ∧ (if (l.length : Int) - 1 < t then (l.length : Int) - 1 else t) = (n : Int) := by
    by_cases c : (l.length : Int) - 1 < t
    · exact ⟨l.length - 1, by omega, by rw [if_pos c]; omega⟩
    · exact ⟨t.toNat, by omega, by rw [if_neg c]; omega⟩
  obtain ⟨n, hn, e⟩ := this
  rw [e]
  exact rd_bd ha n hn
theorem farM_bd (s : Int) (r : Bool) (x t n : Int) : ∀ (ls : List (List Int)) (m : Int), (∀ l ∈ ls, gapM s r (atM l t) x ≤ n) → m ≤ n → m ≤ farM s r x t m ls ∧ farM s r x t m ls ≤ n
  | [], m, _, hm => ⟨Int.le_refl _, hm⟩
  | l :: q, m, h, hm => by
    have hl := h l (List.mem_cons_self ..)
    have := farM_bd s r x t n q (if m < gapM s r (atM l t) x then gapM s r (atM l t) x else m) (fun y hy => h y (List.mem_cons_of_mem _ hy)) (by split <;> omega)
    refine ⟨?_, this.2⟩
    refine Int.le_trans ?_ this.1
    split <;> omega
def leavesM (s : Int) (r : Bool) (ls : List (List Int)) (n : Nat) : List Int := (List.range n).map fun (i : Nat) => leaveM s r ls (i : Int)
theorem leavesM_snoc (s : Int) (r : Bool) (ls : List (List Int)) (n : Nat) : leavesM s r ls (n + 1) = leavesM s r ls n ++ [leaveM s r ls (n : Int)] := by unfold leavesM; rw [List.range_succ]; simp
theorem leavesM_len (s : Int) (r : Bool) (ls : List (List Int)) (n : Nat) : (leavesM s r ls n).length = n := by simp [leavesM]
/-- A place is visited at a time by one of some rounds; the times from t on, d of them, at which it is. -/
def visQM (ls : List (List Int)) (p : Int) (t : Nat) : Bool := ls.any (fun l => rd l (t : Int) == p)
def visM (ls : List (List Int)) (p : Int) : Nat → Nat → List Int
  | 0, _ => []
  | d + 1, t => if visQM ls p t = true then (t : Int) :: visM ls p d (t + 1) else visM ls p d (t + 1)
theorem visM_succ (ls : List (List Int)) (p : Int) (d t : Nat) : visM ls p (d + 1) t = if visQM ls p t = true then (t : Int) :: visM ls p d (t + 1) else visM ls p d (t + 1) := rfl
theorem visM_len (ls : List (List Int)) (p : Int) : ∀ d t, (visM ls p d t).length ≤ d
  | 0, _ => by simp [visM]
  | d + 1, t => by
    rw [visM_succ]
    have := visM_len ls p d (t + 1)
    split
    · rw [List.length_cons]; omega
    · omega
theorem patrolOk_bd {s : Int} {r : Bool} {ls : List (List Int)} (h : patrolOk s r ls = true) : (1 ≤ ls.length ∧ ls.length ≤ 6) ∧ (1 ≤ (ls.headD []).length ∧ (ls.headD []).length ≤ 60) ∧ ∀ l ∈ ls, l.length = (ls.headD []).length ∧ roundOk s r l = true := by
  unfold patrolOk at h
  rw [Bool.and_eq_true, Bool.and_eq_true, List.all_eq_true] at h
  have h1 := inR_iff.1 h.1.1
  have h2 := inR_iff.1 h.1.2
  refine ⟨⟨by omega, by omega⟩, ⟨by omega, by omega⟩, fun l hl => ?_⟩
  have := h.2 l hl
  rw [Bool.and_eq_true, decide_eq_true_eq] at this
  exact this
theorem rdLL5 (ws : List (List Int)) (i : Nat) (h : i < ws.length) : rd_L1 ws (i : Int) = ws[i] := by
  unfold rd_L1
  simp [List.getD_eq_getElem?_getD, List.getElem?_eq_getElem h]
theorem rdLL5_head (ws : List (List Int)) : rd_L1 ws 0 = ws.headD [] := by unfold rd_L1; cases ws <;> simp
theorem spec_l5Times_l1 (ls : List (List Int)) (p : Int) (t : Nat) (ht : t ≤ 1000) (acc : List Int) (ha : acc.length ≤ 1000) (hl : ls.length ≤ 1000) (hw : ∀ x ∈ ls, t < x.length) (B : Nat) (res : List Int) : ∀ (d i : Nat), i + d = ls.length →
    (∀ k, B ≤ k → spec_l5Times.l0 k ls p (if ((ls.drop i).any fun l => rd l (t : Int) == p) = true then acc ++ [(t : Int)] else acc) ((t + 1 : Nat) : Int) = some res) → ∀ k, B + d + 1 ≤ k → spec_l5Times.l1 k ls p acc (t : Int) (i : Int) = some res
  | 0, i, hi, H, k, hk => by
    obtain ⟨k, rfl⟩ := succ_of (k := k) (by omega)
    have := H k (by omega)
    rw [drop_end ls i (by omega), List.any_nil, if_neg (by simp)] at this
    simp only [spec_l5Times.l1]
    rw [if_neg (by omega), wrap64_id (by omega) (by omega)]
    exact this
  | d + 1, i, hi, H, k, hk => by
    obtain ⟨k, rfl⟩ := succ_of (k := k) (by omega)
    have hi' : i < ls.length := by omega
    have hx := hw _ (List.getElem_mem hi')
    have e : ((ls.drop i).any fun l => rd l (t : Int) == p) = (rd ls[i] (t : Int) == p || ((ls.drop (i + 1)).any fun l => rd l (t : Int) == p)) := by rw [List.drop_eq_getElem_cons hi', List.any_cons]
    rw [e] at H
    simp only [spec_l5Times.l1]
    rw [if_pos (by omega), if_pos (by omega), if_pos (by omega), rdLL5 ls i hi', if_pos (by omega)]
    by_cases c : rd ls[i] (t : Int) = p
    · rw [if_pos c, if_pos (by omega), wrap64_id (by omega) (by omega)]
      have := H k (by omega)
      rw [show (rd ls[i] (t : Int) == p) = true by simpa using c, Bool.true_or, if_pos rfl] at this
      exact this
    · rw [if_neg c, wrap64_id (by omega) (by omega)]
      refine spec_l5Times_l1 ls p t ht acc ha hl hw B res d (i + 1) (by omega) ?_ k (by omega)
      rw [show (rd ls[i] (t : Int) == p) = false by simpa using c, Bool.false_or] at H
      exact H
theorem spec_l5Times_l0 (ls : List (List Int)) (p : Int) (L : Nat) (hL : L ≤ 1000) (h0 : 0 < ls.length) (hl : ls.length ≤ 1000) (hw : ∀ x ∈ ls, x.length = L) : ∀ (d t : Nat) (acc : List Int), t + d = L → acc.length ≤ t → ∀ k, d * (ls.length + 2) + 1 ≤ k →
    spec_l5Times.l0 k ls p acc (t : Int) = some (acc ++ visM ls p d t)
  | 0, t, acc, h, ha, k, hk => by
    obtain ⟨k, rfl⟩ := succ_of (k := k) (by omega)
    have e : (ls.headD []).length = L := hw _ (headD_mem ls [] h0)
    simp only [spec_l5Times.l0]
    rw [if_pos (by omega), rdLL5_head, e, if_neg (by omega)]
    simp [visM]
  | d + 1, t, acc, h, ha, k, hk => by
    obtain ⟨k, rfl⟩ := succ_of (k := k) (by omega)
    have e : (ls.headD []).length = L := hw _ (headD_mem ls [] h0)
    simp only [spec_l5Times.l0]
    rw [if_pos (by omega), rdLL5_head, e, if_pos (by omega)]
    refine spec_l5Times_l1 ls p t (by omega) acc (by omega) hl (fun x hx => by rw [hw x hx]; omega) (d * (ls.length + 2) + 1) _ ls.length 0 (by omega) ?_ k (by rw [Nat.succ_mul] at hk; omega)
    intro k hk
    rw [List.drop_zero, visM_succ]
    unfold visQM
    split
    · rw [spec_l5Times_l0 ls p L hL h0 hl hw d (t + 1) _ (by omega) (by simp; omega) k hk]
      simp
    · rw [spec_l5Times_l0 ls p L hL h0 hl hw d (t + 1) _ (by omega) (by omega) k hk]
theorem spec_l5Times_eq (k : Nat) (ls : List (List Int)) (p : Int) (L : Nat) (hL : L ≤ 60) (h0 : 0 < ls.length) (hl : ls.length ≤ 6) (hw : ∀ x ∈ ls, x.length = L) (hk : 500 < k) : spec_l5Times.f k ls p = some (visM ls p L 0) := by
  unfold spec_l5Times.f
  have h1 : L * (ls.length + 2) ≤ 60 * 8 := Nat.mul_le_mul hL (by omega)
  have := spec_l5Times_l0 ls p L (by omega) h0 (by omega) hw L 0 [] (by omega) (by simp) k (by omega)
  simpa using this
open Go.Proofs.Ytkibnncghhelnaa.Own in
theorem anyOV_eq {α : Type} {q : α → Option Bool} {p : α → Bool} : ∀ {l : List α}, (∀ x ∈ l, q x = some (p x)) → anyO q l = some (l.any p)
  | [], _ => rfl
  | x :: t, h => by
    simp only [anyO]
    rw [h x (List.mem_cons_self ..), Option.bind_some, anyOV_eq (fun y hy => h y (List.mem_cons_of_mem _ hy)), List.any_cons]
    cases p x <;> simp
theorem visO_eq (ls : List (List Int)) (p : Int) (L : Nat) (hL : L ≤ 1000) (hw : ∀ x ∈ ls, x.length = L) : ∀ (d t : Nat) (acc : List Int), t + d = L → acc.length ≤ t →
    visO ls p d t acc = some (acc ++ visM ls p d t)
  | 0, t, acc, h, ha => by simp [visO, visM]
  | d + 1, t, acc, h, ha => by
    simp only [visO]
    rw [anyOV_eq (p := fun l => rd l (t : Int) == p) (fun x hx => by unfold visQ; rw [if_pos (by rw [hw x hx]; omega)]), Option.bind_some, visM_succ]
    unfold visQM
    split
    · rw [if_pos (by omega), visO_eq ls p L hL hw d (t + 1) _ (by omega) (by simp; omega)]
      simp
    · rw [visO_eq ls p L hL hw d (t + 1) _ (by omega) (by omega)]
theorem impl_visitTimes_eq (k : Nat) (ls : List (List Int)) (p : Int) (L : Nat) (hL : L ≤ 1000) (h0 : 0 < ls.length) (hw : ∀ x ∈ ls, x.length = L) : impl_visitTimes.f k ls p = some (visM ls p L 0) := by
  unfold impl_visitTimes.f
  have e : (rd_L1 ls 0).length = L := by
    have : rd_L1 ls 0 = ls.headD [] := by unfold rd_L1; cases ls <;> simp
    rw [this]
    exact hw _ (headD_mem ls [] h0)
  rw [if_pos (by omega), e, visO_eq ls p L hL hw L 0 [] (by omega) (by simp)]
  simp
/-- The time between a visit and the next one; the greatest of them from the i-th on; the idle times of places. -/
def gapT (L : Nat) (T : List Int) (i : Nat) : Int := (if i + 1 < T.length then rd T ((i + 1 : Nat) : Int) else (L : Int) + rd T 0) - rd T (i : Int)
def idleF (L : Nat) (T : List Int) : Nat → Nat → Int → Int
  | 0, _, m => m
  | d + 1, i, m => idleF L T d (i + 1) (mx m (gapT L T i))
theorem idleF_succ (L : Nat) (T : List Int) (d i : Nat) (m : Int) : idleF L T (d + 1) i m = idleF L T d (i + 1) (mx m (gapT L T i)) := rfl
def idleM (ls : List (List Int)) (L : Nat) (p : Nat) : Int := idleF L (visM ls (p : Int) L 0) (visM ls (p : Int) L 0).length 0 (-1)
def idlesM (ls : List (List Int)) (L : Nat) : Nat → Nat → List Int
  | 0, _ => []
  | d + 1, p => idleM ls L p :: idlesM ls L d (p + 1)
theorem idlesM_len (ls : List (List Int)) (L : Nat) : ∀ d p, (idlesM ls L d p).length = d
  | 0, _ => rfl
  | d + 1, p => by simp [idlesM, idlesM_len ls L d (p + 1)]
theorem visM_bd (ls : List (List Int)) (p : Int) : ∀ d t, ∀ x ∈ visM ls p d t, (t : Int) ≤ x ∧ x < (t : Int) + d
  | 0, t => by simp [visM]
  | d + 1, t => by
    intro x hx
    rw [visM_succ] at hx
    have ih := visM_bd ls p d (t + 1)
    split at hx
    · rcases List.mem_cons.1 hx with rfl | hx
      · omega
      · have := ih x hx; omega
    · have := ih x hx; omega
theorem rdT_bd {L : Nat} {T : List Int} (hT : ∀ x ∈ T, 0 ≤ x ∧ x < (L : Int)) (i : Nat) (hi : i < T.length) : 0 ≤ rd T (i : Int) ∧ rd T (i : Int) < (L : Int) := by
  rw [rd_get T i hi]
  exact hT _ (List.getElem_mem hi)
theorem gapT_bd {L : Nat} {T : List Int} (hT : ∀ x ∈ T, 0 ≤ x ∧ x < (L : Int)) (i : Nat) (hi : i < T.length) : -(L : Int) ≤ gapT L T i ∧ gapT L T i ≤ 2 * (L : Int) := by
  have h1 := rdT_bd hT i hi
  have h2 := rdT_bd hT 0 (by omega)
  rw [Int.natCast_zero] at h2
  unfold gapT
  split
  · rename_i h
    have h3 := rdT_bd hT (i + 1) h
    omega
  · omega
theorem mx_bd (a b : Int) : a ≤ mx a b ∧ b ≤ mx a b ∧ (mx a b = a ∨ mx a b = b) := by unfold mx; split <;> omega
theorem idleF_bd {L : Nat} {T : List Int} (hT : ∀ x ∈ T, 0 ≤ x ∧ x < (L : Int)) : ∀ (d i : Nat) (m : Int), i + d = T.length → m ≤ 2 * (L : Int) → m ≤ idleF L T d i m ∧ idleF L T d i m ≤ 2 * (L : Int)
  | 0, i, m, _, hm => ⟨Int.le_refl _, hm⟩
  | d + 1, i, m, h, hm => by
    have h1 := gapT_bd hT i (by omega)
    have h2 := mx_bd m (gapT L T i)
    have := idleF_bd hT d (i + 1) (mx m (gapT L T i)) (by omega) (by omega)
    rw [idleF_succ]
    omega
theorem visM_T (ls : List (List Int)) (p : Int) (L : Nat) : ∀ x ∈ visM ls p L 0, 0 ≤ x ∧ x < (L : Int) := fun x hx => by have := visM_bd ls p L 0 x hx; omega
theorem idleM_bd (ls : List (List Int)) (L p : Nat) : -1 ≤ idleM ls L p ∧ idleM ls L p ≤ 2 * (L : Int) := by
  have := idleF_bd (visM_T ls (p : Int) L) (visM ls (p : Int) L 0).length 0 (-1) (by omega) (by omega)
  exact this
theorem hi2_mx5 (a b : Int) : (if b < a then a else b) = mx a b := by unfold mx; split <;> split <;> omega
theorem spec_l5Idle_l1 (s : Int) (r : Bool) (ls : List (List Int)) (L : Nat) (hL : L ≤ 60) (h0 : 0 < ls.length) (e : (ls.headD []).length = L) (T : List Int) (hn : T.length ≤ 60) (hT : ∀ x ∈ T, 0 ≤ x ∧ x < (L : Int)) (acc : List Int) (ha : acc.length ≤ 1000) (p : Nat) (hp : p ≤ 1000) (B : Nat) (res : List Int) : ∀ (d i : Nat) (m : Int), i + d = T.length → -1 ≤ m ∧ m ≤ 1000 →
    (∀ k, B ≤ k → spec_l5Idle.l0 k ls (acc ++ [idleF L T d i m]) ((p + 1 : Nat) : Int) s r = some res) → ∀ k, B + d + 1 ≤ k → spec_l5Idle.l1 k ls acc (p : Int) T m (i : Int) s r = some res
  | 0, i, m, hi, hm, H, k, hk => by
    obtain ⟨k, rfl⟩ := succ_of (k := k) (by omega)
    simp only [spec_l5Idle.l1]
    rw [if_neg (by omega), if_pos (by omega), wrap64_id (by omega) (by omega)]
    exact H k (by omega)
  | d + 1, i, m, hi, hm, H, k, hk => by
    obtain ⟨k, rfl⟩ := succ_of (k := k) (by omega)
    have h1 := rdT_bd hT i (by omega)
    have h2 := rdT_bd hT 0 (by omega)
    rw [Int.natCast_zero] at h2
    have hg := gapT_bd hT i (by omega)
    have hx := mx_bd m (gapT L T i)
    simp only [spec_l5Idle.l1]
    rw [if_pos (by omega), if_pos (by omega), if_pos (by omega), wrap_succ (n := T.length) (by omega) (by omega), rdLL5_head, e]
    by_cases c : i + 1 < T.length
    · have h3 := rdT_bd hT (i + 1) c
      have hgv : gapT L T i = rd T ((i + 1 : Nat) : Int) - rd T (i : Int) := by unfold gapT; rw [if_pos c]
      rw [if_pos (by omega), if_pos (by omega), if_pos (by omega), wrap64_id (by omega) (by omega), spec_l1Most_eq, Option.bind_some, ← hgv]
      unfold hi2
      rw [hi2_mx5]
      exact spec_l5Idle_l1 s r ls L hL h0 e T hn hT acc ha p hp B res d (i + 1) _ (by omega) (by omega) H k (by omega)
    · have hgv : gapT L T i = (L : Int) + rd T 0 - rd T (i : Int) := by unfold gapT; rw [if_neg c]
      rw [if_neg (by omega), if_pos (by omega), wrap64_id (x := rd T 0 + (L : Int)) (by omega) (by omega), wrap64_id (by omega) (by omega), spec_l1Most_eq, Option.bind_some, show rd T 0 + (L : Int) - rd T (i : Int) = gapT L T i by rw [hgv]; omega]
      unfold hi2
      rw [hi2_mx5]
      exact spec_l5Idle_l1 s r ls L hL h0 e T hn hT acc ha p hp B res d (i + 1) _ (by omega) (by omega) H k (by omega)
theorem spec_l5Idle_l0 (s : Int) (r : Bool) (hs : s ≤ 100) (ls : List (List Int)) (L : Nat) (hL : L ≤ 60) (h0 : 0 < ls.length) (hl : ls.length ≤ 6) (hw : ∀ x ∈ ls, x.length = L) : ∀ (d p : Nat) (acc : List Int), (p : Int) + d = s → acc.length ≤ p → ∀ k, d * 70 + 600 ≤ k →
    spec_l5Idle.l0 k ls acc (p : Int) s r = some (acc ++ idlesM ls L d p)
  | 0, p, acc, h, ha, k, hk => by
    obtain ⟨k, rfl⟩ := succ_of (k := k) (by omega)
    simp only [spec_l5Idle.l0]
    rw [if_neg (by omega)]
    simp [idlesM]
  | d + 1, p, acc, h, ha, k, hk => by
    obtain ⟨k, rfl⟩ := succ_of (k := k) (by omega)
    have hvl := visM_len ls (p : Int) L 0
    simp only [spec_l5Idle.l0]
    rw [if_pos (by omega), spec_l5Times_eq k ls _ L hL h0 hl hw (by omega), Option.bind_some]
    refine spec_l5Idle_l1 s r ls L hL h0 (hw _ (headD_mem ls [] h0)) _ (by omega) (visM_T ls (p : Int) L) acc (by omega) p (by omega) (d * 70 + 600) _ _ 0 (-1) (Nat.zero_add _) (by omega) ?_ k (by omega)
    intro k hk
    rw [spec_l5Idle_l0 s r hs ls L hL h0 hl hw d (p + 1) _ (by omega) (by simp; omega) k hk]
    simp [idlesM, idleM]
theorem spec_l5Idle_eq (k : Nat) (s : Int) (r : Bool) (hr : road s r = true) (ls : List (List Int)) (hp : patrolOk s r ls = true) (hk : 3000 < k) : spec_l5Idle.f k s r ls = some (idlesM ls (ls.headD []).length s.toNat 0) := by
  have hb := patrolOk_bd hp
  have hs := road_bd hr
  unfold spec_l5Idle.f
  have := spec_l5Idle_l0 s r (by omega) ls _ hb.2.1.2 (by omega) hb.1.2 (fun x hx => (hb.2.2 x hx).1) s.toNat 0 [] (by omega) (by simp) k (by omega)
  simpa using this
theorem impl_Road_idleTimes_l1 (s : Int) (ls : List (List Int)) (L : Nat) (hL : L ≤ 60) (h0 : 0 < ls.length) (e : (ls.headD []).length = L) (T : List Int) (hn : T.length ≤ 60) (hT : ∀ x ∈ T, 0 ≤ x ∧ x < (L : Int)) (acc : List Int) (ha : acc.length ≤ 1000) (p : Nat) (hp : p ≤ 1000) (B : Nat) (res : List Int) : ∀ (d i : Nat) (m : Int), i + d = T.length → -1 ≤ m ∧ m ≤ 1000 →
    (∀ k, B ≤ k → impl_Road_idleTimes.l0 k ls (acc ++ [idleF L T d i m]) s ((p + 1 : Nat) : Int) = some res) → ∀ k, B + d + 1 ≤ k → impl_Road_idleTimes.l1 k ls acc T m s (p : Int) T (T.length : Int) (i : Int) = some res
  | 0, i, m, hi, hm, H, k, hk => by
    obtain ⟨k, rfl⟩ := succ_of (k := k) (by omega)
    simp only [impl_Road_idleTimes.l1]
    rw [if_neg (by omega), if_pos (by omega), wrap64_id (by omega) (by omega)]
    exact H k (by omega)
  | d + 1, i, m, hi, hm, H, k, hk => by
    obtain ⟨k, rfl⟩ := succ_of (k := k) (by omega)
    have h1 := rdT_bd hT i (by omega)
    have h2 := rdT_bd hT 0 (by omega)
    rw [Int.natCast_zero] at h2
    have hg := gapT_bd hT i (by omega)
    have hx := mx_bd m (gapT L T i)
    have hh : rd_L1 ls 0 = ls.headD [] := by unfold rd_L1; cases ls <;> simp
    simp only [impl_Road_idleTimes.l1]
    rw [if_pos (by omega), if_pos (by omega), if_pos (by omega), if_pos (by omega), if_pos (by omega), wrap_succ (n := T.length) (by omega) (by omega), hh, e]
    by_cases c : i + 1 < T.length
    · have h3 := rdT_bd hT (i + 1) c
      have hgv : gapT L T i = rd T ((i + 1 : Nat) : Int) - rd T (i : Int) := by unfold gapT; rw [if_pos c]
      rw [if_pos (by omega), if_pos (by omega), wrap64_id (by omega) (by omega), ← hgv]
      exact impl_Road_idleTimes_l1 s ls L hL h0 e T hn hT acc ha p hp B res d (i + 1) _ (by omega) (by omega) H k (by omega)
    · have hgv : gapT L T i = (L : Int) + rd T 0 - rd T (i : Int) := by unfold gapT; rw [if_neg c]
      rw [if_neg (by omega), wrap64_id (x := (L : Int) + rd T 0) (by omega) (by omega), wrap64_id (by omega) (by omega), ← hgv]
      exact impl_Road_idleTimes_l1 s ls L hL h0 e T hn hT acc ha p hp B res d (i + 1) _ (by omega) (by omega) H k (by omega)
theorem impl_Road_idleTimes_l0 (s : Int) (hs : s ≤ 100) (ls : List (List Int)) (L : Nat) (hL : L ≤ 60) (h0 : 0 < ls.length) (hw : ∀ x ∈ ls, x.length = L) : ∀ (d p : Nat) (acc : List Int), (p : Int) + d = s → acc.length ≤ p → ∀ k, d * 70 + 600 ≤ k →
    impl_Road_idleTimes.l0 k ls acc s (p : Int) = some (acc ++ idlesM ls L d p)
  | 0, p, acc, h, ha, k, hk => by
    obtain ⟨k, rfl⟩ := succ_of (k := k) (by omega)
    simp only [impl_Road_idleTimes.l0]
    rw [if_neg (by omega)]
    simp [idlesM]
  | d + 1, p, acc, h, ha, k, hk => by
    obtain ⟨k, rfl⟩ := succ_of (k := k) (by omega)
    have hvl := visM_len ls (p : Int) L 0
    simp only [impl_Road_idleTimes.l0]
    rw [if_pos (by omega), impl_visitTimes_eq k ls _ L (by omega) h0 hw, Option.bind_some]
    refine impl_Road_idleTimes_l1 s ls L hL h0 (hw _ (headD_mem ls [] h0)) _ (by omega) (visM_T ls (p : Int) L) acc (by omega) p (by omega) (d * 70 + 600) _ _ 0 (-1) (Nat.zero_add _) (by omega) ?_ k (by omega)
    intro k hk
    rw [impl_Road_idleTimes_l0 s hs ls L hL h0 hw d (p + 1) _ (by omega) (by simp; omega) k hk]
    simp [idlesM, idleM]
theorem impl_Road_idleTimes_eq (k : Nat) (s : Int) (r : Bool) (hr : road s r = true) (ls : List (List Int)) (hp : patrolOk s r ls = true) (hk : 3000 < k) : impl_Road_idleTimes.f k s r ls = some (idlesM ls (ls.headD []).length s.toNat 0) := by
  have hb := patrolOk_bd hp
  have hs := road_bd hr
  unfold impl_Road_idleTimes.f
  have := impl_Road_idleTimes_l0 s (by omega) ls _ hb.2.1.2 (by omega) (fun x hx => (hb.2.2 x hx).1) s.toNat 0 [] (by omega) (by simp) k (by omega)
  simpa using this
/-- The greatest of some numbers, or -1 if one is less than 0. -/
def pauseM (T : List Int) : Int := if (T.any fun x => decide (x < 0)) = true then -1 else T.foldl mx 0
theorem foldl_mx_le (T : List Int) : ∀ m : Int, m ≤ T.foldl mx m := by
  induction T with
  | nil => intro m; simp
  | cons x t ih => intro m; have := ih (mx m x); have := mx_bd m x; rw [List.foldl_cons]; omega
theorem pauseM_pos {T : List Int} (h : (T.any fun x => decide (x < 0)) = false) : 0 ≤ pauseM T := by
  unfold pauseM
  rw [h, if_neg (by simp)]
  exact foldl_mx_le T 0
theorem idlesM_bd (ls : List (List Int)) (L : Nat) : ∀ d p, ∀ x ∈ idlesM ls L d p, -1 ≤ x ∧ x ≤ 2 * (L : Int)
  | 0, _ => by simp [idlesM]
  | d + 1, p => by
    intro x hx
    rcases List.mem_cons.1 hx with rfl | hx
    · exact idleM_bd ls L p
    · exact idlesM_bd ls L d (p + 1) x hx
theorem idlesM_neg (ls : List (List Int)) (L d p : Nat) : ((idlesM ls L d p).any fun y => decide (y = -1)) = ((idlesM ls L d p).any fun y => decide (y < 0)) := by
  rw [Bool.eq_iff_iff]
  simp only [List.any_eq_true, decide_eq_true_eq]
  constructor
  · rintro ⟨y, hy, rfl⟩; exact ⟨-1, hy, by omega⟩
  · rintro ⟨y, hy, h⟩; exact ⟨y, hy, by have := idlesM_bd ls L d p y hy; omega⟩
theorem spec_l5Pause_l0 (T : List Int) (hl : T.length ≤ 1000) : ∀ (d i k : Nat) (m : Int), i + d = T.length → d < k →
    spec_l5Pause.l0 k T m (i : Int) = some (if ((T.drop i).any fun x => decide (x < 0)) = true then -1 else (T.drop i).foldl mx m)
  | 0, i, k, m, h, hk => by
    obtain ⟨k, rfl⟩ := succ_of (k := k) (by omega)
    simp only [spec_l5Pause.l0]
    rw [if_neg (by omega), drop_end _ i (by omega)]
    rfl
  | d + 1, i, k, m, h, hk => by
    obtain ⟨k, rfl⟩ := succ_of (k := k) (by omega)
    simp only [spec_l5Pause.l0]
    rw [if_pos (by omega), if_pos (by omega), drop_rd T i (by omega), List.any_cons, List.foldl_cons]
    by_cases c : rd T (i : Int) < 0
    · rw [if_pos c, decide_eq_true c]
      rfl
    · rw [if_neg c, decide_eq_false c, Bool.false_or, spec_l1Most_eq, Option.bind_some, wrap_succ (n := T.length) (by omega) (by omega)]
      unfold hi2
      rw [hi2_mx5]
      exact spec_l5Pause_l0 T hl d (i + 1) k _ (by omega) (by omega)
theorem spec_l5Pause_of (k : Nat) (s : Int) (r : Bool) (ls : List (List Int)) (T : List Int) (h : spec_l5Idle.f k s r ls = some T) (hl : T.length ≤ 1000) (hk : T.length < k) : spec_l5Pause.f k s r ls = some (pauseM T) := by
  unfold spec_l5Pause.f
  rw [h, Option.bind_some]
  have := spec_l5Pause_l0 T hl T.length 0 k 0 (by omega) hk
  rw [List.drop_zero] at this
  exact this
theorem spec_l5Pause_eq (k : Nat) (s : Int) (r : Bool) (hr : road s r = true) (ls : List (List Int)) (hp : patrolOk s r ls = true) (hk : 3000 < k) : spec_l5Pause.f k s r ls = some (pauseM (idlesM ls (ls.headD []).length s.toNat 0)) := by
  have := road_bd hr
  exact spec_l5Pause_of k s r ls _ (spec_l5Idle_eq k s r hr ls hp hk) (by rw [idlesM_len]; omega) (by rw [idlesM_len]; omega)
theorem slices_Max_pause (k : Nat) (T : List Int) (h0 : 0 < T.length) (h : (T.any fun x => decide (x < 0)) = false) : slices_Max_int_int.f k T = some (pauseM T) := by
  unfold slices_Max_int_int.f pauseM
  rw [if_pos (by omega), h, if_neg (by simp)]
  congr 1
  cases T with
  | nil => simp at h0
  | cons x t =>
    simp only [List.any_cons, Bool.or_eq_false_iff, decide_eq_false_iff_not] at h
    have e2 : mx 0 x = x := by unfold mx; split <;> omega
    simp only [List.foldl_cons, e2, List.drop_succ_cons, List.drop_zero]
    rfl
/-- The patrol of g guards; its pause. -/
def patM (s : Nat) (r : Bool) (g : Nat) : List (List Int) := if r = true then ringM (s : Int) g g else partsM s g
def pzM (s : Nat) (r : Bool) (g : Nat) : Int := pauseM (idlesM (patM s r g) ((patM s r g).headD []).length s 0)
def patChk (s : Nat) (r : Bool) (g : Nat) : Bool := decide (0 < (patM s r g).length) && decide ((patM s r g).length ≤ 6) && decide (((patM s r g).headD []).length ≤ 60) && (patM s r g).all (fun l => l.length == ((patM s r g).headD []).length) && (List.range s).all (fun p => (patM s r g).any fun l => l.any (fun x => x == (p : Int)))
theorem patChk_all : ((List.range' 2 23).all fun s => (List.range' 1 6).all fun g => [true, false].all fun r => !(r || decide (g ≤ s)) || patChk s r g) = true := by decide +kernel
theorem pzM_all : ((List.range' 2 5).all fun s => [true, false].all fun r => !(!r || decide (3 ≤ s)) || decide (pzM s r s ≤ 1)) = true := by decide +kernel
theorem patChk_of {s g : Nat} {r : Bool} (hs : 2 ≤ s ∧ s ≤ 24) (hg : 1 ≤ g ∧ g ≤ 6) (h : r = true ∨ g ≤ s) : patChk s r g = true := by
  have h1 := List.all_eq_true.1 patChk_all s (List.mem_range'_1.2 (by omega))
  have h2 := List.all_eq_true.1 h1 g (List.mem_range'_1.2 (by omega))
  have h3 := List.all_eq_true.1 h2 r (by cases r <;> simp)
  have e : (r || decide (g ≤ s)) = true := by rcases h with rfl | h <;> simp [*]
  rw [e] at h3
  simpa using h3
theorem pzM_of {s : Nat} {r : Bool} (hs : 2 ≤ s ∧ s ≤ 6) (h : r = true → 3 ≤ s) : pzM s r s ≤ 1 := by
  have h1 := List.all_eq_true.1 pzM_all s (List.mem_range'_1.2 (by omega))
  have h3 := List.all_eq_true.1 h1 r (by cases r <;> simp)
  have e : (!r || decide (3 ≤ s)) = true := by
    cases r with
    | true => simpa using h rfl
    | false => rfl
  rw [e] at h3
  simpa using h3
theorem visM_ne (ls : List (List Int)) (p : Int) : ∀ (d t i : Nat), t ≤ i → i < t + d → visQM ls p i = true → 0 < (visM ls p d t).length
  | 0, t, i, h1, h2, _ => by omega
  | d + 1, t, i, h1, h2, hq => by
    rw [visM_succ]
    by_cases c : visQM ls p t = true
    · rw [if_pos c]; simp
    · rw [if_neg c]
      by_cases e : i = t
      · subst e; exact absurd hq c
      · exact visM_ne ls p d (t + 1) i (by omega) (by omega) hq
theorem idleF_ge {L : Nat} {T : List Int} (hT : ∀ x ∈ T, 0 ≤ x ∧ x < (L : Int)) : ∀ (d i : Nat) (m : Int), i + d = T.length → 0 < d → 1 ≤ idleF L T d i m
  | 0, _, _, _, h => by omega
  | 1, i, m, h, _ => by
    have h1 := rdT_bd hT i (by omega)
    have h2 := rdT_bd hT 0 (by omega)
    rw [Int.natCast_zero] at h2
    have h3 := mx_bd m (gapT L T i)
    have hg : gapT L T i = (L : Int) + rd T 0 - rd T (i : Int) := by unfold gapT; rw [if_neg (by omega)]
    show 1 ≤ mx m (gapT L T i)
    omega
  | d + 2, i, m, h, _ => by
    rw [idleF_succ]
    exact idleF_ge hT (d + 1) (i + 1) _ (by omega) (by omega)
theorem idles_pos {ls : List (List Int)} {L s : Nat} (hw : ∀ l ∈ ls, l.length = L) (hv : (List.range s).all (fun p => ls.any fun l => l.any (fun x => x == (p : Int))) = true) : ∀ d p, p + d = s → ((idlesM ls L d p).any fun x => decide (x < 0)) = false
  | 0, _, _ => rfl
  | d + 1, p, h => by
    have h1 := List.all_eq_true.1 hv p (List.mem_range.2 (by omega))
    obtain ⟨l, hl, h2⟩ := List.any_eq_true.1 h1
    obtain ⟨x, hx, h3⟩ := List.any_eq_true.1 h2
    obtain ⟨i, hi, rfl⟩ := List.mem_iff_getElem.1 hx
    have hL := hw l hl
    have hq : visQM ls (p : Int) i = true := by
      unfold visQM
      exact List.any_eq_true.2 ⟨l, hl, by rw [rd_get l i hi]; exact h3⟩
    have hn := visM_ne ls (p : Int) L 0 i (by omega) (by omega) hq
    have h4 := idleF_ge (visM_T ls (p : Int) L) (visM ls (p : Int) L 0).length 0 (-1) (by omega) hn
    have h5 := idles_pos hw hv d (p + 1) (by omega)
    have e : idlesM ls L (d + 1) p = idleM ls L p :: idlesM ls L d (p + 1) := rfl
    rw [e, List.any_cons, h5]
    have h6 : 1 ≤ idleM ls L p := h4
    simp; omega
theorem patM_facts {s g : Nat} {r : Bool} (hs : 2 ≤ s ∧ s ≤ 24) (hg : 1 ≤ g ∧ g ≤ 6) (h : r = true ∨ g ≤ s) : (0 < (patM s r g).length ∧ (patM s r g).length ≤ 6) ∧ ((patM s r g).headD []).length ≤ 60 ∧ (∀ l ∈ patM s r g, l.length = ((patM s r g).headD []).length) ∧ ((idlesM (patM s r g) ((patM s r g).headD []).length s 0).any fun x => decide (x < 0)) = false := by
  have hc := patChk_of hs hg h
  unfold patChk at hc
  simp only [Bool.and_eq_true, decide_eq_true_eq] at hc
  obtain ⟨⟨⟨⟨h1, h2⟩, h3⟩, h4⟩, h5⟩ := hc
  have hw : ∀ l ∈ patM s r g, l.length = ((patM s r g).headD []).length := fun l hl => by have := List.all_eq_true.1 h4 l hl; simpa using this
  exact ⟨⟨h1, h2⟩, h3, hw, idles_pos hw h5 s 0 (by omega)⟩
/-- The least number of guards from g on, of d numbers. -/
def gnM (s : Nat) (r : Bool) (pause : Int) : Nat → Nat → Int × Bool
  | 0, _ => (0, false)
  | d + 1, g => if pzM s r g ≤ pause then ((g : Int), true) else gnM s r pause d (g + 1)
theorem gnM_succ (s : Nat) (r : Bool) (pause : Int) (d g : Nat) : gnM s r pause (d + 1) g = if pzM s r g ≤ pause then ((g : Int), true) else gnM s r pause d (g + 1) := rfl
theorem spec_pz (k : Nat) (s g : Nat) (r : Bool) (hs : 2 ≤ s ∧ s ≤ 24) (hg : 1 ≤ g ∧ g ≤ 6) (h : r = true ∨ g ≤ s) (hk : 3000 < k) : spec_l5Pause.f k (s : Int) r (patM s r g) = some (pzM s r g) := by
  obtain ⟨h1, h2, h3, h4⟩ := patM_facts hs hg h
  have h5 : spec_l5Idle.f k (s : Int) r (patM s r g) = some (idlesM (patM s r g) ((patM s r g).headD []).length s 0) := by
    unfold spec_l5Idle.f
    have := spec_l5Idle_l0 (s : Int) r (by omega) (patM s r g) _ h2 h1.1 h1.2 h3 s 0 [] (by omega) (by simp) k (by omega)
    simpa using this
  exact spec_l5Pause_of k (s : Int) r _ _ h5 (by rw [idlesM_len]; omega) (by rw [idlesM_len]; omega)
theorem spec_GuardsNeeded_l0 (s : Nat) (r : Bool) (pause : Int) (hs : 2 ≤ s ∧ s ≤ 24) : ∀ (d g k : Nat), g + d = min 6 s + 1 → 1 ≤ g → 2 * d + 4000 < k →
    spec_GuardsNeeded.l0 k pause (g : Int) (s : Int) r = some (gnM s r pause d g)
  | 0, g, k, h, hg, hk => by
    obtain ⟨k, rfl⟩ := succ_of (k := k) (by omega)
    obtain ⟨k, rfl⟩ := succ_of (k := k) (by omega)
    simp only [spec_GuardsNeeded.l0, spec_GuardsNeeded.j2]
    by_cases c : (g : Int) ≤ 6
    · rw [if_pos c, decide_eq_false (by omega)]
      simp [gnM]
    · rw [if_neg c]
      simp [gnM]
  | d + 1, g, k, h, hg, hk => by
    obtain ⟨k, rfl⟩ := succ_of (k := k) (by omega)
    obtain ⟨k, rfl⟩ := succ_of (k := k) (by omega)
    have ih := spec_GuardsNeeded_l0 s r pause hs d (g + 1) k (by omega) (by omega) (by omega)
    have hp := spec_pz k s g r hs (by omega) (.inr (by omega)) (by omega)
    simp only [spec_GuardsNeeded.l0, spec_GuardsNeeded.j2]
    rw [if_pos (by omega), decide_eq_true (by omega), if_pos rfl, wrap64_id (by omega) (by omega), show (g : Int) + 1 = ((g + 1 : Nat) : Int) by omega, ih, gnM_succ]
    cases r with
    | true =>
      rw [if_pos rfl, spec_l5Ring_eq k (s : Int) true g (by omega) (by omega) (by omega), Option.bind_some, show ringM (s : Int) g g = patM s true g from rfl, hp, Option.bind_some]
      split <;> rfl
    | false =>
      rw [if_neg (by simp), spec_l5Parts_eq k s g false hs (by omega) (by omega) (by omega), Option.bind_some, show partsM s g = patM s false g from rfl, hp, Option.bind_some]
      split <;> rfl
theorem spec_GuardsNeeded_eq (k : Nat) (s : Int) (r : Bool) (pause : Int) (hk : 5000 < k) :
    spec_GuardsNeeded.f k s r pause = some (if (road s r && decide (1 ≤ pause)) = true then gnM s.toNat r pause (min 6 s.toNat) 1 else (0, false)) := by
  obtain ⟨k, rfl⟩ := succ_of (k := k) (by omega)
  unfold spec_GuardsNeeded.f
  rw [spec_l2Road_eq, Option.bind_some]
  cases hr : road s r with
  | false => simp [spec_GuardsNeeded.j0]
  | true =>
    have hb := road_bd hr
    rw [if_pos rfl]
    simp only [spec_GuardsNeeded.j0]
    by_cases c : pause < 1
    · rw [decide_eq_true c, decide_eq_false (by omega)]
      simp
    · rw [decide_eq_false c, if_neg (by simp), decide_eq_true (by omega)]
      have := spec_GuardsNeeded_l0 s.toNat r pause (by omega) (min 6 s.toNat) 1 k (by omega) (by omega) (by omega)
      rw [Int.toNat_of_nonneg (by omega)] at this
      simpa using this
theorem impl_pz (k : Nat) (s g : Nat) (r : Bool) (hs : 2 ≤ s ∧ s ≤ 24) (hg : 1 ≤ g ∧ g ≤ 6) (h : r = true ∨ g ≤ s) (hk : 3000 < k) : (impl_Road_idleTimes.f k (s : Int) r (patM s r g)).bind (fun t => slices_Max_int_int.f k t) = some (pzM s r g) := by
  obtain ⟨h1, h2, h3, h4⟩ := patM_facts hs hg h
  have h5 : impl_Road_idleTimes.f k (s : Int) r (patM s r g) = some (idlesM (patM s r g) ((patM s r g).headD []).length s 0) := by
    unfold impl_Road_idleTimes.f
    have := impl_Road_idleTimes_l0 (s : Int) (by omega) (patM s r g) _ h2 h1.1 h3 s 0 [] (by omega) (by simp) k (by omega)
    simpa using this
  rw [h5, Option.bind_some, slices_Max_pause k _ (by rw [idlesM_len]; omega) h4]
  rfl
theorem impl_GuardsNeeded_l0 (s : Nat) (r : Bool) (pause : Int) (hp1 : 1 ≤ pause) (hr : road (s : Int) r = true) : ∀ (d g k : Nat), g + d = min 6 s + 1 → (d = 0 → 6 ≤ s) → 1 ≤ g → 2 * d + 4000 < k →
    impl_GuardsNeeded.l0 k pause (g : Int) (s : Int) r = some (gnM s r pause d g)
  | 0, g, k, h, h0, hg, hk => by
    obtain ⟨k, rfl⟩ := succ_of (k := k) (by omega)
    have := h0 rfl
    simp only [impl_GuardsNeeded.l0]
    rw [if_neg (by omega)]
    rfl
  | d + 1, g, k, h, h0, hg, hk => by
    obtain ⟨k, rfl⟩ := succ_of (k := k) (by omega)
    obtain ⟨k, rfl⟩ := succ_of (k := k) (by omega)
    have hb := road_bd hr
    have hs : 2 ≤ s ∧ s ≤ 24 := by omega
    have hp := impl_pz k s g r hs (by omega) (.inr (by omega)) (by omega)
    have hcont : (if pzM s r g ≤ pause then some ((g : Int), true) else impl_GuardsNeeded.l0 k pause ((g + 1 : Nat) : Int) (s : Int) r) = some (gnM s r pause (d + 1) g) := by
      rw [gnM_succ]
      by_cases c : pzM s r g ≤ pause
      · rw [if_pos c, if_pos c]
      · rw [if_neg c, if_neg c]
        refine impl_GuardsNeeded_l0 s r pause hp1 hr d (g + 1) k (by omega) (fun hd => ?_) (by omega) (by omega)
        by_cases c6 : 6 ≤ s
        · exact c6
        · have hgs : g = s := by omega
          subst hgs
          have := pzM_of (s := g) (r := r) (by omega) (fun hr' => by have := hb.2.2 hr'; omega)
          omega
    have hj : impl_GuardsNeeded.j2 (k + 1) pause (g : Int) (patM s r g) true (s : Int) r = some (gnM s r pause (d + 1) g) := by
      simp only [impl_GuardsNeeded.j2]
      rw [if_pos trivial, ← hcont]
      obtain ⟨T, hT, hM⟩ := Option.bind_eq_some_iff.1 hp
      rw [hT, Option.bind_some, hM, Option.bind_some, wrap64_id (by omega) (by omega)]
      rfl
    have e1 : inR (g : Int) 1 6 = true := inR_iff.2 (by omega)
    simp only [impl_GuardsNeeded.l0]
    rw [if_pos (by omega), impl_PartPatrol_eq (k + 1) (s : Int) r (g : Int) (by omega), Option.bind_some]
    cases r with
    | true =>
      rw [if_pos rfl, impl_RingPatrol_eq (k + 1) (s : Int) true (g : Int) (by omega), Option.bind_some, hr, e1]
      exact hj
    | false =>
      rw [if_neg (by simp), hr, e1, decide_eq_true (show (g : Int) ≤ (s : Int) by omega)]
      exact hj
theorem impl_GuardsNeeded_eq (k : Nat) (s : Int) (r : Bool) (pause : Int) (hk : 5000 < k) :
    impl_GuardsNeeded.f k s r pause = some (if (road s r && decide (1 ≤ pause)) = true then gnM s.toNat r pause (min 6 s.toNat) 1 else (0, false)) := by
  obtain ⟨k, rfl⟩ := succ_of (k := k) (by omega)
  unfold impl_GuardsNeeded.f
  rw [impl_IsRoad_eq, Option.bind_some]
  cases hr : road s r with
  | false => simp [impl_GuardsNeeded.j0]
  | true =>
    have hb := road_bd hr
    rw [if_pos rfl]
    simp only [impl_GuardsNeeded.j0]
    by_cases c : pause < 1
    · rw [decide_eq_true c, decide_eq_false (by omega)]
      simp
    · rw [decide_eq_false c, if_neg (by simp), decide_eq_true (by omega)]
      have hs : (s.toNat : Int) = s := Int.toNat_of_nonneg (by omega)
      have := impl_GuardsNeeded_l0 s.toNat r pause (by omega) (by rw [hs]; exact hr) (min 6 s.toNat) 1 k (by omega) (by omega) (by omega) (by omega)
      rw [hs] at this
      simpa using this

theorem FnExactGuardsNeeded (a0_0 : Int) (a0_1 : Bool) (a1 : Int)
    (h0 : ((Lit.int .i64 (a0_0)).wf = true)) (h1 : True) (h2 : ((Lit.int .i64 (a1)).wf = true)) :
    ∃ k, laws_FnExactGuardsNeeded.f k a0_0 a0_1 a1 = some true := by
  refine ⟨6000, ?_⟩
  unfold laws_FnExactGuardsNeeded.f
  simp only [laws_toRoad_eq, Option.bind_some]
  rw [spec_GuardsNeeded_eq 6000 _ _ _ (by omega), impl_GuardsNeeded_eq 6000 _ _ _ (by omega)]
  simp

end Go.Proofs.Ytkibnncghhelnaa.Pure
