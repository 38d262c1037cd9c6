/- Plain facts on numbers and lists: what the functions that the law FnExactLegEnd reaches answer, and that the law's own function answers true. No program, no memory. -/
import Derived.Test.YtndcjfogechpjaaPFnExactLegEndx1
import Derived.Test.YtndcjfogechpjaaPFnExactLegEndx2
import Derived.Test.YtndcjfogechpjaaPFnExactLegEndx3
namespace Go.Proofs.Ytndcjfogechpjaa.Pure
open Go.RowKit Go.Proofs.Ytndcjfogechpjaa.PFnExactLegEnd Go.Proofs.YtndcjfogechpjaaW.PrintWords Go.Proofs.YtndcjfogechpjaaW.PrintLast Go.Proofs.YtndcjfogechpjaaW.PrintMore
set_option linter.unusedVariables false
set_option linter.unusedSimpArgs false
theorem wrap64_id {x : Int} (h1 : -9223372036854775808 ≤ x) (h2 : x ≤ 9223372036854775807) : wrap64 x = x := by unfold wrap64; omega
theorem i64_of {x : Int} (h : (Lit.int .i64 x).wf = true) : -9223372036854775808 ≤ x ∧ x ≤ 9223372036854775807 := by
  simp [Lit.wf, IntKind.min, IntKind.max, IntKind.bits, IntKind.signed, IntKind.wrap] at h
  omega
def inR (x a b : Int) : Bool := decide (a ≤ x) && decide (x ≤ b)
theorem inR_iff {x a b : Int} : inR x a b = true ↔ a ≤ x ∧ x ≤ b := by unfold inR; simp
theorem inR_not {x a b : Int} : inR x a b = false ↔ ¬ (a ≤ x ∧ x ≤ b) := by rw [← inR_iff]; simp
def road (s : Int) (r : Bool) : Bool := inR s 2 24 && (!r || decide (3 ≤ s))
theorem road_bd {s : Int} {r : Bool} (h : road s r = true) : 2 ≤ s ∧ s ≤ 24 ∧ (r = true → 3 ≤ s) := by
  unfold road at h
  rw [Bool.and_eq_true, inR_iff] at h
  refine ⟨h.1.1, h.1.2, fun hr => ?_⟩
  have := h.2
  simp [hr] at this
  exact this
theorem spec_l1In_eq (a b c : Int) : spec_l1In.f a b c = some (inR a b c) := by
  unfold spec_l1In.f inR
  by_cases h : a ≥ b
  · have h' : b ≤ a := h
    simp [h, h']
  · have h' : ¬ b ≤ a := h
    simp [h, h']
theorem impl_within_eq (a b c : Int) : impl_within.f a b c = some (inR a b c) := by
  unfold impl_within.f inR
  by_cases h : a ≥ b
  · have h' : b ≤ a := h
    simp [h, h']
  · have h' : ¬ b ≤ a := h
    simp [h, h']
theorem spec_l2Road_eq (s : Int) (r : Bool) : spec_l2Road.f s r = some (road s r) := by
  unfold spec_l2Road.f road
  rw [spec_l1In_eq, Option.bind_some]
  cases inR s 2 24 <;> cases r <;> simp
  omega
theorem impl_IsRoad_eq (s : Int) (r : Bool) : impl_IsRoad.f s r = some (road s r) := by
  unfold impl_IsRoad.f road
  rw [impl_within_eq, Option.bind_some]
  cases inR s 2 24 <;> cases r <;> simp
theorem laws_toRoad_eq (s : Int) (r : Bool) : laws_toRoad.f s r = some (s, r) := rfl
theorem wrap_succ {i n : Nat} (h : i < n) (hn : n ≤ 9223372036854775807) : wrap64 ((i : Int) + 1) = ((i + 1 : Nat) : Int) := by unfold wrap64; omega
theorem drop_rd (l : List Int) (i : Nat) (h : i < l.length) : l.drop i = rd l (i : Int) :: l.drop (i + 1) := by
  rw [List.drop_eq_getElem_cons h]
  unfold rd
  simp [List.getD_eq_getElem?_getD, h]
theorem rd_get (l : List Int) (i : Nat) (h : i < l.length) : rd l (i : Int) = l[i] := by
  unfold rd
  simp [List.getD_eq_getElem?_getD, h]
theorem succ_of {k : Nat} (h : 0 < k) : ∃ m, k = m + 1 := ⟨k - 1, by omega⟩
theorem drop_end {α : Type} (l : List α) (i : Nat) (h : l.length ≤ i) : l.drop i = [] := List.drop_of_length_le h
def allIn (l : List Int) (a b : Int) : Bool := l.all (fun x => inR x a b)
/-- Numbers in line, from a on. -/
def marks (a : Int) : Nat → List Int
  | 0 => []
  | n + 1 => a :: marks (a + 1) n
theorem marks_len (a : Int) (n : Nat) : (marks a n).length = n := by
  induction n generalizing a with
  | zero => rfl
  | succ n ih => simp [marks, ih]
theorem marks_snoc (a : Int) (n : Nat) : marks a (n + 1) = marks a n ++ [a + n] := by
  induction n generalizing a with
  | zero => simp [marks]
  | succ n ih =>
    rw [marks, ih (a + 1)]
    simp [marks]
    omega
theorem marks_rd (a : Int) (n i : Nat) (h : i < n) : rd (marks a n) (i : Int) = a + i := by
  rw [rd_get _ _ (by rw [marks_len]; exact h)]
  induction n generalizing a i with
  | zero => omega
  | succ n ih =>
    cases i with
    | zero => simp [marks]
    | succ i =>
      simp only [marks, List.getElem_cons_succ]
      rw [ih (a + 1) i (by omega)]
      omega
theorem impl_allWithin_l0 (lo hi : Int) (l : List Int) (hl : l.length ≤ 9223372036854775807) : ∀ (d i k : Nat), i + d = l.length → d < k →
    impl_allWithin.l0 k lo hi l (l.length : Int) (i : Int) = some (allIn (l.drop i) lo hi)
  | 0, i, k, h, hk => by
    obtain ⟨k, rfl⟩ := succ_of (k := k) (by omega)
    simp only [impl_allWithin.l0]
    rw [if_neg (by omega), drop_end l i (by omega)]
    rfl
  | d + 1, i, k, h, hk => by
    obtain ⟨k, rfl⟩ := succ_of (k := k) (by omega)
    simp only [impl_allWithin.l0]
    rw [if_pos (by omega), if_pos (by omega), if_pos (by omega), impl_within_eq, Option.bind_some, wrap_succ (n := l.length) (by omega) hl, impl_allWithin_l0 lo hi l hl d (i + 1) k (by omega) (by omega), drop_rd l i (by omega)]
    unfold allIn
    rw [List.all_cons]
    cases inR (rd l (i : Int)) lo hi <;> simp
theorem impl_allWithin_eq (k : Nat) (l : List Int) (a b : Int) (hl : l.length ≤ 9223372036854775807) (hk : l.length < k) : impl_allWithin.f k l a b = some (allIn l a b) := by
  unfold impl_allWithin.f
  have := impl_allWithin_l0 a b l hl l.length 0 k (by omega) hk
  simpa using this
theorem impl_Road_has_eq (k : Nat) (s : Int) (r : Bool) (l : List Int) (hl : l.length ≤ 9223372036854775807) (hk : l.length < k) : impl_Road_has.f k s r l = some (allIn l 0 (wrap64 (s - 1))) := by
  unfold impl_Road_has.f
  rw [impl_allWithin_eq k l _ _ hl hk, Option.bind_some]
theorem impl_Road_has1 (k : Nat) (s : Int) (r : Bool) (x : Int) (hs : road s r = true) (hk : 1 < k) : impl_Road_has.f k s r [x] = some (inR x 0 (s - 1)) := by
  rw [impl_Road_has_eq k s r [x] (by simp) (by simpa using hk)]
  have := road_bd hs
  rw [wrap64_id (by omega) (by omega)]
  simp [allIn]
theorem impl_Road_hasN (k : Nat) (s : Int) (r : Bool) (l : List Int) (hs : road s r = true) (hl : l.length ≤ 9223372036854775807) (hk : l.length < k) : impl_Road_has.f k s r l = some (allIn l 0 (s - 1)) := by
  rw [impl_Road_has_eq k s r l hl hk]
  have := road_bd hs
  rw [wrap64_id (by omega) (by omega)]
theorem spec_l2Place_eq (s : Int) (r : Bool) (x : Int) : spec_l2Place.f s r x = some (road s r && inR x 0 (s - 1)) := by
  unfold spec_l2Place.f
  rw [spec_l2Road_eq, Option.bind_some]
  cases h : road s r with
  | false => simp
  | true =>
    have := road_bd h
    rw [wrap64_id (by omega) (by omega)]
    simp [spec_l1In_eq]
def runL (s x : Int) (n : Nat) : List Int := (List.range n).map (fun (i : Nat) => Int.tmod (x + i) s)
theorem runL_snoc (s x : Int) (n : Nat) : runL s x (n + 1) = runL s x n ++ [Int.tmod (x + n) s] := by unfold runL; rw [List.range_succ]; simp
theorem runL_len (s x : Int) (n : Nat) : (runL s x n).length = n := by simp [runL]
def fits (s : Int) (r : Bool) (x n : Int) : Bool := inR x 0 (s - 1) && inR n 0 s && (r || decide (x + n ≤ s))
def carrierOk (s f0 f1 f2 : Int) : Bool := inR f0 0 (s - 1) && inR f1 0 48 && inR f2 0 20
theorem laws_toCarrier_eq (a b c : Int) : laws_toCarrier.f a b c = some (a, b, c) := rfl
theorem impl_isLine_eq (s : Int) (r : Bool) : impl_isLine.f s r = some (road s r && !r) := by
  unfold impl_isLine.f
  rw [impl_IsRoad_eq, Option.bind_some]
  cases road s r <;> simp
theorem spec_l3Line_eq (s : Int) (r : Bool) (x : Int) : spec_l3Line.f s r x = some (road s r && !r && inR x 0 (s - 1)) := by
  unfold spec_l3Line.f
  rw [spec_l2Road_eq, Option.bind_some]
  cases h : road s r with
  | false => simp
  | true =>
    have := road_bd h
    rw [wrap64_id (by omega) (by omega)]
    cases r <;> simp [spec_l1In_eq]
theorem spec_l7Carrier_eq (s : Int) (r : Bool) (a b c : Int) : spec_l7Carrier.f s r a b c = some (road s r && !r && carrierOk s a b c) := by
  unfold spec_l7Carrier.f carrierOk
  rw [spec_l3Line_eq, Option.bind_some]
  simp only [spec_l1In_eq, Option.bind_some]
  cases road s r <;> cases r <;> cases inR a 0 (s - 1) <;> cases inR b 0 48 <;> simp
theorem rdC_get (l : List S42) (i : Nat) (h : i < l.length) : rd_T42 l (i : Int) = l[i] := by
  unfold rd_T42
  simp [List.getD_eq_getElem?_getD, h]
theorem drop_rdC (l : List S42) (i : Nat) (h : i < l.length) : l.drop i = rd_T42 l (i : Int) :: l.drop (i + 1) := by
  rw [List.drop_eq_getElem_cons h, rdC_get l i h]
def carriersOk (s : Int) (l : List S42) : Bool := l.all (fun c => carrierOk s c.f0 c.f1 c.f2)
theorem impl_Road_areCarriers_l0 (s : Int) (r : Bool) (hr : road s r = true) (l : List S42) (hl : l.length ≤ 9223372036854775807) : ∀ (d i k : Nat), i + d = l.length → d + 2 < k →
    impl_Road_areCarriers.l0 k l l (l.length : Int) (i : Int) s r = some (carriersOk s (l.drop i) && decide ((l.length : Int) ≤ 6))
  | 0, i, k, h, hk => by
    obtain ⟨k, rfl⟩ := succ_of (k := k) (by omega)
    simp only [impl_Road_areCarriers.l0]
    rw [if_neg (by omega), drop_end l i (by omega)]
    simp [carriersOk]
  | d + 1, i, k, h, hk => by
    obtain ⟨k, rfl⟩ := succ_of (k := k) (by omega)
    simp only [impl_Road_areCarriers.l0]
    rw [if_pos (by omega), if_pos (by omega), if_pos (by omega), impl_Road_has1 k s r _ hr (by omega), Option.bind_some, wrap_succ (n := l.length) (by omega) hl, impl_Road_areCarriers_l0 s r hr l hl d (i + 1) k (by omega) (by omega), drop_rdC l i (by omega)]
    simp only [impl_within_eq, Option.bind_some]
    unfold carriersOk
    rw [List.all_cons]
    unfold carrierOk
    cases inR (rd_T42 l (i : Int)).f0 0 (s - 1) <;> cases inR (rd_T42 l (i : Int)).f1 0 48 <;> cases inR (rd_T42 l (i : Int)).f2 0 20 <;> simp
theorem impl_Road_areCarriers_eq (k : Nat) (s : Int) (r : Bool) (hr : road s r = true) (l : List S42) (hl : l.length ≤ 9223372036854775807) (hk : l.length + 2 < k) :
    impl_Road_areCarriers.f k s r l = some (carriersOk s l && decide ((l.length : Int) ≤ 6)) := by
  unfold impl_Road_areCarriers.f
  have := impl_Road_areCarriers_l0 s r hr l hl l.length 0 k (by omega) hk
  simpa using this
def gapM (s : Int) (r : Bool) (a b : Int) : Int :=
  let d := if a - b < b - a then b - a else a - b
  if r = true then (if s - d < d then s - d else d) else d
theorem gapM_bd {s : Int} {r : Bool} {a b : Int} (hs : 2 ≤ s) (ha : 0 ≤ a ∧ a ≤ s - 1) (hb : 0 ≤ b ∧ b ≤ s - 1) : 0 ≤ gapM s r a b ∧ gapM s r a b ≤ s - 1 := by
  unfold gapM
  simp only
  split <;> split <;> (try split) <;> omega
theorem impl_Road_gap_eq (s : Int) (r : Bool) (a b : Int) (hs : 0 ≤ s ∧ s ≤ 1000) (ha : -1000000 ≤ a ∧ a ≤ 1000000) (hb : -1000000 ≤ b ∧ b ≤ 1000000) : impl_Road_gap.f s r a b = some (gapM s r a b) := by
  unfold impl_Road_gap.f gapM
  have e1 : wrap64 (a - b) = a - b := wrap64_id (by omega) (by omega)
  have e2 : wrap64 (b - a) = b - a := wrap64_id (by omega) (by omega)
  rw [e1, e2]
  have e : mx (a - b) (b - a) = if a - b < b - a then b - a else a - b := rfl
  rw [e]
  have e3 : wrap64 (s - (if a - b < b - a then b - a else a - b)) = s - (if a - b < b - a then b - a else a - b) := wrap64_id (by split <;> omega) (by split <;> omega)
  rw [e3]
  unfold mn
  cases r <;> simp
def lo2 (a b : Int) : Int := if a < b then a else b
theorem spec_l1Least_eq (a b : Int) : spec_l1Least.f a b = some (lo2 a b) := by unfold spec_l1Least.f lo2; split <;> rfl
def hi2 (a b : Int) : Int := if b < a then a else b
theorem spec_l1Most_eq (a b : Int) : spec_l1Most.f a b = some (hi2 a b) := by unfold spec_l1Most.f hi2; by_cases h : b < a <;> simp [h]
theorem spec_l2Gap_eq (s : Int) (r : Bool) (a b : Int) (hs : 0 ≤ s ∧ s ≤ 1000) (ha : -1000000 ≤ a ∧ a ≤ 1000000) (hb : -1000000 ≤ b ∧ b ≤ 1000000) : spec_l2Gap.f s r a b = some (gapM s r a b) := by
  unfold spec_l2Gap.f gapM
  rw [wrap64_id (x := a - b) (by omega) (by omega), wrap64_id (x := b - a) (by omega) (by omega), spec_l1Most_eq, Option.bind_some]
  have e : hi2 (a - b) (b - a) = if a - b < b - a then b - a else a - b := by unfold hi2; split <;> split <;> omega
  rw [e]
  have e3 : wrap64 (s - (if a - b < b - a then b - a else a - b)) = s - (if a - b < b - a then b - a else a - b) := wrap64_id (by split <;> omega) (by split <;> omega)
  rw [e3, spec_l1Least_eq]
  unfold lo2
  cases r <;> simp
  split <;> split <;> omega
def legM (s : Int) (r : Bool) (f0 f1 x : Int) : Int := if f1 - gapM s r f0 x < 0 then -1 else (if s - 1 < x + (f1 - gapM s r f0 x) then s - 1 else x + (f1 - gapM s r f0 x))
theorem carrierOk_bd {s a b c : Int} (h : carrierOk s a b c = true) : (0 ≤ a ∧ a ≤ s - 1) ∧ (0 ≤ b ∧ b ≤ 48) ∧ (0 ≤ c ∧ c ≤ 20) := by
  unfold carrierOk at h
  rw [Bool.and_eq_true, Bool.and_eq_true, inR_iff, inR_iff, inR_iff] at h
  exact ⟨h.1.1, h.1.2, h.2⟩
theorem spec_l7End_eq (s : Int) (r : Bool) (f0 f1 f2 x : Int) (hs : 2 ≤ s ∧ s ≤ 24) (h0 : 0 ≤ f0 ∧ f0 ≤ s - 1) (h1 : 0 ≤ f1 ∧ f1 ≤ 1000) (hx : 0 ≤ x ∧ x ≤ s - 1) : spec_l7End.f s r f0 f1 f2 x = some (legM s r f0 f1 x) := by
  unfold spec_l7End.f legM
  have hg := gapM_bd (s := s) (r := r) (a := f0) (b := x) hs.1 h0 hx
  rw [spec_l2Gap_eq s r f0 x (by omega) (by omega) (by omega), Option.bind_some, wrap64_id (x := f1 - gapM s r f0 x) (by omega) (by omega), wrap64_id (x := s - 1) (by omega) (by omega), wrap64_id (x := x + (f1 - gapM s r f0 x)) (by omega) (by omega)]
  by_cases c : f1 - gapM s r f0 x < 0
  · rw [if_pos c, if_pos c]
  · rw [if_neg c, if_neg c, spec_l1Least_eq, Option.bind_some]
    rfl
theorem impl_Road_legEnd_eq (s : Int) (r : Bool) (f0 f1 f2 x : Int) (hs : 2 ≤ s ∧ s ≤ 24) (h0 : 0 ≤ f0 ∧ f0 ≤ s - 1) (h1 : 0 ≤ f1 ∧ f1 ≤ 1000) (hx : 0 ≤ x ∧ x ≤ s - 1) :
    impl_Road_legEnd.f s r f0 f1 f2 x = some (if legM s r f0 f1 x < x then x else legM s r f0 f1 x, decide (0 ≤ legM s r f0 f1 x)) := by
  unfold impl_Road_legEnd.f legM
  have hg := gapM_bd (s := s) (r := r) (a := f0) (b := x) hs.1 h0 hx
  rw [impl_Road_gap_eq s r f0 x (by omega) (by omega) (by omega), Option.bind_some, wrap64_id (x := f1 - gapM s r f0 x) (by omega) (by omega), wrap64_id (x := s - 1) (by omega) (by omega)]
  have e : mx 0 (f1 - gapM s r f0 x) = if f1 - gapM s r f0 x < 0 then 0 else f1 - gapM s r f0 x := by unfold mx; split <;> split <;> omega
  rw [e]
  by_cases c : f1 - gapM s r f0 x < 0
  · rw [if_pos c, if_pos c, wrap64_id (by omega) (by omega), decide_eq_false (by omega), decide_eq_false (by omega)]
    have : mn (s - 1) (x + 0) = x := by unfold mn; split <;> omega
    rw [this, if_pos (by omega)]
  · rw [if_neg c, if_neg c, wrap64_id (by omega) (by omega)]
    have : mn (s - 1) (x + (f1 - gapM s r f0 x)) = (if s - 1 < x + (f1 - gapM s r f0 x) then s - 1 else x + (f1 - gapM s r f0 x)) := by unfold mn; split <;> split <;> omega
    rw [this]
    have hL : x ≤ (if s - 1 < x + (f1 - gapM s r f0 x) then s - 1 else x + (f1 - gapM s r f0 x)) := by split <;> omega
    generalize (if s - 1 < x + (f1 - gapM s r f0 x) then s - 1 else x + (f1 - gapM s r f0 x)) = L at hL
    rw [decide_eq_true (by omega), decide_eq_true (by omega), if_neg (by omega)]

theorem FnExactLegEnd (a0_0 : Int) (a0_1 : Bool) (a1_0 : Int) (a1_1 : Int) (a1_2 : Int) (a2 : Int)
    (h0 : ((Lit.int .i64 (a0_0)).wf = true)) (h1 : True) (h2 : ((Lit.int .i64 (a1_0)).wf = true)) (h3 : ((Lit.int .i64 (a1_1)).wf = true)) (h4 : ((Lit.int .i64 (a1_2)).wf = true)) (h5 : ((Lit.int .i64 (a2)).wf = true)) :
    ∃ k, laws_FnExactLegEnd.f k a0_0 a0_1 a1_0 a1_1 a1_2 a2 = some true := by
  refine ⟨10, ?_⟩
  unfold laws_FnExactLegEnd.f
  simp only [laws_toRoad_eq, laws_toCarrier_eq, Option.bind_some]
  unfold spec_LegEnd.f impl_LegEnd.f
  rw [spec_l7Carrier_eq, spec_l2Place_eq, impl_isLine_eq]
  simp only [Option.bind_some]
  cases hr : road a0_0 a0_1 with
  | false => simp [impl_LegEnd.j0]
  | true =>
    have hb := road_bd hr
    rw [impl_Road_areCarriers_eq 10 _ _ hr _ (by simp) (by simp), impl_Road_has1 10 _ _ _ hr (by omega)]
    cases a0_1 with
    | true => simp [impl_LegEnd.j0]
    | false =>
      cases hc : carrierOk a0_0 a1_0 a1_1 a1_2 with
      | false => simp [impl_LegEnd.j0, carriersOk, hc]
      | true =>
        have hcb := carrierOk_bd hc
        cases hx : inR a2 0 (a0_0 - 1) with
        | false => simp [impl_LegEnd.j0, carriersOk, hc]
        | true =>
          have hx := inR_iff.1 hx
          simp only [impl_LegEnd.j0, carriersOk, hc, List.all_cons, List.all_nil, Bool.and_true, Bool.true_and, if_true, Bool.not_false, Option.bind_some, Bool.not_true]
          rw [spec_l7End_eq _ _ _ _ _ _ ⟨hb.1, hb.2.1⟩ hcb.1 (by omega) hx, impl_Road_legEnd_eq _ _ _ _ _ _ ⟨hb.1, hb.2.1⟩ hcb.1 (by omega) hx]
          have hl : legM a0_0 false a1_0 a1_1 a2 < 0 ∨ a2 ≤ legM a0_0 false a1_0 a1_1 a2 := by
            unfold legM
            split
            · left; omega
            · right; split <;> omega
          simp
          by_cases c : legM a0_0 false a1_0 a1_1 a2 < 0
          · simp [c]
            rw [if_neg (by omega)]
            simp
          · simp [c]
            rw [if_pos (by omega), if_neg (by omega)]
            simp

end Go.Proofs.Ytndcjfogechpjaa.Pure
