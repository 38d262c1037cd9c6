/- Plain facts on numbers and lists: what the functions that the law FnExactAreCarriers reaches answer, and that the law's own function answers true. No program, no memory. -/
import Derived.Test.YtndcjfogechpjaaPFnExactAreCarriersx1
import Derived.Test.YtndcjfogechpjaaPFnExactAreCarriersx2
import Derived.Test.YtndcjfogechpjaaPFnExactAreCarriersx3
namespace Go.Proofs.Ytndcjfogechpjaa.Pure
open Go.RowKit Go.Proofs.Ytndcjfogechpjaa.PFnExactAreCarriers Go.Proofs.YtndcjfogechpjaaW.PrintWords Go.Proofs.YtndcjfogechpjaaW.PrintLast Go.Proofs.YtndcjfogechpjaaW.PrintMore
set_option linter.unusedVariables false
set_option linter.unusedSimpArgs false
theorem wrap64_id {x : Int} (h1 : -9223372036854775808 ≤ x) (h2 : x ≤ 9223372036854775807) : wrap64 x = x := by unfold wrap64; omega
theorem i64_of {x : Int} (h : (Lit.int .i64 x).wf = true) : -9223372036854775808 ≤ x ∧ x ≤ 9223372036854775807 := by
  simp [Lit.wf, IntKind.min, IntKind.max, IntKind.bits, IntKind.signed, IntKind.wrap] at h
  omega
def inR (x a b : Int) : Bool := decide (a ≤ x) && decide (x ≤ b)
theorem inR_iff {x a b : Int} : inR x a b = true ↔ a ≤ x ∧ x ≤ b := by unfold inR; simp
theorem inR_not {x a b : Int} : inR x a b = false ↔ ¬ (a ≤ x ∧ x ≤ b) := by rw [← inR_iff]; simp
def road (s : Int) (r : Bool) : Bool := inR s 2 24 && (!r || decide (3 ≤ s))
theorem road_bd {s : Int} {r : Bool} (h : road s r = true) : 2 ≤ s ∧ s ≤ 24 ∧ (r = true → 3 ≤ s) := by
  unfold road at h
  rw [Bool.and_eq_true, inR_iff] at h
  refine ⟨h.1.1, h.1.2, fun hr => ?_⟩
  have := h.2
  simp [hr] at this
  exact this
theorem spec_l1In_eq (a b c : Int) : spec_l1In.f a b c = some (inR a b c) := by
  unfold spec_l1In.f inR
  by_cases h : a ≥ b
  · have h' : b ≤ a := h
    simp [h, h']
  · have h' : ¬ b ≤ a := h
    simp [h, h']
theorem impl_within_eq (a b c : Int) : impl_within.f a b c = some (inR a b c) := by
  unfold impl_within.f inR
  by_cases h : a ≥ b
  · have h' : b ≤ a := h
    simp [h, h']
  · have h' : ¬ b ≤ a := h
    simp [h, h']
theorem spec_l2Road_eq (s : Int) (r : Bool) : spec_l2Road.f s r = some (road s r) := by
  unfold spec_l2Road.f road
  rw [spec_l1In_eq, Option.bind_some]
  cases inR s 2 24 <;> cases r <;> simp
  omega
theorem impl_IsRoad_eq (s : Int) (r : Bool) : impl_IsRoad.f s r = some (road s r) := by
  unfold impl_IsRoad.f road
  rw [impl_within_eq, Option.bind_some]
  cases inR s 2 24 <;> cases r <;> simp
theorem laws_toRoad_eq (s : Int) (r : Bool) : laws_toRoad.f s r = some (s, r) := rfl
theorem wrap_succ {i n : Nat} (h : i < n) (hn : n ≤ 9223372036854775807) : wrap64 ((i : Int) + 1) = ((i + 1 : Nat) : Int) := by unfold wrap64; omega
theorem drop_rd (l : List Int) (i : Nat) (h : i < l.length) : l.drop i = rd l (i : Int) :: l.drop (i + 1) := by
  rw [List.drop_eq_getElem_cons h]
  unfold rd
  simp [List.getD_eq_getElem?_getD, h]
theorem rd_get (l : List Int) (i : Nat) (h : i < l.length) : rd l (i : Int) = l[i] := by
  unfold rd
  simp [List.getD_eq_getElem?_getD, h]
theorem succ_of {k : Nat} (h : 0 < k) : ∃ m, k = m + 1 := ⟨k - 1, by omega⟩
theorem drop_end {α : Type} (l : List α) (i : Nat) (h : l.length ≤ i) : l.drop i = [] := List.drop_of_length_le h
def allIn (l : List Int) (a b : Int) : Bool := l.all (fun x => inR x a b)
/-- Numbers in line, from a on. -/
def marks (a : Int) : Nat → List Int
  | 0 => []
  | n + 1 => a :: marks (a + 1) n
theorem marks_len (a : Int) (n : Nat) : (marks a n).length = n := by
  induction n generalizing a with
  | zero => rfl
  | succ n ih => simp [marks, ih]
theorem marks_snoc (a : Int) (n : Nat) : marks a (n + 1) = marks a n ++ [a + n] := by
  induction n generalizing a with
  | zero => simp [marks]
  | succ n ih =>
    rw [marks, ih (a + 1)]
    simp [marks]
    omega
theorem marks_rd (a : Int) (n i : Nat) (h : i < n) : rd (marks a n) (i : Int) = a + i := by
  rw [rd_get _ _ (by rw [marks_len]; exact h)]
  induction n generalizing a i with
  | zero => omega
  | succ n ih =>
    cases i with
    | zero => simp [marks]
    | succ i =>
      simp only [marks, List.getElem_cons_succ]
      rw [ih (a + 1) i (by omega)]
      omega
theorem impl_allWithin_l0 (lo hi : Int) (l : List Int) (hl : l.length ≤ 9223372036854775807) : ∀ (d i k : Nat), i + d = l.length → d < k →
    impl_allWithin.l0 k lo hi l (l.length : Int) (i : Int) = some (allIn (l.drop i) lo hi)
  | 0, i, k, h, hk => by
    obtain ⟨k, rfl⟩ := succ_of (k := k) (by omega)
    simp only [impl_allWithin.l0]
    rw [if_neg (by omega), drop_end l i (by omega)]
    rfl
  | d + 1, i, k, h, hk => by
    obtain ⟨k, rfl⟩ := succ_of (k := k) (by omega)
    simp only [impl_allWithin.l0]
    rw [if_pos (by omega), if_pos (by omega), if_pos (by omega), impl_within_eq, Option.bind_some, wrap_succ (n := l.length) (by omega) hl, impl_allWithin_l0 lo hi l hl d (i + 1) k (by omega) (by omega), drop_rd l i (by omega)]
    unfold allIn
    rw [List.all_cons]
    cases inR (rd l (i : Int)) lo hi <;> simp
theorem impl_allWithin_eq (k : Nat) (l : List Int) (a b : Int) (hl : l.length ≤ 9223372036854775807) (hk : l.length < k) : impl_allWithin.f k l a b = some (allIn l a b) := by
  unfold impl_allWithin.f
  have := impl_allWithin_l0 a b l hl l.length 0 k (by omega) hk
  simpa using this
theorem impl_Road_has_eq (k : Nat) (s : Int) (r : Bool) (l : List Int) (hl : l.length ≤ 9223372036854775807) (hk : l.length < k) : impl_Road_has.f k s r l = some (allIn l 0 (wrap64 (s - 1))) := by
  unfold impl_Road_has.f
  rw [impl_allWithin_eq k l _ _ hl hk, Option.bind_some]
theorem impl_Road_has1 (k : Nat) (s : Int) (r : Bool) (x : Int) (hs : road s r = true) (hk : 1 < k) : impl_Road_has.f k s r [x] = some (inR x 0 (s - 1)) := by
  rw [impl_Road_has_eq k s r [x] (by simp) (by simpa using hk)]
  have := road_bd hs
  rw [wrap64_id (by omega) (by omega)]
  simp [allIn]
theorem impl_Road_hasN (k : Nat) (s : Int) (r : Bool) (l : List Int) (hs : road s r = true) (hl : l.length ≤ 9223372036854775807) (hk : l.length < k) : impl_Road_has.f k s r l = some (allIn l 0 (s - 1)) := by
  rw [impl_Road_has_eq k s r l hl hk]
  have := road_bd hs
  rw [wrap64_id (by omega) (by omega)]
def runL (s x : Int) (n : Nat) : List Int := (List.range n).map (fun (i : Nat) => Int.tmod (x + i) s)
theorem runL_snoc (s x : Int) (n : Nat) : runL s x (n + 1) = runL s x n ++ [Int.tmod (x + n) s] := by unfold runL; rw [List.range_succ]; simp
theorem runL_len (s x : Int) (n : Nat) : (runL s x n).length = n := by simp [runL]
def fits (s : Int) (r : Bool) (x n : Int) : Bool := inR x 0 (s - 1) && inR n 0 s && (r || decide (x + n ≤ s))
def carrierOk (s f0 f1 f2 : Int) : Bool := inR f0 0 (s - 1) && inR f1 0 48 && inR f2 0 20
theorem laws_szCarrierS_eq (l : List S40) (a : Int) (ha : 0 ≤ a) (hA : a ≤ 1048576) (hl : l.length ≤ maxLen) :
    laws_szCarrierS.f l a = some (if a < l.length then -1 else a - l.length) := by
  unfold maxLen at hl
  unfold laws_szCarrierS.f
  rw [wrap64_id (by omega) (by omega)]
  by_cases c : a < (l.length : Int)
  · rw [if_pos (by omega), if_pos c]
  · rw [if_neg (by omega), if_neg c]
theorem laws_toCarrier_eq (a b c : Int) : laws_toCarrier.f a b c = some (a, b, c) := rfl
def toC (x : S40) : S42 := ⟨x.f0, x.f1, x.f2⟩
theorem rdC_lawget (l : List S40) (i : Nat) (h : i < l.length) : rd_T40 l (i : Int) = l[i] := by
  unfold rd_T40
  simp [List.getD_eq_getElem?_getD, h]
theorem laws_toCarrierS_l0 (l : List S40) (hl : l.length ≤ 9223372036854775807) : ∀ (d i k : Nat), i + d = l.length → d < k →
    laws_toCarrierS.l0 k l ((l.map toC).take i ++ List.replicate d z42) (i : Int) = some (l.map toC)
  | 0, i, k, h, hk => by
    obtain ⟨k, rfl⟩ := succ_of (k := k) (by omega)
    simp only [laws_toCarrierS.l0]
    rw [if_neg (by omega), List.take_of_length_le (by simp; omega)]
    simp
  | d + 1, i, k, h, hk => by
    obtain ⟨k, rfl⟩ := succ_of (k := k) (by omega)
    simp only [laws_toCarrierS.l0]
    rw [if_pos (by omega), if_pos (by omega), laws_toCarrier_eq, Option.bind_some, if_pos (by simp; omega), wrap_succ (n := l.length) (by omega) hl]
    have e : ((l.map toC).take i ++ List.replicate (d + 1) z42).set ((i : Int)).toNat (⟨(rd_T40 l (i : Int)).f0, (rd_T40 l (i : Int)).f1, (rd_T40 l (i : Int)).f2⟩ : S42) = (l.map toC).take (i + 1) ++ List.replicate d z42 := by
      rw [Int.toNat_natCast, List.set_append_right _ _ (by simp; omega)]
      rw [List.length_take, List.length_map, Nat.min_eq_left (by omega), Nat.sub_self, List.replicate_succ, List.set_cons_zero, rdC_lawget l i (by omega)]
      rw [List.take_succ_eq_append_getElem (show i < (l.map toC).length by simp; omega), List.append_assoc, List.getElem_map]
      rfl
    rw [e]
    exact laws_toCarrierS_l0 l hl d (i + 1) k (by omega) (by omega)
theorem laws_toCarrierS_eq (k : Nat) (l : List S40) (hl : l.length ≤ 11728124029610) (hk : l.length < k) : laws_toCarrierS.f k l = some (l.map toC) := by
  unfold laws_toCarrierS.f
  rw [if_pos (by omega), if_pos (by simpa using hl)]
  have := laws_toCarrierS_l0 l (by omega) l.length 0 k (by omega) hk
  simpa using this
theorem impl_isLine_eq (s : Int) (r : Bool) : impl_isLine.f s r = some (road s r && !r) := by
  unfold impl_isLine.f
  rw [impl_IsRoad_eq, Option.bind_some]
  cases road s r <;> simp
theorem spec_l3Line_eq (s : Int) (r : Bool) (x : Int) : spec_l3Line.f s r x = some (road s r && !r && inR x 0 (s - 1)) := by
  unfold spec_l3Line.f
  rw [spec_l2Road_eq, Option.bind_some]
  cases h : road s r with
  | false => simp
  | true =>
    have := road_bd h
    rw [wrap64_id (by omega) (by omega)]
    cases r <;> simp [spec_l1In_eq]
theorem spec_l7Carrier_eq (s : Int) (r : Bool) (a b c : Int) : spec_l7Carrier.f s r a b c = some (road s r && !r && carrierOk s a b c) := by
  unfold spec_l7Carrier.f carrierOk
  rw [spec_l3Line_eq, Option.bind_some]
  simp only [spec_l1In_eq, Option.bind_some]
  cases road s r <;> cases r <;> cases inR a 0 (s - 1) <;> cases inR b 0 48 <;> simp
theorem rdC_get (l : List S42) (i : Nat) (h : i < l.length) : rd_T42 l (i : Int) = l[i] := by
  unfold rd_T42
  simp [List.getD_eq_getElem?_getD, h]
theorem drop_rdC (l : List S42) (i : Nat) (h : i < l.length) : l.drop i = rd_T42 l (i : Int) :: l.drop (i + 1) := by
  rw [List.drop_eq_getElem_cons h, rdC_get l i h]
def carriersOk (s : Int) (l : List S42) : Bool := l.all (fun c => carrierOk s c.f0 c.f1 c.f2)
theorem spec_l7Carriers_l0 (s : Int) (r : Bool) (l : List S42) (hl : l.length ≤ 9223372036854775807) : ∀ (d i k : Nat), i + d = l.length → d < k →
    spec_l7Carriers.l0 k l (i : Int) s r = some (road s r && !r && carriersOk s (l.drop i) && decide ((l.length : Int) ≤ 6))
  | 0, i, k, h, hk => by
    obtain ⟨k, rfl⟩ := succ_of (k := k) (by omega)
    simp only [spec_l7Carriers.l0]
    rw [if_neg (by omega), drop_end l i (by omega), spec_l2Road_eq, Option.bind_some]
    cases road s r <;> cases r <;> simp [carriersOk]
  | d + 1, i, k, h, hk => by
    obtain ⟨k, rfl⟩ := succ_of (k := k) (by omega)
    simp only [spec_l7Carriers.l0]
    rw [if_pos (by omega), if_pos (by omega), spec_l7Carrier_eq, Option.bind_some, wrap_succ (n := l.length) (by omega) hl, spec_l7Carriers_l0 s r l hl d (i + 1) k (by omega) (by omega), drop_rdC l i (by omega)]
    unfold carriersOk
    rw [List.all_cons]
    cases road s r <;> cases r <;> cases carrierOk s (rd_T42 l (i : Int)).f0 (rd_T42 l (i : Int)).f1 (rd_T42 l (i : Int)).f2 <;> simp
theorem spec_l7Carriers_eq (k : Nat) (s : Int) (r : Bool) (l : List S42) (hl : l.length ≤ 9223372036854775807) (hk : l.length < k) :
    spec_l7Carriers.f k s r l = some (road s r && !r && carriersOk s l && decide ((l.length : Int) ≤ 6)) := by
  unfold spec_l7Carriers.f
  have := spec_l7Carriers_l0 s r l hl l.length 0 k (by omega) hk
  simpa using this
theorem impl_Road_areCarriers_l0 (s : Int) (r : Bool) (hr : road s r = true) (l : List S42) (hl : l.length ≤ 9223372036854775807) : ∀ (d i k : Nat), i + d = l.length → d + 2 < k →
    impl_Road_areCarriers.l0 k l l (l.length : Int) (i : Int) s r = some (carriersOk s (l.drop i) && decide ((l.length : Int) ≤ 6))
  | 0, i, k, h, hk => by
    obtain ⟨k, rfl⟩ := succ_of (k := k) (by omega)
    simp only [impl_Road_areCarriers.l0]
    rw [if_neg (by omega), drop_end l i (by omega)]
    simp [carriersOk]
  | d + 1, i, k, h, hk => by
    obtain ⟨k, rfl⟩ := succ_of (k := k) (by omega)
    simp only [impl_Road_areCarriers.l0]
    rw [if_pos (by omega), if_pos (by omega), if_pos (by omega), impl_Road_has1 k s r _ hr (by omega), Option.bind_some, wrap_succ (n := l.length) (by omega) hl, impl_Road_areCarriers_l0 s r hr l hl d (i + 1) k (by omega) (by omega), drop_rdC l i (by omega)]
    simp only [impl_within_eq, Option.bind_some]
    unfold carriersOk
    rw [List.all_cons]
    unfold carrierOk
    cases inR (rd_T42 l (i : Int)).f0 0 (s - 1) <;> cases inR (rd_T42 l (i : Int)).f1 0 48 <;> cases inR (rd_T42 l (i : Int)).f2 0 20 <;> simp
theorem impl_Road_areCarriers_eq (k : Nat) (s : Int) (r : Bool) (hr : road s r = true) (l : List S42) (hl : l.length ≤ 9223372036854775807) (hk : l.length + 2 < k) :
    impl_Road_areCarriers.f k s r l = some (carriersOk s l && decide ((l.length : Int) ≤ 6)) := by
  unfold impl_Road_areCarriers.f
  have := impl_Road_areCarriers_l0 s r hr l hl l.length 0 k (by omega) hk
  simpa using this
theorem laws_eqCarrier_self (a b c : Int) : laws_eqCarrier.f a b c a b c = some true := by
  unfold laws_eqCarrier.f
  rw [if_pos rfl, if_pos rfl, if_pos rfl]
theorem laws_eqCarrierS_l0 (l : List S42) (hl : l.length ≤ 9223372036854775807) : ∀ (d i k : Nat), i + d = l.length → d < k → laws_eqCarrierS.l0 k l l (i : Int) = some true
  | 0, i, k, h, hk => by
    obtain ⟨k, rfl⟩ := succ_of (k := k) (by omega)
    simp only [laws_eqCarrierS.l0]
    rw [if_neg (by omega)]
  | d + 1, i, k, h, hk => by
    obtain ⟨k, rfl⟩ := succ_of (k := k) (by omega)
    simp only [laws_eqCarrierS.l0]
    rw [if_pos (by omega), if_pos (by omega), if_pos (by omega), laws_eqCarrier_self, Option.bind_some, if_pos rfl, wrap_succ (n := l.length) (by omega) hl]
    exact laws_eqCarrierS_l0 l hl d (i + 1) k (by omega) (by omega)
theorem laws_eqCarrierS_self (k : Nat) (l : List S42) (hl : l.length ≤ 9223372036854775807) (hk : l.length < k) : laws_eqCarrierS.f k l l = some true := by
  unfold laws_eqCarrierS.f
  rw [if_pos rfl]
  have := laws_eqCarrierS_l0 l hl l.length 0 k (by omega) hk
  simpa using this
def gapM (s : Int) (r : Bool) (a b : Int) : Int :=
  let d := if a - b < b - a then b - a else a - b
  if r = true then (if s - d < d then s - d else d) else d
theorem gapM_bd {s : Int} {r : Bool} {a b : Int} (hs : 2 ≤ s) (ha : 0 ≤ a ∧ a ≤ s - 1) (hb : 0 ≤ b ∧ b ≤ s - 1) : 0 ≤ gapM s r a b ∧ gapM s r a b ≤ s - 1 := by
  unfold gapM
  simp only
  split <;> split <;> (try split) <;> omega
theorem FnExactAreCarriers (a0_0 : Int) (a0_1 : Bool) (l1 : List (S40))
    (h0 : ((Lit.int .i64 (a0_0)).wf = true)) (h1 : True) (h2 : (l1.length ≤ maxLen ∧ ∀ x ∈ l1, (((Lit.int .i64 ((x).f0)).wf = true) ∧ ((Lit.int .i64 ((x).f1)).wf = true) ∧ ((Lit.int .i64 ((x).f2)).wf = true)))) :
    ∃ k, laws_FnExactAreCarriers.f k a0_0 a0_1 l1 = some true := by
  refine ⟨1048590, ?_⟩
  unfold laws_FnExactAreCarriers.f
  rw [laws_szCarrierS_eq l1 1048576 (by omega) (by omega) h2.1, Option.bind_some]
  by_cases c : (1048576 : Int) < (l1.length : Int)
  · rw [if_pos c, if_pos (by omega)]
  rw [if_neg c, if_neg (by omega)]
  have hm : (l1.map toC).length = l1.length := by simp
  simp only [laws_toRoad_eq, Option.bind_some, laws_toCarrierS_eq 1048590 l1 (by omega) (by omega)]
  unfold spec_AreCarriers.f impl_AreCarriers.f
  rw [spec_l2Road_eq, impl_isLine_eq, Option.bind_some, Option.bind_some]
  have hj : laws_FnExactAreCarriers.j0 1048590 l1 (l1.map toC) false = some true := by
    simp only [laws_FnExactAreCarriers.j0]
    rw [if_neg (by simp), laws_toCarrierS_eq 1048589 l1 (by omega) (by omega), Option.bind_some, laws_eqCarrierS_self 1048589 _ (by omega) (by omega)]
    simp
  cases hr : road a0_0 a0_1 with
  | false => simp [hj]
  | true =>
    rw [spec_l7Carriers_eq 1048590 _ _ _ (by omega) (by omega), impl_Road_areCarriers_eq 1048590 _ _ hr _ (by omega) (by omega), hr]
    cases a0_1 <;> simp [hj]

end Go.Proofs.Ytndcjfogechpjaa.Pure
