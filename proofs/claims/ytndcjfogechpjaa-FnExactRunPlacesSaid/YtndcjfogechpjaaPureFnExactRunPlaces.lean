/- Plain facts on numbers and lists: what the functions that the law FnExactRunPlaces reaches answer, and that the law's own function answers true. No program, no memory. -/
import Derived.Test.YtndcjfogechpjaaPFnExactRunPlacesx1
import Derived.Test.YtndcjfogechpjaaPFnExactRunPlacesx2
namespace Go.Proofs.Ytndcjfogechpjaa.Pure
open Go.RowKit Go.Proofs.Ytndcjfogechpjaa.PFnExactRunPlaces Go.Proofs.YtndcjfogechpjaaW.PrintWords Go.Proofs.YtndcjfogechpjaaW.PrintLast Go.Proofs.YtndcjfogechpjaaW.PrintMore
set_option linter.unusedVariables false
set_option linter.unusedSimpArgs false
theorem wrap64_id {x : Int} (h1 : -9223372036854775808 ≤ x) (h2 : x ≤ 9223372036854775807) : wrap64 x = x := by unfold wrap64; omega
theorem i64_of {x : Int} (h : (Lit.int .i64 x).wf = true) : -9223372036854775808 ≤ x ∧ x ≤ 9223372036854775807 := by
  simp [Lit.wf, IntKind.min, IntKind.max, IntKind.bits, IntKind.signed, IntKind.wrap] at h
  omega
def inR (x a b : Int) : Bool := decide (a ≤ x) && decide (x ≤ b)
theorem inR_iff {x a b : Int} : inR x a b = true ↔ a ≤ x ∧ x ≤ b := by unfold inR; simp
theorem inR_not {x a b : Int} : inR x a b = false ↔ ¬ (a ≤ x ∧ x ≤ b) := by rw [← inR_iff]; simp
def road (s : Int) (r : Bool) : Bool := inR s 2 24 && (!r || decide (3 ≤ s))
theorem road_bd {s : Int} {r : Bool} (h : road s r = true) : 2 ≤ s ∧ s ≤ 24 ∧ (r = true → 3 ≤ s) := by
  unfold road at h
  rw [Bool.and_eq_true, inR_iff] at h
  refine ⟨h.1.1, h.1.2, fun hr => ?_⟩
  have := h.2
  simp [hr] at this
  exact this
theorem spec_l1In_eq (a b c : Int) : spec_l1In.f a b c = some (inR a b c) := by
  unfold spec_l1In.f inR
  by_cases h : a ≥ b
  · have h' : b ≤ a := h
    simp [h, h']
  · have h' : ¬ b ≤ a := h
    simp [h, h']
theorem impl_within_eq (a b c : Int) : impl_within.f a b c = some (inR a b c) := by
  unfold impl_within.f inR
  by_cases h : a ≥ b
  · have h' : b ≤ a := h
    simp [h, h']
  · have h' : ¬ b ≤ a := h
    simp [h, h']
theorem spec_l2Road_eq (s : Int) (r : Bool) : spec_l2Road.f s r = some (road s r) := by
  unfold spec_l2Road.f road
  rw [spec_l1In_eq, Option.bind_some]
  cases inR s 2 24 <;> cases r <;> simp
  omega
theorem impl_IsRoad_eq (s : Int) (r : Bool) : impl_IsRoad.f s r = some (road s r) := by
  unfold impl_IsRoad.f road
  rw [impl_within_eq, Option.bind_some]
  cases inR s 2 24 <;> cases r <;> simp
theorem laws_toRoad_eq (s : Int) (r : Bool) : laws_toRoad.f s r = some (s, r) := rfl
theorem wrap_succ {i n : Nat} (h : i < n) (hn : n ≤ 9223372036854775807) : wrap64 ((i : Int) + 1) = ((i + 1 : Nat) : Int) := by unfold wrap64; omega
theorem drop_rd (l : List Int) (i : Nat) (h : i < l.length) : l.drop i = rd l (i : Int) :: l.drop (i + 1) := by
  rw [List.drop_eq_getElem_cons h]
  unfold rd
  simp [List.getD_eq_getElem?_getD, h]
theorem rd_get (l : List Int) (i : Nat) (h : i < l.length) : rd l (i : Int) = l[i] := by
  unfold rd
  simp [List.getD_eq_getElem?_getD, h]
theorem succ_of {k : Nat} (h : 0 < k) : ∃ m, k = m + 1 := ⟨k - 1, by omega⟩
theorem drop_end {α : Type} (l : List α) (i : Nat) (h : l.length ≤ i) : l.drop i = [] := List.drop_of_length_le h
def allIn (l : List Int) (a b : Int) : Bool := l.all (fun x => inR x a b)
/-- Numbers in line, from a on. -/
def marks (a : Int) : Nat → List Int
  | 0 => []
  | n + 1 => a :: marks (a + 1) n
theorem marks_len (a : Int) (n : Nat) : (marks a n).length = n := by
  induction n generalizing a with
  | zero => rfl
  | succ n ih => simp [marks, ih]
theorem marks_snoc (a : Int) (n : Nat) : marks a (n + 1) = marks a n ++ [a + n] := by
  induction n generalizing a with
  | zero => simp [marks]
  | succ n ih =>
    rw [marks, ih (a + 1)]
    simp [marks]
    omega
theorem marks_rd (a : Int) (n i : Nat) (h : i < n) : rd (marks a n) (i : Int) = a + i := by
  rw [rd_get _ _ (by rw [marks_len]; exact h)]
  induction n generalizing a i with
  | zero => omega
  | succ n ih =>
    cases i with
    | zero => simp [marks]
    | succ i =>
      simp only [marks, List.getElem_cons_succ]
      rw [ih (a + 1) i (by omega)]
      omega
theorem impl_allWithin_l0 (lo hi : Int) (l : List Int) (hl : l.length ≤ 9223372036854775807) : ∀ (d i k : Nat), i + d = l.length → d < k →
    impl_allWithin.l0 k lo hi l (l.length : Int) (i : Int) = some (allIn (l.drop i) lo hi)
  | 0, i, k, h, hk => by
    obtain ⟨k, rfl⟩ := succ_of (k := k) (by omega)
    simp only [impl_allWithin.l0]
    rw [if_neg (by omega), drop_end l i (by omega)]
    rfl
  | d + 1, i, k, h, hk => by
    obtain ⟨k, rfl⟩ := succ_of (k := k) (by omega)
    simp only [impl_allWithin.l0]
    rw [if_pos (by omega), if_pos (by omega), if_pos (by omega), impl_within_eq, Option.bind_some, wrap_succ (n := l.length) (by omega) hl, impl_allWithin_l0 lo hi l hl d (i + 1) k (by omega) (by omega), drop_rd l i (by omega)]
    unfold allIn
    rw [List.all_cons]
    cases inR (rd l (i : Int)) lo hi <;> simp
theorem impl_allWithin_eq (k : Nat) (l : List Int) (a b : Int) (hl : l.length ≤ 9223372036854775807) (hk : l.length < k) : impl_allWithin.f k l a b = some (allIn l a b) := by
  unfold impl_allWithin.f
  have := impl_allWithin_l0 a b l hl l.length 0 k (by omega) hk
  simpa using this
theorem impl_Road_has_eq (k : Nat) (s : Int) (r : Bool) (l : List Int) (hl : l.length ≤ 9223372036854775807) (hk : l.length < k) : impl_Road_has.f k s r l = some (allIn l 0 (wrap64 (s - 1))) := by
  unfold impl_Road_has.f
  rw [impl_allWithin_eq k l _ _ hl hk, Option.bind_some]
theorem impl_Road_has1 (k : Nat) (s : Int) (r : Bool) (x : Int) (hs : road s r = true) (hk : 1 < k) : impl_Road_has.f k s r [x] = some (inR x 0 (s - 1)) := by
  rw [impl_Road_has_eq k s r [x] (by simp) (by simpa using hk)]
  have := road_bd hs
  rw [wrap64_id (by omega) (by omega)]
  simp [allIn]
theorem impl_Road_hasN (k : Nat) (s : Int) (r : Bool) (l : List Int) (hs : road s r = true) (hl : l.length ≤ 9223372036854775807) (hk : l.length < k) : impl_Road_has.f k s r l = some (allIn l 0 (s - 1)) := by
  rw [impl_Road_has_eq k s r l hl hk]
  have := road_bd hs
  rw [wrap64_id (by omega) (by omega)]
theorem laws_eqIntS_l0 (l : List Int) (hl : l.length ≤ 9223372036854775807) : ∀ (d i k : Nat), i + d = l.length → d < k → laws_eqIntS.l0 k l l (i : Int) = some true
  | 0, i, k, h, hk => by
    obtain ⟨k, rfl⟩ := succ_of (k := k) (by omega)
    simp only [laws_eqIntS.l0]
    rw [if_neg (by omega)]
  | d + 1, i, k, h, hk => by
    obtain ⟨k, rfl⟩ := succ_of (k := k) (by omega)
    simp only [laws_eqIntS.l0]
    rw [if_pos (by omega), if_pos (by omega), if_pos (by omega), if_pos trivial, wrap_succ (n := l.length) (by omega) hl]
    exact laws_eqIntS_l0 l hl d (i + 1) k (by omega) (by omega)
theorem laws_eqIntS_self (k : Nat) (l : List Int) (hl : l.length ≤ 9223372036854775807) (hk : l.length < k) : laws_eqIntS.f k l l = some true := by
  unfold laws_eqIntS.f
  rw [if_pos rfl]
  have := laws_eqIntS_l0 l hl l.length 0 k (by omega) hk
  simpa using this
theorem laws_markIntS_l0 (l : List Int) (a : Int) (h0 : 0 ≤ a) (h1 : a + l.length ≤ 9223372036854775806) : ∀ (d i k : Nat), i + d = l.length → d < k →
    laws_markIntS.l0 k (marks a i ++ l.drop i) (a + i) (i : Int) = some (a + l.length, marks a l.length)
  | 0, i, k, h, hk => by
    obtain ⟨k, rfl⟩ := succ_of (k := k) (by omega)
    simp only [laws_markIntS.l0]
    rw [if_neg (by simp [marks_len]; omega), drop_end l i (by omega)]
    have : i = l.length := by omega
    subst this
    simp
  | d + 1, i, k, h, hk => by
    obtain ⟨k, rfl⟩ := succ_of (k := k) (by omega)
    simp only [laws_markIntS.l0]
    rw [if_pos (by simp [marks_len]; omega), if_pos (by omega), wrap_succ (n := l.length) (by omega) (by omega)]
    have e : (marks a i ++ l.drop i).set ((i : Int)).toNat (a + i) = marks a (i + 1) ++ l.drop (i + 1) := by
      rw [Int.toNat_natCast, List.set_append_right _ _ (by simp [marks_len])]
      rw [marks_len, Nat.sub_self, drop_rd l i (by omega), List.set_cons_zero, marks_snoc]
      simp
    rw [e, wrap64_id (by omega) (by omega), show a + (i : Int) + 1 = a + ((i + 1 : Nat) : Int) by omega]
    exact laws_markIntS_l0 l a h0 h1 d (i + 1) k (by omega) (by omega)
theorem laws_markIntS_eq (k : Nat) (l : List Int) (a : Int) (h0 : 0 ≤ a) (h1 : a + l.length ≤ 9223372036854775806) (hk : l.length < k) : laws_markIntS.f k l a = some (a + l.length, marks a l.length) := by
  unfold laws_markIntS.f
  have := laws_markIntS_l0 l a h0 h1 l.length 0 k (by omega) hk
  simpa [marks] using this
theorem laws_heldIntS_l0 (n : Nat) (a : Int) (h0 : 0 ≤ a) (h1 : a + n ≤ 9223372036854775806) : ∀ (d i k : Nat), i + d = n → d < k →
    laws_heldIntS.l0 k (marks a n) (a + i) (i : Int) = some (a + n)
  | 0, i, k, h, hk => by
    obtain ⟨k, rfl⟩ := succ_of (k := k) (by omega)
    simp only [laws_heldIntS.l0]
    rw [if_neg (by rw [marks_len]; omega)]
    congr 1
    omega
  | d + 1, i, k, h, hk => by
    obtain ⟨k, rfl⟩ := succ_of (k := k) (by omega)
    simp only [laws_heldIntS.l0]
    rw [if_pos (by rw [marks_len]; omega), if_pos (by omega), if_pos (marks_rd a n i (by omega)), wrap_succ (n := n) (by omega) (by omega), wrap64_id (by omega) (by omega), show a + (i : Int) + 1 = a + ((i + 1 : Nat) : Int) by omega]
    exact laws_heldIntS_l0 n a h0 h1 d (i + 1) k (by omega) (by omega)
theorem laws_heldIntS_eq (k : Nat) (n : Nat) (a : Int) (h0 : 0 ≤ a) (h1 : a + n ≤ 9223372036854775806) (hk : n < k) : laws_heldIntS.f k (marks a n) a = some (a + n) := by
  unfold laws_heldIntS.f
  have := laws_heldIntS_l0 n a h0 h1 n 0 k (by omega) hk
  simpa using this
theorem spec_l2Place_eq (s : Int) (r : Bool) (x : Int) : spec_l2Place.f s r x = some (road s r && inR x 0 (s - 1)) := by
  unfold spec_l2Place.f
  rw [spec_l2Road_eq, Option.bind_some]
  cases h : road s r with
  | false => simp
  | true =>
    have := road_bd h
    rw [wrap64_id (by omega) (by omega)]
    simp [spec_l1In_eq]
def runL (s x : Int) (n : Nat) : List Int := (List.range n).map (fun (i : Nat) => Int.tmod (x + i) s)
theorem runL_snoc (s x : Int) (n : Nat) : runL s x (n + 1) = runL s x n ++ [Int.tmod (x + n) s] := by unfold runL; rw [List.range_succ]; simp
theorem runL_len (s x : Int) (n : Nat) : (runL s x n).length = n := by simp [runL]
def fits (s : Int) (r : Bool) (x n : Int) : Bool := inR x 0 (s - 1) && inR n 0 s && (r || decide (x + n ≤ s))
theorem spec_l6Run_l0 (s : Int) (r : Bool) (x : Int) (n : Nat) (hs : 2 ≤ s ∧ s ≤ 24) (hx : 0 ≤ x ∧ x ≤ 1000) (hn : n ≤ 1000) : ∀ (d i k : Nat), i + d = n → d < k →
    spec_l6Run.l0 k x (n : Int) (runL s x i) (i : Int) s r = some (runL s x n)
  | 0, i, k, h, hk => by
    obtain ⟨k, rfl⟩ := succ_of (k := k) (by omega)
    simp only [spec_l6Run.l0]
    rw [if_neg (by omega), show i = n by omega]
  | d + 1, i, k, h, hk => by
    obtain ⟨k, rfl⟩ := succ_of (k := k) (by omega)
    simp only [spec_l6Run.l0]
    rw [if_pos (by omega), if_neg (by omega), if_pos (by rw [runL_len]; omega), wrap64_id (x := x + i) (by omega) (by omega), wrap_succ (n := n) (by omega) (by omega), ← runL_snoc]
    exact spec_l6Run_l0 s r x n hs hx hn d (i + 1) k (by omega) (by omega)
theorem spec_l6Run_eq (k : Nat) (s : Int) (r : Bool) (x n : Int) (hs : 2 ≤ s ∧ s ≤ 24) (hx : 0 ≤ x ∧ x ≤ 1000) (hn : 0 ≤ n ∧ n ≤ 1000) (hk : n.toNat < k) : spec_l6Run.f k s r x n = some (runL s x n.toNat) := by
  unfold spec_l6Run.f
  have := spec_l6Run_l0 s r x n.toNat hs hx (by omega) n.toNat 0 k (by omega) hk
  rw [Int.toNat_of_nonneg hn.1] at this
  simpa [runL] using this
theorem impl_Road_run_l0 (s : Int) (r : Bool) (x : Int) (n : Nat) (hs : 2 ≤ s ∧ s ≤ 24) (hx : 0 ≤ x ∧ x ≤ 1000) (hn : n ≤ 1000) : ∀ (d i k : Nat), i + d = n → d < k →
    impl_Road_run.l0 k x (runL s x i) (n : Int) (i : Int) s r = some (runL s x n)
  | 0, i, k, h, hk => by
    obtain ⟨k, rfl⟩ := succ_of (k := k) (by omega)
    simp only [impl_Road_run.l0]
    rw [if_neg (by omega), show i = n by omega]
  | d + 1, i, k, h, hk => by
    obtain ⟨k, rfl⟩ := succ_of (k := k) (by omega)
    simp only [impl_Road_run.l0]
    rw [if_pos (by omega), if_neg (by omega), if_pos (by rw [runL_len]; omega), wrap64_id (x := x + i) (by omega) (by omega), wrap_succ (n := n) (by omega) (by omega), ← runL_snoc]
    exact impl_Road_run_l0 s r x n hs hx hn d (i + 1) k (by omega) (by omega)
theorem impl_Road_run_eq (k : Nat) (s : Int) (r : Bool) (x n : Int) (hs : 2 ≤ s ∧ s ≤ 24) (hx : 0 ≤ x ∧ x ≤ 1000) (hn : 0 ≤ n ∧ n ≤ 1000) (hk : n.toNat < k) : impl_Road_run.f k s r x n = some (runL s x n.toNat) := by
  unfold impl_Road_run.f
  have := impl_Road_run_l0 s r x n.toNat hs hx (by omega) n.toNat 0 k (by omega) hk
  rw [Int.toNat_of_nonneg hn.1] at this
  simpa [runL] using this
theorem spec_l6Fits_eq (s : Int) (r : Bool) (x n : Int) : spec_l6Fits.f s r x n = some (road s r && fits s r x n) := by
  unfold spec_l6Fits.f fits
  rw [spec_l2Place_eq, Option.bind_some]
  cases hr : road s r with
  | false => simp
  | true =>
    have := road_bd hr
    cases hx : inR x 0 (s - 1) with
    | false => simp
    | true =>
      have hx := inR_iff.1 hx
      rw [spec_l1In_eq]
      cases hn : inR n 0 s with
      | false => simp
      | true =>
        have hn := inR_iff.1 hn
        rw [wrap64_id (x := x + n) (by omega) (by omega)]
        cases r <;> simp
theorem impl_Road_isRun_eq (k : Nat) (s : Int) (r : Bool) (x n : Int) (hr : road s r = true) (hk : 1 < k) : impl_Road_isRun.f k s r x n = some (fits s r x n) := by
  unfold impl_Road_isRun.f fits
  rw [impl_Road_has1 k s r x hr hk, Option.bind_some]
  have := road_bd hr
  cases hx : inR x 0 (s - 1) with
  | false => simp
  | true =>
    have hx := inR_iff.1 hx
    rw [impl_within_eq]
    cases hn : inR n 0 s with
    | false => simp
    | true =>
      have hn := inR_iff.1 hn
      rw [wrap64_id (x := x + n) (by omega) (by omega)]
      cases r <;> simp

theorem FnExactRunPlaces (a0_0 : Int) (a0_1 : Bool) (a1 : Int) (a2 : Int)
    (h0 : ((Lit.int .i64 (a0_0)).wf = true)) (h1 : True) (h2 : ((Lit.int .i64 (a1)).wf = true)) (h3 : ((Lit.int .i64 (a2)).wf = true)) :
    ∃ k, laws_FnExactRunPlaces.f k a0_0 a0_1 a1 a2 = some true := by
  have key : ∃ v : List Int × Bool, v.1.length ≤ 24 ∧ ∀ k, 30 < k → spec_RunPlaces.f k a0_0 a0_1 a1 a2 = some v ∧ impl_RunPlaces.f k a0_0 a0_1 a1 a2 = some v := by
    cases hr : road a0_0 a0_1 with
    | false =>
      refine ⟨([], false), by simp, fun k hk => ⟨?_, ?_⟩⟩
      · unfold spec_RunPlaces.f; rw [spec_l6Fits_eq, hr]; simp
      · unfold impl_RunPlaces.f; rw [impl_IsRoad_eq, hr]; simp
    | true =>
      have hb := road_bd hr
      cases hf : fits a0_0 a0_1 a1 a2 with
      | false =>
        refine ⟨([], false), by simp, fun k hk => ⟨?_, ?_⟩⟩
        · unfold spec_RunPlaces.f; rw [spec_l6Fits_eq, hr, hf]; simp
        · unfold impl_RunPlaces.f; rw [impl_IsRoad_eq, hr, Option.bind_some, if_pos rfl, impl_Road_isRun_eq k _ _ _ _ hr (by omega), hf]; simp
      | true =>
        have h' := hf
        unfold fits at h'
        rw [Bool.and_eq_true, Bool.and_eq_true, inR_iff, inR_iff] at h'
        have hx := h'.1.1
        have hn := h'.1.2
        refine ⟨(runL a0_0 a1 a2.toNat, true), by simp [runL_len]; omega, fun k hk => ⟨?_, ?_⟩⟩
        · unfold spec_RunPlaces.f; rw [spec_l6Fits_eq, hr, hf, spec_l6Run_eq k _ _ _ _ ⟨hb.1, hb.2.1⟩ (by omega) (by omega) (by omega)]; simp
        · unfold impl_RunPlaces.f; rw [impl_IsRoad_eq, hr, Option.bind_some, if_pos rfl, impl_Road_isRun_eq k _ _ _ _ hr (by omega), hf, impl_Road_run_eq k _ _ _ _ ⟨hb.1, hb.2.1⟩ (by omega) (by omega) (by omega)]; simp
  obtain ⟨⟨v, b⟩, hl, hv⟩ := key
  refine ⟨103, ?_⟩
  unfold laws_FnExactRunPlaces.f
  simp only [laws_toRoad_eq, Option.bind_some]
  rw [(hv 103 (by omega)).1, (hv 103 (by omega)).2]
  simp only [Option.bind_some]
  rw [laws_eqIntS_self 103 v (by simp at hl; omega) (by simp at hl; omega)]
  simp only [Option.bind_some, if_true, bne_self_eq_false, laws_FnExactRunPlaces.j0]
  rw [if_neg (by simp), laws_markIntS_eq 102 v 1 (by omega) (by simp at hl; omega) (by simp at hl; omega)]
  simp only [Option.bind_some, laws_toRoad_eq]
  rw [laws_heldIntS_eq 102 v.length 1 (by omega) (by simp at hl; omega) (by simp at hl; omega), (hv 102 (by omega)).2]
  simp only [Option.bind_some]
  rw [if_neg (by omega), if_pos trivial, laws_eqIntS_self 102 v (by simp at hl; omega) (by simp at hl; omega)]
  simp only [Option.bind_some, if_true, bne_self_eq_false, laws_FnExactRunPlaces.j1]
  rw [if_neg (by simp), laws_heldIntS_eq 101 v.length 1 (by omega) (by simp at hl; omega) (by simp at hl; omega)]
  simp only [Option.bind_some]
  rw [if_neg (by omega), if_pos trivial]

end Go.Proofs.Ytndcjfogechpjaa.Pure
