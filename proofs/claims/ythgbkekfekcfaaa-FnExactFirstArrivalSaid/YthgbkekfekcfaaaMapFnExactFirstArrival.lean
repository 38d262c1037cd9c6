/- A map from two whole numbers to whole numbers that a call makes for itself, told by the row of its stores, the younger ones ahead. No conditions. -/
import Derived.Maps.Own
import Derived.Maps.OwnSet
import Derived.Maps.Views
import Derived.DeepKeys4
import Derived.WalkKit
import Derived.KernelRfl
import Derived.Test.YthgbkekfekcfaaaProg
import Derived.Test.YthgbkekfekcfaaaVFnExactFirstArrival
namespace Go.Proofs.Ythgbkekfekcfaaa.Own
set_option linter.unusedVariables false
set_option linter.unusedSimpArgs false
set_option maxRecDepth 100000
open Go Go.Maps Go.RowKit Go.Proofs.YthgbkekfekcfaaaW.PrintWords Go.Proofs.YthgbkekfekcfaaaW.PrintLast Go.Proofs.YthgbkekfekcfaaaW.PrintMore
theorem mapLaid : laidOutB Try.prog = true := by kernel_rfl
theorem mapRow : (87 : TypeId) < Try.prog.types.size := of_decide_eq_true (by kernel_rfl)
theorem mapWide : (match Try.prog.underlying 87 with | some (.array _ _) | some (.struct _) => true | _ => false) = true := by kernel_rfl
theorem mapKeyed : Keyed Try.prog 87 := Keyed.of_law (deep_law_laid mapLaid (m := 2) (by omega) mapRow (by kernel_rfl) mapWide)
def kv (u p : Int) : Value := .agg #[.int .i64 u, .int .i64 p]
def wfi (x : Int) : Prop := -9223372036854775808 ≤ x ∧ x ≤ 9223372036854775807
instance (x : Int) : Decidable (wfi x) := by unfold wfi; infer_instance
theorem wfi_wf {x : Int} (h : wfi x) : (Lit.int .i64 x).wf = true := by
  unfold wfi at h
  simp [Lit.wf, IntKind.min, IntKind.max, IntKind.bits, IntKind.signed]
  omega
theorem mapKeyType : Try.prog.keyType 87 = true := by kernel_rfl
theorem mapCells : Try.prog.cellsOf 87 = 2 := by kernel_rfl
theorem mapCellsI : Try.prog.cellsOf 3 = 1 := by kernel_rfl
theorem keyLits_two (P : Program) (t it : TypeId) {f0 f1 : Field} (hu : P.underlying t = some (.struct #[f0, f1])) (hi : P.underlying it = some (.int .i64)) (hc : P.cellsOf t = 2) (hci : P.cellsOf it = 1) (h0 : f0.type = it) (h1 : f1.type = it) (ho0 : f0.offset = 0) (ho1 : f1.offset = 1) (hn : (#[f0, f1] : Array Field).all (·.name != "_") = true) (n : Nat) {u p : Int} (hwu : (Lit.int .i64 u).wf = true) (hwp : (Lit.int .i64 p).wf = true) : P.keyLits (n + 1 + 1) t [.int .i64 u, .int .i64 p] = some [.int .i64 u, .int .i64 p] := by
  have e1 : ∀ x : Int, (Lit.int .i64 x).wf = true → P.keyLits (n + 1) it [.int .i64 x] = some [.int .i64 x] := fun x hx => by
    unfold Program.keyLits
    rw [hi]
    simp [hx]
  unfold Program.keyLits
  rw [hu]
  simp only [hc, hn, List.length_cons, List.length_nil, and_self, if_true, h0, h1, ho0, ho1, hci]
  simp [List.mapM_cons, List.mapM_nil, h0, h1, ho0, ho1, hci, e1 u hwu, e1 p hwp]
theorem keyAt {u p : Int} (hu : wfi u) (hp : wfi p) : ∃ l, keyOf Try.prog 87 (kv u p) = some l := by
  have hl := keyLits_two Try.prog 87 3 Try.underlying87 Try.underlying3 mapCells mapCellsI rfl rfl rfl rfl (by simp) (Try.prog.types.size - 1) (wfi_wf hu) (wfi_wf hp)
  have hs : Try.prog.types.size + 1 = (Try.prog.types.size - 1) + 1 + 1 := by
    have h : 0 < Try.prog.types.size := Nat.lt_of_le_of_lt (Nat.zero_le _) mapRow
    generalize Try.prog.types.size = z at h ⊢
    omega
  have hc : (kv u p).cells.toList = [.int .i64 u, .int .i64 p] := rfl
  have hf : (kv u p).formed Try.prog 87 = true := by simp only [kv, Value.formed, Try.underlying87, mapCells]; rfl
  refine ⟨.string (keyBytes [.int .i64 u, .int .i64 p]), ?_⟩
  unfold keyOf
  rw [Try.underlying87]
  simp only [mapKeyType, hf, Bool.and_self, if_true, hc, hs, hl, Option.map_some]
noncomputable def kl (u p : Int) : Lit := (keyOf Try.prog 87 (kv u p)).getD (.bool false)
theorem keyOf_kl {u p : Int} (hu : wfi u) (hp : wfi p) : keyOf Try.prog 87 (kv u p) = some (kl u p) := by
  obtain ⟨l, h⟩ := keyAt hu hp
  unfold kl
  rw [h]
  rfl
theorem kl_inj {u p u' p' : Int} (hu : wfi u) (hp : wfi p) (hu' : wfi u') (hp' : wfi p') (h : kl u p = kl u' p') : u = u' ∧ p = p' := by
  have h1 := keyOf_kl hu hp
  rw [h] at h1
  have h2 := mapKeyed.inj h1 (keyOf_kl hu' hp')
  unfold kv at h2
  injection h2 with h3
  injection h3 with h4
  injection h4 with h5 h6
  injection h6 with h7 h8
  injection h5 with _ h9
  injection h7 with _ h10
  exact ⟨h9, h10⟩
def mgetM : List Int → Int → Int → Option Int
  | u :: p :: v :: t, a, b => if u = a ∧ p = b then some v else mgetM t a b
  | _, _, _ => none
def Mp (W : World) (base b : Nat) (xs : List Int) : Prop := base ≤ b ∧ ∃ (n : Nat) (D : DataW Unit), n ≤ xs.length ∧ W.ownsMap Try.prog 87 (plainElem Try.prog 3) b n D ∧ ∀ u p, wfi u → wfi p → Maps.has D (kl u p) = (mgetM xs u p).isSome ∧ D.atKey (kl u p) (.lit (.int .i64 0)) = .lit (.int .i64 ((mgetM xs u p).getD 0))
theorem Mp.lt {W : World} {base b : Nat} {xs : List Int} (h : Mp W base b xs) : b < W.heap.size := by
  obtain ⟨_, n, D, _, ho, _⟩ := h
  exact ho.lt
theorem Mp.grown {W W' : World} {base b : Nat} {xs : List Int} {row : Option Nat} (h : Mp W base b xs) (hg : W.grownBy W' row) (hne : some b ≠ row) : Mp W' base b xs := by
  obtain ⟨h0, n, D, hn, ho, hD⟩ := h
  exact ⟨h0, n, D, hn, ho.kept hg hne, hD⟩
theorem Mp.alloc {W : World} {base b : Nat} {xs : List Int} (h : Mp W base b xs) (o : Obj) : Mp (W.alloc o) base b xs := h.grown (World.grownBy_alloc W o none) (by simp)
theorem Mp.drew {W : World} {base b : Nat} {xs : List Int} (h : Mp W base b xs) : Mp W.drew base b xs := h
theorem Mp.drewN {W : World} {base b : Nat} {xs : List Int} (h : Mp W base b xs) (m : Nat) : Mp (W.drewN m) base b xs := h
theorem Mp.below {W W' : World} {base b : Nat} {xs : List Int} (h : Mp W base b xs) (hb : Below W.heap.size W W') : Mp W' base b xs := h.grown (grown_of_below hb none) (by simp)
theorem Mp.set {W : World} {base b : Nat} {xs : List Int} {a : Addr} (h : Mp W base b xs) (hne : b ≠ a.block) (v : Value) : Mp (W.setCell a v) base b xs := by
  obtain ⟨h0, n, D, hn, ho, hD⟩ := h
  exact ⟨h0, n, D, hn, ho.setCell hne v, hD⟩
theorem Mp.ne_cells {W : World} {base b g : Nat} {xs : List Int} {cs : Array Value} {t : TypeId} {r : Nat × Nat} (h : Mp W base b xs) (hc : W.heap[g]? = some (.cells cs t r)) : b ≠ g := by
  obtain ⟨_, n, D, _, ⟨es, clock, hb, _⟩, _⟩ := h
  rintro rfl
  rw [hb] at hc
  cases hc
theorem mq {A B : Prop} (h : Aside0 A) (f : A → B := by intro h_; repeat (first | (with_reducible first | exact h_ | apply Mp.alloc | apply Mp.drewN | apply Mp.drew | refine Mp.set ?_ (Mp.ne_cells h_ (Aside0.out (by assumption))) _) | exact h_)) : B := f h.out
theorem mq_below {w w' : World} (h : w' = w) : Below w.heap.size w w' := by rw [h]; exact Below.refl _ _
theorem mapZero (w : World) : (zeroValue 3).run Try.prog w = .ok (.int .i64 0) w := by kernel_rfl
def impl_mnew.f (k : Nat) : Option (List Int) := some []
def impl_mget.f (k : Nat) (l0 : List Int) (a1_0 a1_1 : Int) : Option (Int × Bool) := if wfi a1_0 ∧ wfi a1_1 then some ((mgetM l0 a1_0 a1_1).getD 0, (mgetM l0 a1_0 a1_1).isSome) else none
def impl_mput.f (k : Nat) (l0 : List Int) (a1_0 a1_1 a2 : Int) : Option (List Int) := if (wfi a1_0 ∧ wfi a1_1) ∧ wfi a2 ∧ l0.length < 1000000 then some (a1_0 :: a1_1 :: a2 :: l0) else none
theorem impl_mnew.mono : ∀ k, LeO (impl_mnew.f k) (impl_mnew.f (k + 1)) := fun _ => LeO.refl _
theorem impl_mget.mono : ∀ a0 a1 a2 k, LeO (impl_mget.f k a0 a1 a2) (impl_mget.f (k + 1) a0 a1 a2) := fun _ _ _ _ => LeO.refl _
theorem impl_mput.mono : ∀ a0 a1 a2 a3 k, LeO (impl_mput.f k a0 a1 a2 a3) (impl_mput.f (k + 1) a0 a1 a2 a3) := fun _ _ _ _ _ => LeO.refl _
/-- A call of a function value that a slot holds, in a drawn region. -/
theorem goV_ {P : Program} {ops : Array Oper} {Q : Exit → Act → World → Prop} {oi : Oper} {N : Option Tmp} {a : Act} {w : World} {K : Act → World → Prop} {f : FuncId} {fn : Func} {xs : Array Operand} {ts : Array TypeId} {fo : Operand} {bound caps : Array Value} (hf : P.funcs[f]? = some fn) (args : Array Value) (h : Calls P f args w fun e w' => ∃ v, e = .returned v ∧ K (a.put N v) w')
    (hname : (fn.name == "runtime.NumGoroutine") = false := by kernel_rfl) (hb : fn.body.isSome = true := by rfl) (hw : Region.wanted oi (yielded ops a.tmps) = true := by rfl) (hN : oi.dst = N := by rfl) (hop : oi.op = .call { callee := .value fo, args := xs, argTypes := ts } := by rfl) (hfo : a.eval fo = .func (.func f) bound caps := by rfl)
    (hargs : bound ++ xs.map a.eval ++ caps = args := by (try simp only [List.map_toArray, List.map_cons, List.map_nil]); first | done | rfl) : if Region.wanted oi (yielded ops a.tmps) = true then Oper.wp P oi a w K Q else K (a.put N undef) w := by
  refine call_ f args hw hN ?_ h
  have he := enters_ hf hname hb args w
  unfold execOp
  simp [hop, resolve, Deferred.ofValue, hfo, invoke, hargs, he]
section
variable {ops : Array Oper} {rest : List Oper} {o : Oper} {a : Act} {Q : Exit → Act → World → Prop} {W : World} {base b k : Nat} {xs ys : List Int} {m x v : Operand}
theorem gate_put (h : o.dst = none) (g : wpList Try.prog ops Q (o :: rest) a W) : wpList Try.prog ops Q (o :: rest) a W := g
theorem mnew_step (N : Option Tmp) {w0 : World} (h : impl_mnew.f k = some xs) (hB : w0.heap.size ≤ W.heap.size) (hK : ∀ (b : Nat) (w' : World), Mp w' w0.heap.size b xs → Below W.heap.size W w' → wpList Try.prog ops Q rest (a.put N (.map (some b))) w')
    (hd : o.dst = N := by rfl) (hg : o.guard = none := by rfl) (hop : o.op = Op.makeMap 88 none := by rfl) : wpList Try.prog ops Q (o :: rest) a W := by
  unfold impl_mnew.f at h
  obtain rfl := Option.some.inj h
  subst hd
  refine wpList_plain hg fun K' hK' => ?_
  unfold Oper.wp
  have hrun := @run_makeMap Try.prog 88 W
  simp [execOp, hop, hrun, Result.andThen]
  refine hK' _ _ (hK _ _ ⟨hB, 0, _, Nat.zero_le _, World.ownsMap_made W _ _ _, fun u p hu hp => ⟨rfl, rfl⟩⟩ (below_alloc (Below.refl _ _) _))
theorem mget_step (N : Option Tmp) {u p c : Int} {ok : Bool} (h : impl_mget.f k xs u p = some (c, ok)) (hm : Mp W base b xs) (hK : ∀ w', w' = W → wpList Try.prog ops Q rest (a.put N (.tuple #[.int .i64 c, .bool ok])) w')
    (hd : o.dst = N := by rfl) (hg : o.guard = none := by rfl) (hop : o.op = Op.lookup 88 m x true := by rfl) (he : a.eval m = .map (some b) := by rfl) (hx : a.eval x = kv u p := by rfl) : wpList Try.prog ops Q (o :: rest) a W := by
  unfold impl_mget.f at h
  by_cases c0 : wfi u ∧ wfi p
  · rw [if_pos c0] at h
    injection h with h
    injection h with h1 h2
    subst h1 h2
    subst hd
    obtain ⟨_, n, D, _, ho, hD⟩ := hm
    obtain ⟨h3, h4⟩ := hD u p c0.1 c0.2
    refine wpList_lookup_own_ok_int W hg m x 88 hop 87 3 .i64 mapKeyed Try.underlying88 Try.underlying3 (mapZero W) b n D he ho (kv u p) (kl u p) hx (keyOf_kl c0.1 c0.2) (fun c' hc _ => ?_)
    rw [h4] at hc
    injection hc with hc
    injection hc with _ hc
    subst hc
    rw [h3]
    exact hK W rfl
  · rw [if_neg c0] at h
    cases h
theorem mput_step {w0 : World} {u p y : Int} (h : impl_mput.f k xs u p y = some ys) (hm : Mp W w0.heap.size b xs) (hB : Below w0.heap.size w0 W)
    (hK : ∀ (w' : World), Mp w' w0.heap.size b ys → Below w0.heap.size w0 w' → (∀ (g : Nat) (cs : Array Value) (t : TypeId) (r : Nat × Nat), W.heap[g]? = some (Obj.cells cs t r) → w'.heap[g]? = some (Obj.cells cs t r)) → wpList Try.prog ops Q rest a w')
    (hd : o.dst = none := by rfl) (hg : o.guard = none := by rfl) (hop : o.op = Op.mapUpdate 88 m x v ∨ o.op = Op.insert 88 m x v := by first | exact .inl rfl | exact .inr rfl) (he : a.eval m = .map (some b) := by rfl) (hx : a.eval x = kv u p := by rfl) (hv : a.eval v = .int .i64 y := by rfl) : wpList Try.prog ops Q (o :: rest) a W := by
  unfold impl_mput.f at h
  by_cases c0 : (wfi u ∧ wfi p) ∧ wfi y ∧ xs.length < 1000000
  · rw [if_pos c0] at h
    injection h with h
    subst h
    have hm0 := hm
    obtain ⟨hbase, n, D, hn, ho, hD⟩ := hm
    have hkey := keyOf_kl c0.1.1 c0.1.2
    obtain ⟨w', hrun, ho', hgr⟩ := ho.update mapKeyed Try.underlying88 (by unfold maxLen; omega) hkey (plainElem_int (H := Unit) Try.underlying3 (wfi_wf c0.2.1))
    refine wpList_plain hg fun K' hK' => ?_
    unfold Oper.wp
    have hfin := hK w' ⟨hbase, n + 1, D.put (kl u p) (.lit (.int .i64 y)), by simp only [List.length_cons]; omega, ho', fun a1 b1 ha hb1 => ?_⟩ (hB.grown hgr hB.size (fun k_ e_ => by injection e_ with e_; omega)) (fun g cs t r hc => (hgr.block g (blk_lt hc) (fun e => hm0.ne_cells hc (by injection e with e; exact e.symm))).trans hc)
    · rw [show a = a.put o.dst undef by rw [hd]; rfl] at hfin
      rcases hop with hop | hop <;> (simp [execOp, hop, he, hx, hv, hrun, Result.andThen]; exact hK' _ _ hfin)
    · unfold mgetM
      by_cases e : u = a1 ∧ p = b1
      · obtain ⟨rfl, rfl⟩ := e
        rw [if_pos ⟨rfl, rfl⟩]
        exact ⟨has_put_same ho.isMap (mapKeyed.key hkey) _, atKey_put_same ho.isMap (mapKeyed.key hkey) _ _⟩
      · rw [if_neg e]
        have hne : kl a1 b1 ≠ kl u p := fun e2 => e (by have := kl_inj ha hb1 c0.1.1 c0.1.2 e2; exact ⟨this.1.symm, this.2.symm⟩)
        have h2 := hD a1 b1 ha hb1
        exact ⟨by rw [has_put_other hne]; exact h2.1, by rw [atKey_put_other hne]; exact h2.2⟩
  · rw [if_neg c0] at h
    cases h
end
end Go.Proofs.Ythgbkekfekcfaaa.Own
