/-
  Rules for operations, slices, fresh blocks; a law's arguments; a law's row.
-/
import Derived.Test.YtedoeeeomfgjnaaDoorVe5
set_option linter.unusedSimpArgs false
set_option linter.unusedVariables false
/- Weakest preconditions of the evaluator: what the operations do. -/
namespace Go.VE
open Go
def wopt {α : Type} (x : Option α) (K : α → Prop) : Prop :=
  match x with
  | some a => K a
  | none => False
theorem wopt_some {α : Type} (a : α) (K : α → Prop) : wopt (some a) K = K a := propext Iff.rfl
theorem wopt_none {α : Type} (K : α → Prop) : wopt none K = False := propext Iff.rfl
theorem wopt_map {α β : Type} (x : Option α) (f : α → β) (K : β → Prop) : wopt (x.map f) K = wopt x fun a => K (f a) := by cases x <;> rfl
theorem wopt_bind {α β : Type} (x : Option α) (f : α → Option β) (K : β → Prop) : wopt (x.bind f) K = wopt x fun a => wopt (f a) K := by cases x <;> rfl
theorem wopt_ite {α : Type} {c : Prop} [Decidable c] (x y : Option α) (K : α → Prop) : wopt (if c then x else y) K = if c then wopt x K else wopt y K := by split <;> rfl
theorem wdec_true (A B : Prop) : wdec (.bool true) A B = A := propext Iff.rfl
theorem wdec_false (A B : Prop) : wdec (.bool false) A B = B := propext Iff.rfl
theorem wdec_bool (b : Bool) (A B : Prop) : wdec (.bool b) A B = if b = true then A else B := by cases b <;> rfl
theorem xcallv_fn [Memo] {P : Program} {ro : Nat} (k : FuncId) (a b : List Value) (args : List Value) (s : St) (K : Value → St → Prop) : xcallv (prims P ro) (.func (.func k) (.mk a) (.mk b)) args s K = CallWP P ro k (a ++ (args ++ b)) s K := propext Iff.rfl
theorem callEq [Memo] {P : Program} {ro : Nat} {f : FuncId} {args : List Value} {s : St} {v0 : Value} {s0 : St} (h : CallWP P ro f args s fun v s' => v = v0 ∧ s' = s0) (K : Value → St → Prop) : CallWP P ro f args s K = K v0 s0 := by
  obtain ⟨n, v, s', e, rfl, rfl⟩ := h
  refine propext ⟨fun h => ?_, fun h => ⟨n, v, s', e, h⟩⟩
  obtain ⟨m, v2, s2, e2, hk⟩ := h
  have e1 := acall_mono (ev_mono (Nat.le_max_left n m)) e
  have e3 := acall_mono (ev_mono (Nat.le_max_right n m)) e2
  rw [e1] at e3
  cases e3
  exact hk
theorem at_new (s : St) (o : AO) (A : Nat) : (s.new o).at A = if A = s.n then some o else s.at A := St.at_new s o A
theorem n_new (s : St) (o : AO) : (s.new o).n = s.n + 1 := rfl
theorem lo_new (s : St) (o : AO) : (s.new o).lo = s.lo := rfl
theorem at_ent (s : St) (A : Nat) : (ent s).at A = s.at A := rfl
theorem n_ent (s : St) : (ent s).n = s.n := rfl
theorem lo_ent (s : St) : (ent s).lo = s.n := rfl
theorem n_put (s : St) (A : Nat) (o : AO) : (s.put A o).n = s.n := rfl
theorem lo_put (s : St) (A : Nat) (o : AO) : (s.put A o).lo = min s.lo A := rfl
theorem at_put' (s : St) (A : Nat) (o : AO) (B : Nat) (hA : A < s.n) (hl : s.h.length = s.n) : (s.put A o).at B = if B = A then some o else s.at B := St.at_put s hl A o B hA
section
variable [Memo] {P : Program} {ro : Nat}
theorem wfol_with (s : St) (x : Option Value) (K : Value → St → Prop) : wfol P ro K (withSt s x) = wopt x fun v => K v s := by cases x <;> rfl
theorem wfol_val (x : Option (Value × St)) (K : Value → St → Prop) : wfol P ro K (valSt x) = wopt x fun p => K p.1 p.2 := by cases x <;> rfl
theorem wfol_skip (x : Option St) (K : Value → St → Prop) : wfol P ro K (skipSt x) = wopt x fun s => K undef s := by cases x <;> rfl
theorem wop_load (t : TypeId) (a : Value) (ty : TypeId) (s : St) (K : Value → St → Prop) : wop P ro (.load t (.const a)) ty s K = wopt (aload P s t a) fun v => K v s := wfol_with _ _ _
theorem wop_store (t : TypeId) (a v : Value) (ty : TypeId) (s : St) (K : Value → St → Prop) : wop P ro (.store t (.const a) (.const v)) ty s K = wopt (astore P ro s t a v) fun s' => K undef s' := wfol_skip _ _
theorem wop_fieldAddr (t : TypeId) (a : Value) (f : Nat) (ty : TypeId) (s : St) (K : Value → St → Prop) : wop P ro (.fieldAddr t (.const a) f) ty s K = wopt (afieldAddr P t a f) fun v => K v s := wfol_with _ _ _
theorem wop_field (t : TypeId) (a : Value) (f : Nat) (ty : TypeId) (s : St) (K : Value → St → Prop) : wop P ro (.field t (.const a) f) ty s K = wopt (afield P t a f) fun v => K v s := wfol_with _ _ _
theorem wop_indexAddr (t : TypeId) (a i : Value) (ty : TypeId) (s : St) (K : Value → St → Prop) : wop P ro (.indexAddr t (.const a) (.const i)) ty s K = wopt (aindexAddr P t a i) fun v => K v s := wfol_with _ _ _
theorem wop_index_agg (t : TypeId) (cs : Array Value) (i : Value) (ty : TypeId) (s : St) (K : Value → St → Prop) : wop P ro (.index t (.const (.agg cs)) (.const i)) ty s K = wopt (aindex P t (.agg cs) i) fun v => K v s := wfol_with _ _ _
theorem wop_box (e : TypeId) (v : Value) (ty : TypeId) (s : St) (K : Value → St → Prop) : wop P ro (.box e (.const v)) ty s K = K (.pointer (some ⟨s.n, 0, none⟩)) (s.new (.cells v.cells.toList e false)) := propext Iff.rfl
theorem wop_build (t : TypeId) (ps : List (Nat × Operand)) (ty : TypeId) (s : St) (K : Value → St → Prop) : wop P ro (.build t ⟨ps⟩) ty s K = wopt (abuild P t (partVals .e ps)) fun v => K v s := wfol_with _ _ _
theorem wop_buildSlice (t : TypeId) (n : Nat) (ps : List (Nat × Operand)) (ty : TypeId) (s : St) (K : Value → St → Prop) : wop P ro (.buildSlice t n ⟨ps⟩) ty s K = wopt (abuildSlice P s t n (partVals .e ps)) fun p => K p.1 p.2 := wfol_val _ _
theorem wop_makeSlice (t : TypeId) (l c : Value) (ty : TypeId) (s : St) (K : Value → St → Prop) : wop P ro (.makeSlice t (.const l) (.const c)) ty s K = wopt (amakeSlice P s t l c) fun p => K p.1 p.2 := wfol_val _ _
theorem wop_append (a b : Value) (t u : TypeId) (ty : TypeId) (s : St) (K : Value → St → Prop) : wop P ro (.call ⟨.builtin .append, ⟨[.const a, .const b]⟩, #[t, u]⟩) ty s K = wopt (aappend P ro s #[t, u] [a, b]) fun p => K p.1 p.2 := wfol_val _ _
theorem wop_len {t e : TypeId} (h : sliceElem P t = some e) (a : Option Addr) (n c : Nat) (ty : TypeId) (s : St) (K : Value → St → Prop) : wop P ro (.call ⟨.builtin .len, ⟨[.const (.slice a n c)]⟩, #[t]⟩) ty s K = K (.int .i64 n) s := by
  simp only [wop, nilOk, cond_true, aop, mkO, acallOp, abuiltin, alenOp, avals, aval, h]
  rfl
theorem wop_nilCheck (a : Addr) (ty : TypeId) (s : St) (K : Value → St → Prop) : wop P ro (.nilCheck (.const (.pointer (some a)))) ty s K = K (.pointer (some a)) s := propext Iff.rfl
theorem wop_int (op : BinOp) (t : TypeId) (k k' : IntKind) (a b : Int) (r : TypeId) (ty : TypeId) (s : St) (K : Value → St → Prop) : wop P ro (.binOp op t (.const (.int k a)) (.const (.int k' b)) r) ty s K = wopt (abinInt P op k a k' b) fun v => K v s := by
  have hn : nilOk (.binOp op t (.const (.int k a)) (.const (.int k' b)) r) = true := rfl
  simp only [wop, hn, cond_true]
  exact wfol_with _ _ _
theorem wop_not (b : Bool) (t ty : TypeId) (s : St) (K : Value → St → Prop) : wop P ro (.unOp .not t (.const (.bool b))) ty s K = K (.bool (!b)) s := propext Iff.rfl
theorem wop_slice (t : TypeId) (a : Addr) (n c : Nat) (lo hi mx : Option Operand) (ty : TypeId) (s : St) (K : Value → St → Prop) : wop P ro (.slice t (.const (.slice (some a) n c)) lo hi mx) ty s K = wopt (asliceOp P t (.slice (some a) n c) (lo.map (aval .e)) (hi.map (aval .e)) (mx.map (aval .e))) fun v => K v s := wfol_with _ _ _
theorem wop_extract (vs : List Value) (i : Nat) (ty : TypeId) (s : St) (K : Value → St → Prop) : wop P ro (.extract (.const (.tuple ⟨vs⟩)) i) ty s K = wopt vs[i]? fun v => K v s := wfol_with _ _ _
theorem wop_makeMap {t : TypeId} (h : (mapTypes P t).isSome = true) (ty : TypeId) (s : St) (K : Value → St → Prop) : wop P ro (.makeMap t none) ty s K = K (.map (some s.n)) (s.new (.map [] 0)) := by
  simp only [wop, nilOk, cond_true, aop, mkO, amakeMap]
  cases hm : mapTypes P t with
  | none => rw [hm] at h; cases h
  | some x => rfl
end
section
variable {P : Program}
theorem int_add {k : IntKind} (h : keq k k = true) (a b : Int) : abinInt P .add k a k b = some (.int k (k.wrap (a + b))) := by simp only [abinInt, h, cond_true]
theorem int_sub {k : IntKind} (h : keq k k = true) (a b : Int) : abinInt P .sub k a k b = some (.int k (k.wrap (a - b))) := by simp only [abinInt, h, cond_true]
theorem int_mul {k : IntKind} (h : keq k k = true) (a b : Int) : abinInt P .mul k a k b = some (.int k (k.wrap (a * b))) := by simp only [abinInt, h, cond_true]
theorem int_eql {k : IntKind} (h : keq k k = true) (a b : Int) : abinInt P .eql k a k b = some (.bool (decide (a = b))) := by simp only [abinInt, h, cond_true]; rfl
theorem int_neq {k : IntKind} (h : keq k k = true) (a b : Int) : abinInt P .neq k a k b = some (.bool (!decide (a = b))) := by simp only [abinInt, h, cond_true]; rfl
theorem int_lss {k : IntKind} (h : keq k k = true) (a b : Int) : abinInt P .lss k a k b = some (.bool (decide (a < b))) := by simp only [abinInt, h, cond_true]
theorem int_leq {k : IntKind} (h : keq k k = true) (a b : Int) : abinInt P .leq k a k b = some (.bool (decide (a ≤ b))) := by simp only [abinInt, h, cond_true]
theorem int_gtr {k : IntKind} (h : keq k k = true) (a b : Int) : abinInt P .gtr k a k b = some (.bool (decide (a > b))) := by simp only [abinInt, h, cond_true]
theorem int_geq {k : IntKind} (h : keq k k = true) (a b : Int) : abinInt P .geq k a k b = some (.bool (decide (a ≥ b))) := by simp only [abinInt, h, cond_true]
theorem int_rem {k : IntKind} (h : keq k k = true) (a b : Int) (hb : b ≠ 0) : abinInt P .rem k a k b = some (.int k (a.tmod b)) := by simp only [abinInt, h, cond_true, Op.intDiv, hb, if_false]; rfl
theorem int_quo {k : IntKind} (h : keq k k = true) (a b : Int) (hb : b ≠ 0) : abinInt P .quo k a k b = some (.int k (k.wrap (a.tdiv b))) := by simp only [abinInt, h, cond_true, Op.intDiv, hb, if_false]; rfl
end
theorem keq_i64 : keq .i64 .i64 = true := rfl
theorem keq_u64 : keq .u64 .u64 = true := rfl
theorem keq_u8 : keq .u8 .u8 = true := rfl
theorem keq_u32 : keq .u32 .u32 = true := rfl
theorem wrap_i64 {n : Int} (h1 : -(2 ^ 63) ≤ n) (h2 : n < 2 ^ 63) : IntKind.i64.wrap n = n := by
  have e : IntKind.i64.wrap n = if (true && decide (n % 2 ^ 64 ≥ 2 ^ 63)) = true then n % 2 ^ 64 - 2 ^ 64 else n % 2 ^ 64 := rfl
  rw [e]
  simp only [Bool.true_and, decide_eq_true_eq]
  split <;> omega
theorem wfin_flat {si s : St} {K : Value → St → Prop} {v : Value} (h : si.n ≤ s.lo) (hf : flat' v = true) : wfin si K v s = K v si := by
  simp only [wfin, afinish, Nat.ble_eq_true_of_le h, hf, Bool.true_and, cond_true]
theorem wfin_deep {si s : St} {K : Value → St → Prop} {v : Value} (hf : flat' v = false) : wfin si K v s = K v { s with lo := min si.lo s.lo } := by
  simp only [wfin, afinish, hf, Bool.and_false, cond_false]
end Go.VE
/- Weakest preconditions of the evaluator: types, slices. -/
namespace Go.VE
open Go
def tyOk (P : Program) (e : TypeId) (size bytes : Nat) (z : Value) : Bool :=
  match P.info? e with
  | some i => Nat.beq i.size size && (Nat.beq i.bytes bytes && (match i.zero with
    | some z' => veq z' z && (flat z && Nat.beq z.cells.size size)
    | none => false))
  | none => false
theorem tyOk_spec {P : Program} {e : TypeId} {size bytes : Nat} {z : Value} (h : tyOk P e size bytes z = true) : ∃ i, P.info? e = some i ∧ i.size = size ∧ i.bytes = bytes ∧ i.zero = some z ∧ flat z = true ∧ z.cells.size = size := by
  unfold tyOk at h
  split at h
  · rename_i i hi
    simp only [Bool.and_eq_true] at h
    obtain ⟨h1, h2, h3⟩ := h
    split at h3
    · rename_i z' hz
      simp only [Bool.and_eq_true] at h3
      obtain ⟨h4, h5, h6⟩ := h3
      refine ⟨i, hi, Nat.eq_of_beq_eq_true h1, Nat.eq_of_beq_eq_true h2, ?_, h5, Nat.eq_of_beq_eq_true h6⟩
      rw [hz, veq_eq _ _ h4]
    · cases h3
  · cases h
theorem tyOk_isz {P : Program} {e : TypeId} {size bytes : Nat} {z : Value} (h : tyOk P e size bytes z = true) : isz P e = some size := by
  obtain ⟨i, hi, h1, _⟩ := tyOk_spec h
  simp only [isz, hi, Option.map_some, h1]
def Sl (s : St) (v : Value) (sz n : Nat) (cs : List Value) : Prop :=
  ∃ a c, v = .slice a n c ∧ cs.length = n * sz ∧ (n ≤ c ∧ (a = none → c = 0) ∧ ∀ x, a = some x → x.spot = none ∨ (x.spot = some 0 ∧ 0 < c)) ∧ (n * sz ≠ 0 → ∃ A o m cells t op, a = some ⟨A, o, m⟩ ∧ mkOk m = true ∧ s.at A = some (.cells cells t op) ∧ (cells.drop o).take (n * sz) = cs)
theorem Sl.nil (s : St) (sz : Nat) : Sl s (.slice none 0 0) sz 0 [] := ⟨none, 0, rfl, by simp, ⟨Nat.le_refl _, fun _ => rfl, fun x h => by cases h⟩, fun h => absurd (Nat.zero_mul sz) h⟩
theorem Sl.grew {s s' : St} {v : Value} {sz n : Nat} {cs : List Value} (h : Sl s v sz n cs) (hg : ∀ A, A < s.n → s'.at A = s.at A) : Sl s' v sz n cs := by
  obtain ⟨a, c, hv, hl, hx, h⟩ := h
  refine ⟨a, c, hv, hl, hx, fun hn => ?_⟩
  obtain ⟨A, o, m, cells, t, op, ha, hm, hA, hc⟩ := h hn
  exact ⟨A, o, m, cells, t, op, ha, hm, by rw [hg A (St.at_lt hA)]; exact hA, hc⟩
theorem Sl.ent {s : St} {v : Value} {sz n : Nat} {cs : List Value} (h : Sl s v sz n cs) : Sl (Go.VE.ent s) v sz n cs := h.grew fun _ _ => rfl
theorem Sl.len {s : St} {v : Value} {sz n : Nat} {cs : List Value} (h : Sl s v sz n cs) : cs.length = n * sz := by
  obtain ⟨a, c, hv, hl, _, h⟩ := h
  exact hl
theorem drop_take_get {α : Type} {l cs : List α} {o k : Nat} (h : (l.drop o).take k = cs) (i : Nat) (hi : i < cs.length) : l[o + i]? = cs[i]? := by
  subst h
  simp only [List.length_take, List.length_drop] at hi
  rw [List.getElem?_take]
  rw [if_pos (by omega), List.getElem?_drop]
theorem drop_take_cut {l cs : List Value} {o k : Nat} (h : (l.drop o).take k = cs) (i n : Nat) (hn : 0 < n) (hi : i + n ≤ cs.length) : cut l (o + i) n = cut cs i n := by
  have hl : cs.length ≤ l.length - o := by rw [← h]; simp; omega
  unfold cut
  have h1 : Nat.ble (o + i + n) l.length = true := Nat.ble_eq_true_of_le (by omega)
  have h2 : Nat.ble (i + n) cs.length = true := Nat.ble_eq_true_of_le hi
  rw [h1, h2]
  simp only [cond_true, Option.some.injEq]
  subst h
  simp only [List.length_take, List.length_drop] at hi
  rw [List.drop_take, List.take_take, List.drop_drop, show min n (k - i) = n by omega]
theorem Sl.ix {s : St} {v : Value} {sz n : Nat} {cs : List Value} (h : Sl s v sz n cs) (hsz : 0 < sz) {i : Int} (h0 : 0 ≤ i) (hi : i < n) : ∃ A o,
    (∀ {P : Program} {t e : TypeId}, sliceElem P t = some e → isz P e = some sz → aindexAddr P t v (.int .i64 i) = some (.pointer (some ⟨A, o, none⟩))) ∧
    (∀ k, k < sz → ((acells (s.at A)).bind fun c => c[o + k]?) = cs[i.toNat * sz + k]?) ∧
    (∀ k m, 0 < m → k + m ≤ sz → ((acells (s.at A)).bind fun c => cut c (o + k) m) = cut cs (i.toNat * sz + k) m) := by
  obtain ⟨a, c, rfl, hl, _, h⟩ := h
  have hlt : i.toNat < n := by omega
  have hle : (i.toNat + 1) * sz ≤ n * sz := Nat.mul_le_mul_right sz hlt
  rw [Nat.succ_mul] at hle
  obtain ⟨A, o, m, cells, t, op, rfl, hm, hA, hc⟩ := h (by
    have : 0 < n * sz := Nat.mul_pos (by omega) hsz
    omega)
  refine ⟨A, o + i.toNat * sz, fun {P t e} he hs => ?_, fun k hk => ?_, fun k m hm hk => ?_⟩
  · unfold sliceElem at he
    split at he
    · rename_i e' hu
      cases he
      simp only [aindexAddr, hu, hs, Option.bind_some, aplace, h0, hi, and_self, if_true]
    · cases he
  · rw [hA]
    simp only [acells, Option.bind_some]
    rw [Nat.add_assoc]
    exact drop_take_get hc _ (by omega)
  · rw [hA]
    simp only [acells, Option.bind_some]
    rw [Nat.add_assoc]
    exact drop_take_cut hc _ _ hm (by omega)
theorem load1 {P : Program} {s : St} {t : TypeId} {A o : Nat} (h : ∀ c o, apart P t c o = c[o]?) : aload P s t (.pointer (some ⟨A, o, none⟩)) = (acells (s.at A)).bind fun c => c[o]? := by
  simp only [aload, h]
theorem loadN {P : Program} {s : St} {t : TypeId} {A o n : Nat} (h : ∀ c o, apart P t c o = (cut c o n).map fun l => .agg l.toArray) : aload P s t (.pointer (some ⟨A, o, none⟩)) = ((acells (s.at A)).bind fun c => cut c o n).map fun l => .agg l.toArray := by
  simp only [aload, h]
  cases acells (s.at A) <;> rfl
structure Wf (s : St) : Prop where
  lo : s.lo ≤ s.n
  len : s.h.length = s.n
theorem Wf.grew {s s' : St} (h : Wf s) (hg : Grew s s') : Wf s' := ⟨by rw [hg.lo]; exact Nat.le_trans h.lo hg.n, hg.len h.len⟩
theorem Wf.ent {s : St} (h : Wf s) : Wf (ent s) := ⟨Nat.le_refl _, h.len⟩
theorem Wf.new {s : St} (h : Wf s) (o : AO) : Wf (s.new o) := h.grew (.new s o)
theorem Grew.put {s s' : St} (h : Grew s s') (hw : Wf s) {A : Nat} (hA : s.n ≤ A) (hlt : A < s'.n) (o : AO) : Grew s (s'.put A o) := by
  have hl := h.len hw.len
  refine ⟨h.n, ?_, fun B hB => ?_, fun _ => ?_⟩
  · rw [lo_put, h.lo]
    have := hw.lo
    omega
  · rw [at_put' _ _ _ _ hlt hl, if_neg (by omega)]
    exact h.same B hB
  · exact hl
theorem Grew.newR {s s' : St} (h : Grew s s') (o : AO) : Grew s (s'.new o) := h.trans (.new s' o)
theorem Grew.entL {s s' : St} (hw : Wf s) (h : Grew (ent s) s') : Grew s { s' with lo := min s.lo s'.lo } := by
  have hlo : s'.lo = s.n := h.lo
  refine ⟨h.n, ?_, fun A hA => h.same A hA, fun hl => h.len hl⟩
  show min s.lo s'.lo = s.lo
  have := hw.lo
  omega
theorem wfin_new {si s : St} {K : Value → St → Prop} {v : Value} (hw : Wf si) (hg : Grew (ent si) s) (hf : flat' v = false) (h : ∀ s', Grew si s' → s'.n = s.n → (∀ A, s'.at A = s.at A) → K v s') : wfin si K v s := by
  rw [wfin_deep hf]
  exact h _ (hg.entL hw) rfl (fun _ => rfl)
theorem wop_alloc [Memo] {P : Program} {ro : Nat} {e : TypeId} {size bytes : Nat} {z : Value} (h : tyOk P e size bytes z = true) (ty : TypeId) (s : St) (K : Value → St → Prop) : wop P ro (.alloc e) ty s K = K (.pointer (some ⟨s.n, 0, none⟩)) (s.new (.cells z.cells.toList e false)) := by
  obtain ⟨i, hi, _, _, hz, hf, _⟩ := tyOk_spec h
  simp only [wop, nilOk, cond_true, aop, mkO, aalloc, hi, hz, hf]
  rfl
theorem cells_agg (l : List Value) : (Value.agg (.mk l)).cells.toList = l := rfl
theorem storeN {P : Program} {ro : Nat} {s : St} {t : TypeId} {A o n : Nat} {l c : List Value} {T : TypeId} {op : Bool} (hs : isz P t = some n) (hl : l.length = n) (hn : 0 < n) (hA : s.at A = some (.cells c T op)) (hro : ro ≤ A) (hfit : o + n ≤ c.length) (h1 : l.all (·.oneCell') = true) :
    astore P ro s t (.pointer (some ⟨A, o, none⟩)) (.agg (.mk l)) = some (s.put A (.cells (splice c o l) T op)) := by
  have hb : Nat.beq n (Value.agg (.mk l)).cells.size = true := by rw [← hl]; exact Nat.beq_refl _
  simp only [astore, hs, hb, cond_true, cells_agg]
  cases l with
  | nil => simp at hl; omega
  | cons v r =>
    simp only [awrite, hA, awriteIn, Nat.ble_eq_true_of_le hro, Bool.true_and, h1, Bool.and_true]
    rw [Nat.ble_eq_true_of_le (by rw [hl]; exact hfit)]
    rfl
theorem store1 {P : Program} {ro : Nat} {s : St} {t : TypeId} {A o : Nat} {v : Value} {c : List Value} {T : TypeId} {op : Bool} (hs : isz P t = some 1) (hA : s.at A = some (.cells c T op)) (hro : ro ≤ A) (hfit : o < c.length) (h1 : v.oneCell' = true) :
    astore P ro s t (.pointer (some ⟨A, o, none⟩)) v = some (s.put A (.cells (splice c o [v]) T op)) := by
  have hc : v.cells = #[v] := by cases v <;> first | rfl | cases h1
  simp only [astore, hs, hc]
  show (bif Nat.beq 1 1 then awrite ro s A o [v] else none) = _
  simp only [Nat.beq_refl, cond_true, awrite, hA, awriteIn, Nat.ble_eq_true_of_le hro, Bool.true_and, List.all_cons, h1, List.all_nil, Bool.and_true]
  rw [Nat.ble_eq_true_of_le (by simp; omega)]
  rfl
theorem acells_some {s : St} {A : Nat} {c : List Value} {t : TypeId} {op : Bool} (h : s.at A = some (.cells c t op)) : acells (s.at A) = some c := by rw [h]; rfl
theorem cut_eq {c : List Value} {o n : Nat} (h : o + n ≤ c.length) : cut c o n = some ((c.drop o).take n) := by
  unfold cut
  rw [Nat.ble_eq_true_of_le h]
  rfl
end Go.VE
/- Weakest preconditions of the evaluator: more on blocks. -/
namespace Go.VE
open Go
theorem splice_all {c l : List Value} (h : c.length = l.length) : splice c 0 l = l := by
  simp only [splice, List.take_zero, List.nil_append, Nat.zero_add]
  rw [List.drop_of_length_le (by omega), List.append_nil]
theorem cut_all {l : List Value} {n : Nat} (h : l.length = n) : cut l 0 n = some l := by
  rw [cut_eq (by omega), List.drop_zero, List.take_of_length_le (by omega)]
theorem store_all {P : Program} {ro : Nat} {s : St} {t : TypeId} {A n : Nat} {l c : List Value} {T : TypeId} {op : Bool} (hs : isz P t = some n) (hl : l.length = n) (hn : 0 < n) (hA : s.at A = some (.cells c T op)) (hro : ro ≤ A) (hc : c.length = n) (h1 : l.all (·.oneCell') = true) :
    astore P ro s t (.pointer (some ⟨A, 0, none⟩)) (.agg (.mk l)) = some (s.put A (.cells l T op)) := by
  rw [storeN hs hl hn hA hro (by omega) h1, splice_all (by omega)]
theorem load_all {P : Program} {s : St} {t : TypeId} {A n : Nat} {l : List Value} {T : TypeId} {op : Bool} (ha : ∀ c o, apart P t c o = (cut c o n).map fun l => .agg l.toArray) (hA : s.at A = some (.cells l T op)) (hl : l.length = n) :
    aload P s t (.pointer (some ⟨A, 0, none⟩)) = some (.agg (.mk l)) := by
  rw [loadN ha, acells_some hA]
  simp only [Option.bind_some, cut_all hl, Option.map_some]
theorem load_one {P : Program} {s : St} {t : TypeId} {A o : Nat} {c : List Value} {T : TypeId} {op : Bool} {v : Value} (ha : ∀ c o, apart P t c o = c[o]?) (hA : s.at A = some (.cells c T op)) (hv : c[o]? = some v) :
    aload P s t (.pointer (some ⟨A, o, none⟩)) = some v := by
  rw [load1 ha, acells_some hA]
  exact hv
theorem at_newest (s : St) (o : AO) : (s.new o).at s.n = some o := by rw [at_new, if_pos rfl]
theorem at_putS {s : St} {A : Nat} {o : AO} (hl : s.h.length = s.n) (hA : A < s.n) : (s.put A o).at A = some o := by rw [at_put' _ _ _ _ hA hl, if_pos rfl]
theorem at_putO {s : St} {A B : Nat} {o : AO} {x : Option AO} (hl : s.h.length = s.n) (hA : A < s.n) (h : s.at B = x) (hne : B ≠ A) : (s.put A o).at B = x := by rw [at_put' _ _ _ _ hA hl, if_neg hne]; exact h
theorem Wf.put {s : St} (h : Wf s) (A : Nat) (o : AO) : Wf (s.put A o) := ⟨by rw [lo_put, n_put]; have := h.lo; omega, h.len⟩
structure Made (s : St) (A : Nat) (o : AO) (s' : St) : Prop where
  eq : A = s.n
  n : s'.n = s.n + 1
  here : s'.at A = some o
  grew : Grew s s'
  wf : Wf s'
  new : s' = s.new o
theorem Made.mk' {s : St} (hw : Wf s) (o : AO) : Made s s.n o (s.new o) := ⟨rfl, rfl, at_newest _ _, .new _ _, hw.new o, rfl⟩
theorem Made.fresh {s s' : St} {A : Nat} {c : List Value} {e : TypeId} (h : Made s A (.cells c e false) s') (hc : veqL c c = true) : FreshOk s s' := ⟨c, e, h.new, hc⟩
theorem alloc_rule [Memo] {P : Program} {ro : Nat} {e : TypeId} {size bytes : Nat} {z : Value} (h : tyOk P e size bytes z = true) {ty : TypeId} {s : St} {K : Value → St → Prop} (hw : Wf s) (hk : ∀ A s', Made s A (.cells z.cells.toList e false) s' → K (.pointer (some ⟨A, 0, none⟩)) s') : wop P ro (.alloc e) ty s K := by
  rw [wop_alloc h]
  exact hk _ _ (.mk' hw _)
theorem box_rule [Memo] {P : Program} {ro : Nat} {e : TypeId} {v : Value} {ty : TypeId} {s : St} {K : Value → St → Prop} (hw : Wf s) (hk : ∀ A s', Made s A (.cells v.cells.toList e false) s' → K (.pointer (some ⟨A, 0, none⟩)) s') : wop P ro (.box e (.const v)) ty s K := by
  rw [wop_box]
  exact hk _ _ (.mk' hw _)
structure Put (s : St) (A : Nat) (o : AO) (s' : St) : Prop where
  n : s'.n = s.n
  here : s'.at A = some o
  rest : ∀ B, B ≠ A → s'.at B = s.at B
  grew : ∀ s0, Wf s0 → Grew s0 s → s0.n ≤ A → Grew s0 s'
  wf : Wf s'
  lo : s'.lo = min s.lo A
theorem Put.mk' {s : St} (hw : Wf s) {A : Nat} (hA : A < s.n) (o : AO) : Put s A o (s.put A o) :=
  ⟨rfl, at_putS hw.len hA, fun B hB => at_putO hw.len hA rfl hB, fun s0 h0 hg hle => hg.put h0 hle hA o, hw.put A o, rfl⟩
theorem store_rule [Memo] {P : Program} {ro : Nat} {s : St} {t : TypeId} {A o n : Nat} {l c : List Value} {T : TypeId} {op : Bool} (hs : isz P t = some n) (hA : s.at A = some (.cells c T op)) (hl : l.length = n) (hn : 0 < n) (hw : Wf s) (hro : ro ≤ A) (hfit : o + n ≤ c.length) (h1 : l.all (·.oneCell') = true) {ty : TypeId} {K : Value → St → Prop}
    (hk : ∀ s', Put s A (.cells (splice c o l) T op) s' → K undef s') : wop P ro (.store t (.const (.pointer (some ⟨A, o, none⟩))) (.const (.agg (.mk l)))) ty s K := by
  rw [wop_store, storeN hs hl hn hA hro hfit h1]
  exact hk _ (.mk' hw (St.at_lt hA) _)
theorem store1_rule [Memo] {P : Program} {ro : Nat} {s : St} {t : TypeId} {A o : Nat} {v : Value} {c : List Value} {T : TypeId} {op : Bool} (hs : isz P t = some 1) (hA : s.at A = some (.cells c T op)) (hw : Wf s) (hro : ro ≤ A) (hfit : o < c.length) (h1 : v.oneCell' = true) {ty : TypeId} {K : Value → St → Prop}
    (hk : ∀ s', Put s A (.cells (splice c o [v]) T op) s' → K undef s') : wop P ro (.store t (.const (.pointer (some ⟨A, o, none⟩))) (.const v)) ty s K := by
  rw [wop_store, store1 hs hA hro hfit h1]
  exact hk _ (.mk' hw (St.at_lt hA) _)
theorem storeAll_rule [Memo] {P : Program} {ro : Nat} {s : St} {t : TypeId} {A n : Nat} {l c : List Value} {T : TypeId} {op : Bool} (hs : isz P t = some n) (hA : s.at A = some (.cells c T op)) (hl : l.length = n) (hn : 0 < n) (hw : Wf s) (hro : ro ≤ A) (hc : c.length = n) (h1 : l.all (·.oneCell') = true) {ty : TypeId} {K : Value → St → Prop}
    (hk : ∀ s', Put s A (.cells l T op) s' → K undef s') : wop P ro (.store t (.const (.pointer (some ⟨A, 0, none⟩))) (.const (.agg (.mk l)))) ty s K := by
  rw [wop_store, store_all hs hl hn hA hro hc h1]
  exact hk _ (.mk' hw (St.at_lt hA) _)
theorem thenW_normal (K : WK) (Q : Ex → WK) : thenW K Q .normal = K := rfl
theorem thenW_ret (K : WK) (Q : Ex → WK) : thenW K Q .ret = Q .ret := rfl
theorem thenW_exit (K : WK) (Q : Ex → WK) (i : Nat) : thenW K Q (.exit i) = Q (.exit i) := rfl
theorem outs_ret (R : WK) (L : List (Nat × WK)) : outs R L .ret = R := rfl
theorem outs_exit (R : WK) (L : List (Nat × WK)) (i : Nat) : outs R L (.exit i) = kOf L i := rfl
theorem kOf_cons (i j : Nat) (k : WK) (r : List (Nat × WK)) : kOf ((i, k) :: r) j = if i = j then k else kOf r j := by
  simp only [kOf]
  by_cases h : i = j
  · subst h; rw [Nat.beq_refl, if_pos rfl]; rfl
  · rw [if_neg h]
    cases hb : Nat.beq i j with
    | false => rfl
    | true => exact absurd (Nat.eq_of_beq_eq_true hb) h
theorem wdefers_nil [Memo] (P : Program) (ro : Nat) (s : St) (K : St → Prop) : wdefers P ro [] s K = K s := rfl
def enumP : List Value → Nat → List (Nat × Value)
  | [], _ => []
  | v :: r, i => (i, v) :: enumP r (i + 1)
theorem fill_enum {sz : Nat} : ∀ (vs : List Value) (i : Nat) (cells : List Value), (∀ v ∈ vs, v.cells.size = sz) → (i + vs.length) * sz ≤ cells.length →
    afillBy (fun j => some (j * sz, sz)) cells (enumP vs i) = some (cells.take (i * sz) ++ (vs.flatMap (·.cells.toList) ++ cells.drop ((i + vs.length) * sz)))
  | [], i, cells, _, hl => by
    simp only [enumP, afillBy, List.flatMap_nil, List.nil_append, List.length_nil, Nat.add_zero, List.take_append_drop]
  | v :: r, i, cells, hv, hl => by
    have hsz : v.cells.size = sz := hv v (by simp)
    simp only [List.length_cons] at hl
    have h1 : (i + 1) * sz ≤ (i + (r.length + 1)) * sz := Nat.mul_le_mul_right sz (by omega)
    have e1 : (i + 1) * sz = i * sz + sz := Nat.succ_mul i sz
    have hb : (Nat.beq v.cells.size sz && Nat.ble (i * sz + sz) cells.length) = true := by
      rw [hsz, Nat.beq_refl, Bool.true_and]; exact Nat.ble_eq_true_of_le (by omega)
    have hlen : v.cells.toList.length = sz := by simpa using hsz
    simp only [enumP, afillBy, hb, cond_true]
    have hs : (splice cells (i * sz) v.cells.toList).length = cells.length := by
      simp only [splice, List.length_append, List.length_take, List.length_drop, hlen]; omega
    rw [fill_enum r (i + 1) _ (fun u hu => hv u (by simp [hu])) (by rw [hs, show i + 1 + r.length = i + (r.length + 1) by omega]; exact hl)]
    rw [show i + 1 + r.length = i + (r.length + 1) by omega]
    simp only [Option.some.injEq, splice, List.flatMap_cons, List.length_cons]
    rw [e1]
    have h2 : (i + (r.length + 1)) * sz = i * sz + sz + r.length * sz := by
      rw [Nat.add_mul, Nat.add_mul, Nat.one_mul]; omega
    have hA : (cells.take (i * sz) ++ v.cells.toList).length = i * sz + sz := by
      rw [List.length_append, List.length_take, hlen]; omega
    have t1 : (cells.take (i * sz) ++ (v.cells.toList ++ cells.drop (i * sz + v.cells.toList.length))).take (i * sz + sz) = cells.take (i * sz) ++ v.cells.toList := by
      rw [← List.append_assoc, ← hA, List.take_left]
    have t2 : (cells.take (i * sz) ++ (v.cells.toList ++ cells.drop (i * sz + v.cells.toList.length))).drop ((i + (r.length + 1)) * sz) = cells.drop ((i + (r.length + 1)) * sz) := by
      rw [← List.append_assoc, List.drop_append, hA, List.drop_of_length_le (by omega), List.nil_append, List.drop_drop, hlen]
      congr 1
      omega
    rw [t1, t2, List.append_assoc, List.append_assoc]
theorem zeroList_len (z : Array Value) (n : Nat) : (zeroList z n).length = n := by simp [zeroList]
theorem buildSlice_rule [Memo] {P : Program} {ro : Nat} {t e : TypeId} {sz bytes n : Nat} {z : Value} (hse : sliceElem P t = some e) (hty : tyOk P e sz bytes z = true) {s : St} {ps : List (Nat × Operand)} {ty : TypeId} {K : Value → St → Prop} (hw : Wf s) (vs : List Value) (hps : partVals .e ps = enumP vs 0) (hn : vs.length = n) (hlt : n * sz ≤ 2 ^ 24) (hv : ∀ v ∈ vs, v.cells.size = sz)
    (hk : ∀ A s', Made s A (.cells (vs.flatMap (·.cells.toList)) e false) s' → K (.slice (some ⟨A, 0, none⟩) n n) s') : wop P ro (.buildSlice t n ⟨ps⟩) ty s K := by
  obtain ⟨i, hi, h1, _, hz, hf, hzs⟩ := tyOk_spec hty
  subst hn
  have hfill := fill_enum (sz := sz) vs 0 (zeroList z.cells (vs.length * sz)) hv (by rw [zeroList_len, Nat.zero_add]; exact Nat.le_refl _)
  rw [wop_buildSlice, hps]
  have hc : flat z = true ∧ vs.length * i.size ≤ 2 ^ 24 ∧ z.cells.size = i.size := ⟨hf, by rw [h1]; exact hlt, by rw [h1]; exact hzs⟩
  simp only [abuildSlice, hse, hi, hz]
  rw [if_pos hc, h1, hfill]
  simp only [Option.map_some, wopt_some, Nat.zero_mul, List.take_zero, List.nil_append, Nat.zero_add]
  rw [List.drop_of_length_le (by rw [zeroList_len]; exact Nat.le_refl _), List.append_nil]
  exact hk _ _ (.mk' hw _)
theorem Made.sl {s s' : St} {A n sz : Nat} {cs : List Value} {e : TypeId} {op : Bool} (h : Made s A (.cells cs e op) s') (hl : cs.length = n * sz) : Sl s' (.slice (some ⟨A, 0, none⟩) n n) sz n cs :=
  ⟨_, _, rfl, hl, ⟨Nat.le_refl _, fun h => (by cases h), fun x hx => by cases hx; exact .inl rfl⟩, fun _ => ⟨A, 0, none, cs, e, op, rfl, rfl, h.here, by rw [List.drop_zero, List.take_of_length_le (by omega)]⟩⟩
theorem Sl.front {s : St} {v : Value} {sz n : Nat} {cs : List Value} (h : Sl s v sz n cs) {k : Nat} (hk : k ≤ n) : ∃ w, Sl s w sz k (cs.take (k * sz)) ∧
    (∀ {P : Program} {t e : TypeId}, sliceElem P t = some e → isz P e = some sz → (v = .slice none 0 0 ∧ w = v) ∨ ∃ a n c, v = .slice (some a) n c ∧ asliceOp P t v none (some (.int .i64 k)) none = some w) := by
  obtain ⟨a, c, rfl, hl, ⟨hc, hnone, hsp⟩, h⟩ := h
  have hkm : k * sz ≤ n * sz := Nat.mul_le_mul_right sz hk
  cases a with
  | none =>
    obtain rfl := hnone rfl
    have : n = 0 := by omega
    subst this
    have : k = 0 := by omega
    subst this
    exact ⟨_, ⟨none, 0, rfl, by simp, ⟨Nat.le_refl _, fun _ => rfl, fun x h => by cases h⟩, fun h => absurd (Nat.zero_mul sz) h⟩, fun _ _ => .inl ⟨rfl, rfl⟩⟩
  | some x =>
    obtain ⟨A, o, m⟩ := x
    have hm := hsp _ rfl
    simp only at hm
    have hlen : (cs.take (k * sz)).length = k * sz := by rw [List.length_take, hl]; omega
    have hund : ∀ {P : Program} {t e : TypeId}, sliceElem P t = some e → P.underlying t = some (.slice e) := fun {P t e} he => by
      unfold sliceElem at he
      split at he
      · rename_i e' hu; cases he; exact hu
      · cases he
    have hab : abound (some (.int .i64 k)) n c = some k := by
      simp only [abound]
      rw [if_pos ⟨by omega, by omega⟩]
      rfl
    have hblk : k * sz ≠ 0 → ∃ A' o' m' cells t op, some (⟨A, o, m⟩ : Addr) = some ⟨A', o', m'⟩ ∧ mkOk m' = true ∧ s.at A' = some (.cells cells t op) ∧ (cells.drop o').take (k * sz) = cs.take (k * sz) := fun hne => by
      obtain ⟨A', o', m', cells, t, op, ha, hm', hA, hcs⟩ := h (by omega)
      refine ⟨A', o', m', cells, t, op, ha, hm', hA, ?_⟩
      rw [← hcs, List.take_take, Nat.min_eq_left hkm]
    have hlo : ∀ y, abound none 0 y = some 0 := fun _ => rfl
    rcases hm with rfl | ⟨rfl, hpos⟩
    · refine ⟨.slice (some ⟨A, o, none⟩) k c, ⟨_, _, rfl, hlen, ⟨by omega, fun h => (by cases h), fun x hx => by cases hx; exact .inl rfl⟩, hblk⟩, fun {P t e} he hs => .inr ⟨_, _, _, rfl, ?_⟩⟩
      simp only [asliceOp, hund he, hs, sliceTwo, hab, hlo, Option.bind_some, Nat.zero_mul, Nat.add_zero, Nat.sub_zero]
      split <;> rfl
    · refine ⟨.slice (some ⟨A, o, some 0⟩) k c, ⟨_, _, rfl, hlen, ⟨by omega, fun h => (by cases h), fun x hx => by cases hx; exact .inr ⟨rfl, hpos⟩⟩, hblk⟩, fun {P t e} he hs => .inr ⟨_, _, _, rfl, ?_⟩⟩
      simp only [asliceOp, hund he, hs, sliceTwo, hab, hlo, Option.bind_some, Nat.zero_mul, Nat.add_zero, Nat.sub_zero]
      rw [if_pos hpos]
theorem Sl.wlen [Memo] {P : Program} {ro : Nat} {s s' : St} {v : Value} {sz n : Nat} {cs : List Value} (h : Sl s v sz n cs) {t e : TypeId} (hse : sliceElem P t = some e) (ty : TypeId) (K : Value → St → Prop) : wop P ro (.call ⟨.builtin .len, ⟨[.const v]⟩, #[t]⟩) ty s' K = K (.int .i64 n) s' := by
  obtain ⟨a, c, rfl, _, _, _⟩ := h
  exact wop_len hse a n c ty s' K
end Go.VE
/- Weakest preconditions of the evaluator: slices that grow. -/
namespace Go.VE
open Go
def Own (s : St) (v : Value) (e : TypeId) (sz n : Nat) (cs : List Value) : Option Nat → Prop
  | none => v = .slice none 0 0 ∧ n = 0 ∧ cs = []
  | some A => v = .slice (some ⟨A, 0, some 0⟩) n n ∧ s.at A = some (.cells cs e true) ∧ cs.length = n * sz ∧ 0 < n
theorem Own.sl {s : St} {v : Value} {e : TypeId} {sz n : Nat} {cs : List Value} {oA : Option Nat} (h : Own s v e sz n cs oA) : Sl s v sz n cs := by
  cases oA with
  | none => obtain ⟨rfl, rfl, rfl⟩ := h; exact .nil _ _
  | some A =>
    obtain ⟨rfl, h1, h2, h3⟩ := h
    exact ⟨_, _, rfl, h2, ⟨Nat.le_refl _, fun h => (by cases h), fun x hx => by cases hx; exact .inr ⟨rfl, h3⟩⟩, fun _ => ⟨A, 0, some 0, cs, e, true, rfl, rfl, h1, by rw [List.drop_zero, List.take_of_length_le (by omega)]⟩⟩
theorem Own.same {s s' : St} {v : Value} {e : TypeId} {sz n : Nat} {cs : List Value} {oA : Option Nat} (h : Own s v e sz n cs oA) (hs : ∀ A, oA = some A → s'.at A = s.at A) : Own s' v e sz n cs oA := by
  cases oA with
  | none => exact h
  | some A => obtain ⟨h0, h1, h2⟩ := h; exact ⟨h0, by rw [hs A rfl]; exact h1, h2⟩
theorem Own.grew {s s' : St} {v : Value} {e : TypeId} {sz n : Nat} {cs : List Value} {oA : Option Nat} (h : Own s v e sz n cs oA) (hg : Grew s s') : Own s' v e sz n cs oA :=
  h.same fun A e => by subst e; exact hg.same A (St.at_lt h.2.1)
theorem Own.lt {s : St} {v : Value} {e : TypeId} {sz n : Nat} {cs : List Value} {A : Nat} (h : Own s v e sz n cs (some A)) : A < s.n := St.at_lt h.2.1
structure App (s : St) (oA : Option Nat) (s' : St) : Prop where
  n : s'.n = s.n + 1
  rest : ∀ B, B < s.n → oA ≠ some B → s'.at B = s.at B
  grew : ∀ s0, Wf s0 → Grew s0 s → (∀ A, oA = some A → s0.n ≤ A) → Grew s0 s'
  wf : Wf s'
  lo : s'.lo ≤ s.lo
  lo2 : ∀ k, k ≤ s.lo → (∀ A, oA = some A → k ≤ A) → k ≤ s'.lo
theorem Sl.first {s : St} {v : Value} {sz n : Nat} {cs : List Value} (h : Sl s v sz n cs) : alen v = some n ∧ afirst s sz n v = some cs := by
  obtain ⟨a, c, rfl, hl, _, h⟩ := h
  refine ⟨rfl, ?_⟩
  cases hn : n * sz with
  | zero =>
    rw [hn] at hl
    have : cs = [] := by simpa using hl
    subst this
    cases a with
    | none => rfl
    | some x =>
      obtain ⟨A, o, m⟩ := x
      simp only [afirst, hn]
  | succ k =>
    obtain ⟨A, o, m, cells, t, op, rfl, hm, hA, hc⟩ := h (by omega)
    simp only [afirst, hn, hm, cond_true, hA, acells, Option.bind_some]
    rw [hn] at hc
    have : o + (k + 1) ≤ cells.length := by
      have := congrArg List.length hc
      simp only [List.length_take, List.length_drop] at this
      omega
    rw [cut_eq this, hc]
theorem Sl.flat {s s' : St} {v : Value} {sz n : Nat} {cs : List Value} (h : Sl s v sz n cs) (hf : flat' v = true) : Sl s' v sz n cs := by
  obtain ⟨a, c, rfl, hl, hx, hb⟩ := h
  have : a = none := by
    cases a with
    | none => rfl
    | some _ => cases hf
  subst this
  refine ⟨none, c, rfl, hl, hx, fun hn => ?_⟩
  obtain ⟨A', o', m', _, _, _, he, _⟩ := hb hn
  cases he
theorem append_rule [Memo] {P : Program} {ro : Nat} {t u e : TypeId} {sz bytes n m : Nat} {z : Value} {cs new : List Value} {oA : Option Nat} {s : St} {v x : Value} (hse : sliceElem P t = some e) (hni : notInt P u = true) (hty : tyOk P e sz bytes z = true) (hsz : 0 < sz) (hby : 0 < bytes) (hv : Own s v e sz n cs oA) (hx : Sl s x sz m new) (hm : 0 < m) (hw : Wf s)
    (hro : ∀ A, oA = some A → ro ≤ A) (hlim : (2 * (n + m) + 1000) * bytes ≤ 2 ^ 47) (h1 : new.all (·.oneCell') = true) {ty : TypeId} {K : Value → St → Prop}
    (hk : ∀ v' s', Own s' v' e sz (n + m) (cs ++ new) (some s.n) → App s oA s' → K v' s') : wop P ro (.call ⟨.builtin .append, ⟨[.const v, .const x]⟩, #[t, u]⟩) ty s K := by
  obtain ⟨i, hi, his, hib, hz, hf, hzs⟩ := tyOk_spec hty
  obtain ⟨ha, hfst⟩ := hx.first
  have hnl : new.length = m * sz := hx.len
  rw [wop_append]
  cases oA with
  | none =>
    obtain ⟨rfl, rfl, rfl⟩ := hv
    have e1 : aappend P ro s #[t, u] [.slice none 0 0, x] = some (.slice (some ⟨s.n, 0, some 0⟩) (0 + m) (0 + m), s.new (.cells ([] ++ new) e true)) := by
      simp only [aappend, hse, hni, hi, ha, his, hfst, Option.bind_some, aappendTo]
      rw [if_neg (by omega), if_neg (by rw [hib]; omega)]
      simp only [hz, afirst, hzs, hf, and_self, if_true, agrow]
    rw [e1]
    refine hk _ _ ⟨rfl, at_newest _ _, by simpa using hnl, by omega⟩ ⟨rfl, fun B hB _ => ?_, fun s0 _ hg _ => hg.newR _, hw.new _, Nat.le_refl _, fun k h _ => h⟩
    rw [at_new, if_neg (by omega)]
  | some A =>
    obtain ⟨rfl, hA, hl, hpos⟩ := hv
    have hro := hro A rfl
    have hlt := St.at_lt hA
    have hfo : afirst s sz n (.slice (some ⟨A, 0, some 0⟩) n n) = some cs := (Own.sl (oA := some A) ⟨rfl, hA, hl, hpos⟩).first.2
    have e1 : aappend P ro s #[t, u] [.slice (some ⟨A, 0, some 0⟩) n n, x] = some (.slice (some ⟨s.n, 0, some 0⟩) (n + m) (n + m), (s.put A .dead).new (.cells (cs ++ new) e true)) := by
      simp only [aappend, hse, hni, hi, ha, his, hfst, Option.bind_some, aappendTo]
      rw [if_neg (by omega), if_neg (by rw [hib]; omega)]
      simp only [hz, his, hfo, hzs, hf, and_self, if_true, agrow, hA]
      rw [if_pos ⟨hro, trivial, hl, hl, hnl, h1⟩]
    rw [e1]
    refine hk _ _ ⟨rfl, ?_, by rw [List.length_append, hl, hnl, Nat.add_mul], by omega⟩ ⟨rfl, fun B hB hne => ?_, fun s0 h0 hg hle => (hg.put h0 (hle A rfl) hlt _).newR _, (hw.put A _).new _, by show min s.lo A ≤ s.lo; omega, fun k h h2 => by show k ≤ min s.lo A; have := h2 A rfl; omega⟩
    · exact at_newest _ _
    · rw [at_new, if_neg (by rw [n_put]; omega)]
      exact at_putO hw.len hlt rfl (fun h => hne (by rw [h]))
end Go.VE
/- A law's arguments, as the evaluator's blocks. -/
namespace Go.VE
open Go Go.RowKit
def Held (s : St) (n : Nat) (bl : List AO) : Prop := ∀ (i : Nat) (o : AO), bl[i]? = some o → s.at (n + i) = some o
theorem Held.left {s : St} {n : Nat} {a b : List AO} (h : Held s n (a ++ b)) : Held s n a := fun i o hi => h i o (by rw [List.getElem?_append_left (List.getElem?_eq_some_iff.1 hi).1]; exact hi)
theorem Held.right {s : St} {n : Nat} {a b : List AO} (h : Held s n (a ++ b)) : Held s (n + a.length) b := fun i o hi => by
  have := h (a.length + i) o (by rw [List.getElem?_append_right (by omega)]; simpa using hi)
  rw [Nat.add_assoc]; exact this
def EOk (W : World) (cs : List Value) : Prop := ∀ v ∈ cs, ∀ (a : Addr) (n c : Nat), v = .slice (some a) n c → a.spot = none ∧ a.block < W.heap.size
section
theorem flatten_take {sz : Nat} : ∀ (l : List (List Value)) (n : Nat), (∀ x ∈ l, x.length = sz) → l.flatten.take (n * sz) = (l.take n).flatten
  | [], n, _ => by simp
  | x :: r, 0, _ => by simp
  | x :: r, n + 1, h => by
    have hx : x.length = sz := h x (by simp)
    rw [List.flatten_cons, Nat.succ_mul, Nat.add_comm, ← hx, List.take_length_add_append, hx, flatten_take r n fun y hy => h y (by simp [hy])]
    rfl
theorem flatten_len {sz : Nat} : ∀ (l : List (List Value)), (∀ x ∈ l, x.length = sz) → l.flatten.length = l.length * sz
  | [], _ => by simp
  | x :: r, h => by
    rw [List.flatten_cons, List.length_append, h x (by simp), flatten_len r fun y hy => h y (by simp [hy]), List.length_cons, Nat.succ_mul]; omega
theorem drop_flatten {sz : Nat} {l : List Value} : ∀ (k off : Nat), off + k * sz ≤ l.length → ((List.range k).map fun i => (l.drop (off + i * sz)).take sz).flatten = (l.drop off).take (k * sz)
  | 0, off, _ => by simp
  | k + 1, off, h => by
    rw [List.range_succ, List.map_append, List.flatten_append, drop_flatten k off (by rw [Nat.succ_mul] at h; omega)]
    simp only [List.map_cons, List.map_nil, List.flatten_cons, List.flatten_nil, List.append_nil]
    rw [Nat.succ_mul, List.take_add, List.drop_drop]
end
section
variable [Memo] {H : Type} {enc : TypeId × Value → H} {P : Program} {W : World} {held : Bool}
def Viewed (P : Program) (W : World) (cs : List Value) (Q : List Value → St → Prop) : Prop :=
  ∀ n, ∃ acs bl, Stands P W n cs acs bl ∧ acs.length = cs.length ∧ ∀ s, Held s n bl → Q acs s
theorem Viewed.mono {cs : List Value} {Q Q' : List Value → St → Prop} (h : Viewed P W cs Q) (k : ∀ a s, a.length = cs.length → Q a s → Q' a s) : Viewed P W cs Q' := fun n => by
  obtain ⟨acs, bl, h1, h2, h3⟩ := h n
  exact ⟨acs, bl, h1, h2, fun s hs => k _ _ h2 (h3 s hs)⟩
theorem Viewed.flat {cs : List Value} (h : flatL cs = true) : Viewed P W cs fun a _ => a = cs := fun n => ⟨cs, [], Stands.none fun _ => LR.of_flat h, rfl, fun _ _ => rfl⟩
theorem Viewed.append {cs cs2 : List Value} {Q Q2 : List Value → St → Prop} (h : Viewed P W cs Q) (k : Viewed P W cs2 Q2) : Viewed P W (cs ++ cs2) fun a s => ∃ x y, a = x ++ y ∧ Q x s ∧ Q2 y s := fun n => by
  obtain ⟨acs, bl, h1, h2, h3⟩ := h n
  obtain ⟨acs2, bl2, k1, k2, k3⟩ := k (n + bl.length)
  exact ⟨acs ++ acs2, bl ++ bl2, h1.append k1, by simp [h2, k2], fun s hs => ⟨acs, acs2, rfl, h3 s hs.left, k3 s hs.right⟩⟩
theorem Viewed.seq {Q : List Value → St → Prop} : ∀ {css : List (List Value)}, (∀ cs ∈ css, Viewed P W cs Q) → Viewed P W css.flatten fun a s => ∃ l : List (List Value), a = l.flatten ∧ l.length = css.length ∧ (∀ (i : Nat) (x c : List Value), l[i]? = some x → css[i]? = some c → x.length = c.length) ∧ ∀ x ∈ l, Q x s
  | [], _ => (Viewed.flat (P := P) (W := W) (cs := []) rfl).mono fun a s _ e => ⟨[], e, rfl, fun i x c hx _ => by simp at hx, fun x hx => by simp at hx⟩
  | cs :: r, h => by
    have h1 : Viewed P W cs fun a s => a.length = cs.length ∧ Q a s := (h cs (by simp)).mono fun a s e q => ⟨e, q⟩
    refine (h1.append (Viewed.seq fun c hc => h c (by simp [hc]))).mono ?_
    rintro a s _ ⟨x, y, rfl, ⟨hx, hq⟩, l, rfl, hl, hlen, hall⟩
    refine ⟨x :: l, rfl, by simp [hl], fun i x' c hx' hc => ?_, fun z hz => ?_⟩
    · cases i with
      | zero => simp at hx' hc; subst hx'; subst hc; exact hx
      | succ i => exact hlen i x' c (by simpa using hx') (by simpa using hc)
    · rcases List.mem_cons.1 hz with rfl | hz
      · exact hq
      · exact hall z hz
theorem view_slice {t e : TypeId} {cs : List Value} {x : DataW H × List MemPlace} {m : Nat} {Q : List Value → St → Prop} (hu : P.underlying t = some (.slice e)) (hpos : 0 < P.cellsOf e) (h : DataW.trod enc P W 0 (fun _ => true) held m t cs = some x) (hE : EOk W cs)
    (hel : ∀ m cs x, DataW.trod enc P W 0 (fun _ => true) held m e cs = some x → Viewed P W cs Q) :
    Viewed P W cs fun a s => ∃ (u : Value) (l : List (List Value)), a = [u] ∧ l.length ≤ maxLen ∧ Sl s u (P.cellsOf e) l.length l.flatten ∧ ∀ c ∈ l, c.length = P.cellsOf e ∧ Q c s := by
  rcases DataW.trod_slice hu h with ⟨rfl, rfl⟩ | ⟨a, len, cap, elems, rest, k, hk, rfl, rfl, _, hlc, hmx, hlen, hget, hrest, _⟩
  · refine (Viewed.flat (P := P) (W := W) (cs := [.slice none 0 0]) rfl).mono fun b s _ e => ⟨.slice none 0 0, [], e, Nat.zero_le _, Sl.nil _ _, fun c hc => by simp at hc⟩
  · obtain ⟨hrl, hrget⟩ := hrest rfl
    obtain ⟨hsp, hbk⟩ := hE (.slice (some a) len cap) (List.mem_singleton.2 rfl) a len cap rfl
    obtain ⟨ab, ao, asp⟩ := a
    simp only at hsp hbk
    subst hsp
    rcases Nat.eq_zero_or_pos cap with h0 | h0
    · subst h0
      have hl0 : len = 0 := by omega
      subst hl0
      intro n
      refine ⟨[.slice (some ⟨n, 0, none⟩) 0 0], [.dead], ⟨[(ab, 0, ao)], rfl, fun p hp => ?_, fun ρ hρ => ⟨LR.cons ?_ .nil, fun C i o p _ hb _ => ?_⟩⟩, rfl, fun s hs => ⟨_, [], rfl, Nat.zero_le _, ⟨some ⟨n, 0, none⟩, 0, rfl, by simp, ⟨Nat.le_refl _, fun h => (by cases h), fun x hx => by cases hx; exact .inl rfl⟩, fun hne => absurd (Nat.zero_mul _) hne⟩, fun c hc => by simp at hc⟩⟩
      · simp only [List.mem_singleton] at hp; subst hp; exact hbk
      · have h1 := hρ 0 _ rfl
        have := VR.sl 0 0 0 h1
        simp only [Nat.zero_add] at this
        exact this
      · cases i with
        | zero => simp only [List.getElem?_cons_zero, Option.some.injEq] at hb; subst hb; trivial
        | succ i => simp at hb
    · have hall : ∀ i, i < cap → ∃ cs' y, W.cells? 0 (⟨ab, ao + i * P.cellsOf e, none⟩ : Addr) (P.cellsOf e) = some cs' ∧ DataW.trod enc P W 0 (fun _ => true) held k e cs' = some y := fun i hi => by
        have : ∃ y, (W.cells? 0 ((⟨ab, ao, none⟩ : Addr).add (i * P.cellsOf e)) (P.cellsOf e)).bind (DataW.trod enc P W 0 (fun _ => true) held k e) = some y := by
          rcases Nat.lt_or_ge i len with h1 | h1
          · exact ⟨_, (hget i h1).trans (List.getElem?_eq_getElem (by omega))⟩
          · have := hrget (i - len) (by omega)
            rw [show len + (i - len) = i by omega] at this
            exact ⟨_, this.trans (List.getElem?_eq_getElem (by omega))⟩
        obtain ⟨y, hy⟩ := this
        obtain ⟨cs', h1, h2⟩ := Option.bind_eq_some_iff.1 hy
        rw [addr_add] at h1
        exact ⟨cs', y, h1, h2⟩
      obtain ⟨cs0, y0, hc0, _⟩ := hall 0 h0
      obtain ⟨c', t', fz, h1, _, _, _⟩ := cells_piece hc0 hpos
      simp only at h1
      have hpiece : ∀ i, i < cap → ao + i * P.cellsOf e + P.cellsOf e ≤ c'.size ∧ ∃ y, DataW.trod enc P W 0 (fun _ => true) held k e ((c'.toList.drop (ao + i * P.cellsOf e)).take (P.cellsOf e)) = some y := fun i hi => by
        obtain ⟨cs', y, k1, k2⟩ := hall i hi
        obtain ⟨c2, t2, f2, k3, _, k4, k5⟩ := cells_piece k1 hpos
        simp only at k3 k4 k5
        rw [h1] at k3; cases k3
        exact ⟨k4, y, by rw [k5]; exact k2⟩
      have hend : ao + cap * P.cellsOf e ≤ c'.size := by
        have := (hpiece (cap - 1) (by omega)).1
        have e2 : cap * P.cellsOf e = (cap - 1) * P.cellsOf e + P.cellsOf e := by rw [← Nat.succ_mul]; congr 1; omega
        omega
      let css : List (List Value) := (List.range cap).map fun i => (c'.toList.drop (ao + i * P.cellsOf e)).take (P.cellsOf e)
      have hcl : css.length = cap := by simp [css]
      have hfl : css.flatten = (c'.toList.drop ao).take (cap * P.cellsOf e) := drop_flatten cap ao (by simpa using hend)
      have hcs : ∀ i c, css[i]? = some c → c.length = P.cellsOf e ∧ Viewed P W c Q := fun i c hi => by
        have hlt : i < cap := by rw [← hcl]; exact (List.getElem?_eq_some_iff.1 hi).1
        simp only [css, List.getElem?_map, List.getElem?_range hlt, Option.map_some, Option.some.injEq] at hi
        subst hi
        obtain ⟨k1, y, k2⟩ := hpiece i hlt
        refine ⟨?_, hel _ _ _ k2⟩
        rw [List.length_take, List.length_drop, Array.length_toList]; omega
      have hseq := Viewed.seq (P := P) (W := W) (Q := Q) (css := css) fun c hc => by
        obtain ⟨i, hi⟩ := List.getElem?_of_mem hc
        exact (hcs i c hi).2
      intro n
      obtain ⟨acs, bl, s1, s2, s3⟩ := hseq (n + 1)
      have hlf : css.flatten.length = cap * P.cellsOf e := by
        rw [hfl, List.length_take, List.length_drop, Array.length_toList]; omega
      refine ⟨[.slice (some ⟨n, 0, none⟩) len cap], .cells acs e false :: bl, block_stands (v' := .slice (some ⟨ab, ao, none⟩) len cap) (a := ⟨ab, ao, none⟩) (cs := css.flatten) (e := e) (r := some (acs, bl)) h1 (by simp only; omega) (by rw [hlf, hfl]) (fun c b hr => by cases hr; exact s1) (fun ρ p hp hpe => ?_) rfl, rfl, fun s hs => ?_⟩
      · subst hpe
        have := VR.sl 0 len cap hp
        simp only [Nat.zero_add] at this
        exact this
      · have ht : Held s (n + 1) bl := by
          have : Held s (n + [AO.cells acs e false].length) bl := Held.right (a := [AO.cells acs e false]) hs
          exact this
        obtain ⟨l, rfl, hll, hlx, hlq⟩ := s3 s ht
        have hlsz : ∀ x ∈ l, x.length = P.cellsOf e := fun x hx => by
          obtain ⟨i, hi⟩ := List.getElem?_of_mem hx
          have hlt : i < css.length := by rw [← hll]; exact (List.getElem?_eq_some_iff.1 hi).1
          have := hlx i x _ hi (List.getElem?_eq_getElem hlt)
          rw [this]; exact (hcs i _ (List.getElem?_eq_getElem hlt)).1
        have hlt : (l.take len).length = len := by rw [List.length_take, hll, hcl]; omega
        refine ⟨_, l.take len, rfl, by omega, ?_, fun c hc => ⟨hlsz c (List.mem_of_mem_take hc), hlq c (List.mem_of_mem_take hc)⟩⟩
        rw [hlt]
        refine ⟨some ⟨n, 0, none⟩, cap, rfl, ?_, ⟨hlc, fun h => (by cases h), fun x hx => by cases hx; exact .inl rfl⟩, fun _ => ⟨n, 0, none, _, e, false, rfl, rfl, hs 0 _ rfl, ?_⟩⟩
        · have := flatten_len (sz := P.cellsOf e) (l.take len) fun x hx => hlsz x (List.mem_of_mem_take hx)
          rw [this, hlt]
        · rw [List.drop_zero]; exact flatten_take l len hlsz
theorem view_int {t : TypeId} {k : IntKind} {cs : List Value} {x : DataW H × List MemPlace} {m : Nat} (hu : P.underlying t = some (.int k)) (h : DataW.trod enc P W 0 (fun _ => true) held m t cs = some x) :
    Viewed P W cs fun a _ => ∃ i, a = [.int k i] ∧ (Lit.int k i).wf = true := by
  obtain ⟨i, rfl, _, hw⟩ := DataW.trod_int hu h
  exact (Viewed.flat (P := P) (W := W) (cs := [.int k i]) rfl).mono fun a s _ e => ⟨i, e, hw⟩
theorem view_string {t : TypeId} {cs : List Value} {x : DataW H × List MemPlace} {m : Nat} (hu : P.underlying t = some .string) (h : DataW.trod enc P W 0 (fun _ => true) held m t cs = some x) :
    Viewed P W cs fun a _ => ∃ b, a = [.string b] ∧ b.size ≤ maxLen := by
  obtain ⟨b, rfl, _, hw⟩ := DataW.trod_string hu h
  exact (Viewed.flat (P := P) (W := W) (cs := [.string b]) rfl).mono fun a s _ e => ⟨b, e, hw⟩
theorem view_bool {t : TypeId} {cs : List Value} {x : DataW H × List MemPlace} {m : Nat} (hu : P.underlying t = some .bool) (h : DataW.trod enc P W 0 (fun _ => true) held m t cs = some x) :
    Viewed P W cs fun a _ => ∃ b, a = [.bool b] := by
  obtain ⟨b, rfl, _⟩ := DataW.trod_bool hu h
  exact (Viewed.flat (P := P) (W := W) (cs := [.bool b]) rfl).mono fun a s _ e => ⟨b, e⟩
end
end Go.VE
/- A law with arguments: its row, out of what holds of the evaluator's run at every start. -/
namespace Go.VE
open Go Go.RowKit Go.ChangeShapes
def Parts (Q : TypeId → List Value → St → Prop) : List TypeId → List Value → St → Prop
  | [], a, _ => a = []
  | t :: r, a, s => ∃ x y, a = x ++ y ∧ Q t x s ∧ Parts Q r y s
def Mean (P : Program) : Nat → TypeId → List Value → St → Prop
  | 0, _, _, _ => False
  | f + 1, t, a, s =>
    match P.underlying t with
    | some .bool => ∃ b, a = [.bool b]
    | some (.int k) => ∃ i, a = [.int k i] ∧ (Lit.int k i).wf = true
    | some (.slice e) => ∃ (u : Value) (l : List (List Value)), a = [u] ∧ l.length ≤ maxLen ∧ Sl s u (P.cellsOf e) l.length l.flatten ∧ ∀ c ∈ l, c.length = P.cellsOf e ∧ Mean P f e c s
    | some (.struct fs) => Parts (Mean P f) (fs.toList.map (·.type)) a s
    | some .string => ∃ b, a = [.string b] ∧ b.size ≤ maxLen
    | some (.array n e) => ∃ l : List (List Value), a = l.flatten ∧ l.length = n ∧ ∀ c ∈ l, c.length = P.cellsOf e ∧ Mean P f e c s
    | _ => False
def plain (P : Program) : Nat → Bool → TypeId → Bool
  | 0, _, _ => false
  | f + 1, top, t =>
    match P.underlying t with
    | some .bool => true
    | some (.int _) => true
    | some (.slice e) => top && (!(Nat.beq (P.cellsOf e) 0) && plain P f false e)
    | some (.struct fs) => tiles P fs.toList 0 (P.cellsOf t) && fs.toList.all fun g => plain P f top g.type
    | some (.array n e) => Nat.beq (n * P.cellsOf e) (P.cellsOf t) && plain P f top e
    | some .string => true
    | _ => false
section
variable {P : Program} {W : World}
theorem EOk.sub {cs cs' : List Value} (h : EOk W cs) (hs : ∀ v ∈ cs', v ∈ cs) : EOk W cs' := fun v hv a n c e => h v (hs v hv) a n c e
theorem has_eok {r : Reach} {base : Nat} {a : Addr} {e : TypeId} {n : Nat} (h : World.has P W r base a e n) : a.spot = none ∧ a.block < W.heap.size := by
  obtain ⟨_, h2, row, cells, h3, _⟩ := h
  refine ⟨h2, ?_⟩
  rcases Nat.lt_or_ge a.block W.heap.size with h | h
  · exact h
  · unfold World.shape? at h3
    rw [Array.getElem?_eq_none h] at h3
    cases h3
theorem cell_eok {r : Reach} {base : Nat} {t : TypeId} {v : Value} (h : Cell.okWide P W r base t v) (a : Addr) (n c : Nat) (e : v = .slice (some a) n c) : a.spot = none ∧ a.block < W.heap.size := by
  subst e
  unfold Cell.okWide at h
  split at h <;> first | (rename_i hh; cases hh; done) | skip
  all_goals try (rename_i h1 h2; cases h2; done)
  all_goals try (rename_i h1; cases h1; done)
  unfold Cell.ok at h
  split at h
  all_goals try (rename_i h2; cases h2; done)
  all_goals try (rename_i h1 h2; cases h2; done)
  all_goals first | (injections; subst_vars; exact has_eok h.2.2) | exact h.elim
theorem okWide_eok {r : Reach} {base : Nat} {t : TypeId} {v : Value} (h : Value.okWide P W r base t v) : EOk W v.cells.toList := by
  have one : Cell.okWide P W r base t v → v.cells = #[v] → EOk W v.cells.toList := fun h1 h2 => by
    rw [h2]
    intro u hu a n c e
    have : u = v := by simpa using hu
    subst this
    exact cell_eok h1 a n c e
  have agg : (∃ cs, v = .agg cs ∧ cs.size = P.cellsOf t ∧ Row.okWide P W r base t cs) → EOk W v.cells.toList := by
    rintro ⟨cs, rfl, _, ts, _, _, h1⟩
    intro u hu a n c e
    have hu : u ∈ cs.toList := hu
    obtain ⟨i, hi⟩ := List.getElem?_of_mem hu
    obtain ⟨t', _, h2⟩ := h1 i u (by rw [← Array.getElem?_toList]; exact hi)
    exact cell_eok h2 a n c e
  unfold Value.okWide at h
  split at h
  · exact agg h
  · exact agg h
  · by_cases hv : ∃ cs, v = .agg cs
    · obtain ⟨cs, rfl⟩ := hv
      unfold Cell.okWide at h
      split at h
      all_goals first | (rename_i hh; cases hh; done) | (rename_i h1 h2; cases h2; done) | skip
      unfold Cell.ok at h
      split at h
      all_goals first | exact h.elim | (rename_i h1 h2; cases h2; done) | (rename_i hh; cases hh; done) | skip
    · refine one h ?_
      cases v <;> first | rfl | exact absurd ⟨_, rfl⟩ hv
end
section
variable [Memo] {H : Type} {enc : TypeId × Value → H} {P : Program} {W : World} {held : Bool}
theorem view_parts {Q : TypeId → List Value → St → Prop} {cs : List Value} : ∀ (fs : List Field) (o : Nat), tiles P fs o cs.length = true →
    (∀ g ∈ fs, Viewed P W ((cs.drop g.offset).take (P.cellsOf g.type)) (Q g.type)) → Viewed P W (cs.drop o) (Parts Q (fs.map (·.type)))
  | [], o, h, _ => by
    have := Nat.eq_of_beq_eq_true h
    subst this
    rw [List.drop_length]
    exact (Viewed.flat (P := P) (W := W) (cs := []) rfl).mono fun a s _ e => e
  | g :: r, o, h, hv => by
    simp only [tiles, Bool.and_eq_true] at h
    have ho := Nat.eq_of_beq_eq_true h.1
    have h1 := hv g (by simp)
    rw [ho] at h1
    have h2 := view_parts r (o + P.cellsOf g.type) h.2 fun g' hg' => hv g' (by simp [hg'])
    have h3 := h1.append h2
    rw [← List.drop_drop, List.take_append_drop] at h3
    exact h3.mono fun a s _ e => e
theorem view : ∀ (f : Nat) (top : Bool) (t : TypeId) (m : Nat) (cs : List Value) (x : DataW H × List MemPlace), plain P f top t = true → DataW.trod enc P W 0 (fun _ => true) held m t cs = some x → (top = true → EOk W cs) → Viewed P W cs (Mean P f t)
  | 0, _, _, _, _, _, h, _, _ => by cases h
  | f + 1, top, t, m, cs, x, h, ht, hE => by
    unfold plain at h
    split at h
    case h_1 hu => exact (view_bool hu ht).mono fun a s _ q => by unfold Mean; rw [hu]; exact q
    case h_2 k hu => exact (view_int hu ht).mono fun a s _ q => by unfold Mean; rw [hu]; exact q
    case h_3 e hu =>
      simp only [Bool.and_eq_true, Bool.not_eq_true'] at h
      have hpos : 0 < P.cellsOf e := by
        rcases Nat.eq_zero_or_pos (P.cellsOf e) with h0 | h0
        · have := h.2.1; rw [h0] at this; cases this
        · exact h0
      refine (view_slice hu hpos ht (hE h.1) fun m cs x hx => view f false e m cs x h.2.2 hx fun h => by cases h).mono fun a s _ q => ?_
      unfold Mean; rw [hu]; exact q
    case h_4 fs hu =>
      simp only [Bool.and_eq_true, List.all_eq_true] at h
      obtain ⟨xs, k, rfl, rfl, hcl, hxl, hget⟩ := DataW.trod_struct hu ht
      have := view_parts (P := P) (W := W) (Q := Mean P f) (cs := cs) fs.toList 0 (by rw [hcl]; exact h.1) fun g hg => by
        obtain ⟨i, hi⟩ := List.getElem?_of_mem hg
        have hi' : fs[i]? = some g := by rw [← Array.getElem?_toList]; exact hi
        have h1 := hget i g hi'
        have hlt : i < fs.size := (Array.getElem?_eq_some_iff.1 hi').1
        rw [List.getElem?_eq_getElem (by omega)] at h1
        exact view f top g.type k _ _ (h.2 g hg) h1 fun ht => (hE ht).sub fun v hv => List.mem_of_mem_drop (List.mem_of_mem_take hv)
      rw [List.drop_zero] at this
      exact this.mono fun a s _ q => by unfold Mean; rw [hu]; exact q
    case h_5 n e hu =>
      simp only [Bool.and_eq_true] at h
      have hsz := Nat.eq_of_beq_eq_true h.1
      obtain ⟨xs, k, rfl, rfl, hcl, hxl, hget⟩ := DataW.trod_array hu ht
      let css : List (List Value) := (List.range n).map fun i => (cs.drop (0 + i * P.cellsOf e)).take (P.cellsOf e)
      have hcssl : css.length = n := by simp [css]
      have hfl : css.flatten = cs := by
        have := drop_flatten (sz := P.cellsOf e) (l := cs) n 0 (by omega)
        rw [List.drop_zero, List.take_of_length_le (by omega)] at this
        exact this
      have hcget : ∀ i c, css[i]? = some c → i < n ∧ c = (cs.drop (i * P.cellsOf e)).take (P.cellsOf e) := fun i c hi => by
        have hlt : i < n := by rw [← hcssl]; exact (List.getElem?_eq_some_iff.1 hi).1
        simp only [css, List.getElem?_map, List.getElem?_range hlt, Option.map_some, Option.some.injEq, Nat.zero_add] at hi
        exact ⟨hlt, hi.symm⟩
      have hseq := Viewed.seq (P := P) (W := W) (Q := Mean P f e) (css := css) fun c hc => by
        obtain ⟨i, hi⟩ := List.getElem?_of_mem hc
        obtain ⟨hlt, rfl⟩ := hcget i c hi
        have h1 := hget i hlt
        rw [List.getElem?_eq_getElem (by omega)] at h1
        exact view f top e k _ _ h.2 h1 fun ht => (hE ht).sub fun v hv => List.mem_of_mem_drop (List.mem_of_mem_take hv)
      rw [hfl] at hseq
      refine hseq.mono fun a s _ q => ?_
      obtain ⟨l, rfl, hl, hlen, hq⟩ := q
      unfold Mean; rw [hu]
      refine ⟨l, rfl, by omega, fun c hc => ⟨?_, hq c hc⟩⟩
      obtain ⟨i, hi⟩ := List.getElem?_of_mem hc
      have hlt : i < css.length := by rw [← hl]; exact (List.getElem?_eq_some_iff.1 hi).1
      have h3 := hlen i c _ hi (List.getElem?_eq_getElem hlt)
      obtain ⟨hlt', h4⟩ := hcget i _ (List.getElem?_eq_getElem hlt)
      have h5 : (i + 1) * P.cellsOf e ≤ n * P.cellsOf e := Nat.mul_le_mul_right _ hlt'
      rw [Nat.succ_mul] at h5
      rw [h3, h4, List.length_take, List.length_drop]; omega
    case h_6 hu => exact (view_string hu ht).mono fun a s _ q => by unfold Mean; rw [hu]; exact q
    case h_7 => cases h
def AVal (P : Program) (t : TypeId) (a : List Value) (v : Value) : Prop :=
  match P.underlying t with
  | some (.struct _) => v = .agg ⟨a⟩
  | some (.array _ _) => v = .agg ⟨a⟩
  | _ => a = [v]
def Args (P : Program) (f : Nat) : List TypeId → List Value → St → Prop
  | [], al, _ => al = []
  | t :: r, al, s => ∃ v rest a, al = v :: rest ∧ AVal P t a v ∧ Mean P f t a s ∧ Args P f r rest s
theorem Viewed.agg {cs : Array Value} {Q : List Value → St → Prop} (h : Viewed P W cs.toList Q) : Viewed P W [.agg cs] fun al s => ∃ a, al = [.agg ⟨a⟩] ∧ Q a s := fun n => by
  obtain ⟨acs, bl, ⟨pl, h1, h2, h3⟩, h4, h5⟩ := h n
  refine ⟨[.agg ⟨acs⟩], bl, ⟨pl, h1, h2, fun ρ hρ => ?_⟩, rfl, fun s hs => ⟨acs, rfl, h5 s hs⟩⟩
  obtain ⟨k1, k2⟩ := h3 ρ hρ
  refine ⟨LR.cons ?_ .nil, k2⟩
  obtain ⟨cs⟩ := cs
  exact VR.agg acs cs k1.len k1.get
theorem view_args {f : Nat} {r : Reach} {base : Nat} : ∀ (ts : List TypeId) (vs : List Value) (ds : List (DataW H)) (ps : List MemPlace), DataW.TrodAll enc P W 0 (fun _ => true) held ts vs ds ps → (ts.all fun t => plain P f true t) = true →
    (∀ (j : Nat) t v, ts[j]? = some t → vs[j]? = some v → Value.okWide P W r base t v) → Viewed P W vs (Args P f ts)
  | [], [], [], _, _, _, _ => (Viewed.flat (P := P) (W := W) (cs := []) rfl).mono fun a s _ e => e
  | t :: ts, v :: vs, d :: ds, ps, h, hp, ho => by
    obtain ⟨p, q, ⟨m, h1⟩, h2, _⟩ := h
    simp only [List.all_cons, Bool.and_eq_true] at hp
    have h0 := ho 0 t v rfl rfl
    have hv := view (enc := enc) (held := held) f true t m _ _ hp.1 h1 fun _ => okWide_eok h0
    have hr := view_args ts vs ds q h2 hp.2 fun j t v a b => ho (j + 1) t v (by simpa using a) (by simpa using b)
    have hone : Viewed P W [v] fun al s => ∃ a u, al = [u] ∧ AVal P t a u ∧ Mean P f t a s := by
      unfold Value.okWide at h0
      split at h0
      · rename_i hu
        obtain ⟨cs, rfl, _⟩ := h0
        refine (Viewed.agg hv).mono fun al s _ q => ?_
        obtain ⟨a, rfl, q⟩ := q
        exact ⟨a, _, rfl, by unfold AVal; rw [hu], q⟩
      · rename_i hu
        obtain ⟨cs, rfl, _⟩ := h0
        refine (Viewed.agg hv).mono fun al s _ q => ?_
        obtain ⟨a, rfl, q⟩ := q
        exact ⟨a, _, rfl, by unfold AVal; rw [hu], q⟩
      · rename_i hn1 hn2
        have hc : v.cells.toList = [v] := by
          by_cases hv : ∃ cs, v = .agg cs
          · obtain ⟨cs, rfl⟩ := hv
            exfalso
            unfold Cell.okWide at h0
            split at h0
            all_goals first | (rename_i hh; cases hh; done) | (rename_i h1 h2; cases h2; done) | skip
            unfold Cell.ok at h0
            split at h0
            all_goals first | exact h0.elim | (rename_i h1 h2; cases h2; done) | (rename_i hh; cases hh; done) | skip
          · cases v <;> first | rfl | exact absurd ⟨_, rfl⟩ hv
        rw [hc] at hv
        refine hv.mono fun a s hl q => ?_
        match a, hl with
        | [u], _ =>
          refine ⟨[u], u, rfl, ?_, q⟩
          unfold AVal
          split
          · rename_i hu; exact absurd hu (hn1 _)
          · rename_i hu; exact absurd hu (hn2 _ _)
          · rfl
    have := hone.append hr
    refine this.mono fun a s _ q => ?_
    obtain ⟨x, y, rfl, ⟨a, u, rfl, q1, q2⟩, q3⟩ := q
    exact ⟨u, y, a, rfl, q1, q2, q3⟩
  | [], _ :: _, _, _, h, _, _ => h.elim
  | [], [], _ :: _, _, h, _, _ => h.elim
  | _ :: _, [], _, _, h, _, _ => h.elim
  | _ :: _, _ :: _, [], _, h, _, _ => h.elim
end
section
variable [Memo] {H : Type} {enc : TypeId × Value → H}
def LawRuns (P : Program) (k f : Nat) (fid : FuncId) (ts : List TypeId) (laid : List (String × DataW Unit)) : Prop :=
  ∃ gs bl, absLaid P k laid P.globals.size = some (gs, bl) ∧ lastIn P.globals.size gs = true ∧
    ∀ (s : St) (al : List Value), Wf s → s.lo = s.n → (∀ i, i < (absHeap P.globals.size (gs, bl)).length → s.at i = (absHeap P.globals.size (gs, bl))[i]?) → (absHeap P.globals.size (gs, bl)).length ≤ s.n → Args P f ts al s → CallWP P s.n fid al s fun v _ => v = .bool true
theorem open_calls {P : Program} {W : World} {k f : Nat} {fid : FuncId} {ts : List TypeId} {laid : List (String × DataW Unit)} (hr : LawRuns P k f fid ts laid) (hm : P.follows .mixedOrders = true) (hM : MemoOk P W.heap.size W) {ps : List MemPlace} (hL : DataW.LaidVars P W laid ps)
    {args : Array Value} {ds : List (DataW H)} {p : List MemPlace} (hA : DataW.TrodAll enc P W 0 (fun _ => true) true ts args.toList ds p) (hp : (ts.all fun t => plain P f true t) = true) {r : Reach} {base : Nat} (ho : ∀ (j : Nat) t v, ts[j]? = some t → args.toList[j]? = some v → Value.okWide P W r base t v) :
    Calls P fid args W fun e W' => e = .returned (.bool true) ∧ Below W.heap.size W W' := by
  obtain ⟨gs, bl, hx, hlast, hrun⟩ := hr
  obtain ⟨pl, hl⟩ := laid_in laid _ gs bl ps hL hx
  have hG := lastIn_le hlast hl.glt
  obtain ⟨al, bl2, hst, _, hq⟩ := view_args (f := f) ts args.toList ds p hA hp ho (P.globals.size + bl.length)
  obtain ⟨ρ, hrel, hlr⟩ := start_rel hM hl hG hst
  have hn := stOf_n (absHeap P.globals.size (gs, bl ++ bl2))
  have hlen := absHeap_len P.globals.size (gs, bl)
  have hlen2 := absHeap_len P.globals.size (gs, bl ++ bl2)
  simp only [List.length_append] at hlen2
  have happ : absHeap P.globals.size (gs, bl ++ bl2) = absHeap P.globals.size (gs, bl) ++ bl2 := by simp [absHeap]
  obtain ⟨n, v, s', e, rfl⟩ := hrun (stOf (absHeap P.globals.size (gs, bl ++ bl2))) al ⟨by rw [hn]; exact Nat.le_refl _, stOf_len _⟩ (by rw [hn]; rfl) (fun i hi => by rw [at_rev, happ, List.getElem?_append_left hi]) (by rw [hn, hlen, hlen2]; simp only; omega)
    (hq _ fun i o hi => by
      rw [at_rev, happ, List.getElem?_append_right (by rw [hlen]; simp only; omega), hlen]
      simp only
      rw [show P.globals.size + bl.length + i - (P.globals.size + bl.length) = i by omega]
      exact hi)
  rw [hn] at e
  refine (calls hm e (stOf_len _) (by rw [hn, hlen2]; omega) hM hrel (args' := args) hlr).mono fun e1 W' hq => ?_
  obtain ⟨v', rfl, ρ', _, hr, hv⟩ := hq
  rw [hv.bool_inv]
  exact ⟨rfl, hr.keep⟩
theorem law_lifted {C : Checked} {os : Os} {fid : FuncId} {fn : Func} {s : ChangeSpec} {laid : List (String × DataW Unit)} {tb : TypeId} {k f : Nat} (own : ownKnob C.prog.godebug = none) (started : os.Started) (noInit : C.prog.inits.idxOf? fid = none)
    (hfn : C.prog.funcs[fid]? = some fn) (hpar : ∀ t ∈ fn.params.toList, C.prog.readableRec t = true ∧ t < C.prog.types.size) (rt : fn.resultTypes = #[tb]) (hb : C.prog.underlying tb = some .bool) (hl : laidOutB C.prog = true)
    (hs : ∀ ds : List (DataW H), ds.length = fn.params.toList.length → s.fn H ds = { results := [.lit (.bool true)], args := ds }) (hv : s.vars = []) (hm : C.prog.follows .mixedOrders = true) (hplain : (laid.all fun x => x.2.handleName?.isNone) = true)
    (hmemo : ∀ (W : World) (ps : List MemPlace), DataW.LaidVars C.prog W laid ps → MemoOk C.prog W.heap.size W) (hp : (fn.params.toList.all fun t => plain C.prog f true t) = true) (hr : LawRuns C.prog k f fid fn.params.toList laid)
    (witness : ∃ (w : World) (tape : Tape) (i : Input), w.os = os ∧ (w.forCall tape i).Shaped C.prog ∧ i.vars = [] ∧ Input.okWide C.prog (w.forCall tape i) .any w.heap.size fid i ∧
      ((s.pre enc C.prog fn [] false (w.forCall tape i).memory i.args ∧ laidMetH C.prog laid (w.forCall tape i).memory) ∧ sizedMet enc C.prog fn (OpenSpec.ofChange s) false (w.forCall tape i).memory i.args) ∧ ({} : Assume).holds C.prog (lone (Frame.enter C.prog fid i.args .normal) [] (w.forCall tape i))) :
    ReturnsInHanded {} C os fid .any (fun w args => (s.pre enc C.prog fn [] false w args ∧ laidMetH C.prog laid w) ∧ sizedMet enc C.prog fn (OpenSpec.ofChange s) false w args) (s.post enc C.prog fn false true false false) := by
  refine returnsInHanded_of_change_and (X := fun w _ => laidMetH C.prog laid w) (fun w w' _ hh h => by
    have h' : laidMetH C.prog laid w := h
    show laidMetH C.prog laid w'
    rw [MakeChecks.laidMetH_plain _ _ _ hplain] at h' ⊢
    exact laidMet.of_heap hh h') own started noInit hfn witness ?_
  intro W base args ds gs before hok hW _ _ hL _
  have hW' := hW
  have hlt : ∀ x ∈ before, x.block < W.heap.size := fun x hx => by simpa using hW.lt x hx
  obtain ⟨p, q, hA, hV, hpq, _, _⟩ := hW
  rw [hv] at hV
  obtain ⟨rfl, rfl⟩ := nodup_vars hV
  have hL' : laidMetH C.prog laid W := hL
  rw [MakeChecks.laidMetH_plain _ _ _ hplain] at hL'
  obtain ⟨ps, hL2, _, _⟩ := hL'
  have hlen : ds.length = fn.params.toList.length := trodAll_len _ _ _ _ hA
  refine (open_calls hr hm (hmemo W ps hL2) hL2 hA hp fun j t v a b => hok j t v (by rw [← Array.getElem?_toList]; exact a) (by rw [← Array.getElem?_toList]; exact b)).mono fun e1 W' hq => ?_
  obtain ⟨rfl, hB⟩ := hq
  exact ⟨_, rfl, law_post hW' (by rw [List.append_nil]; exact hs ds hlen) hv rt hb hl hpar hB⟩
end
end Go.VE
namespace Go.VE
open Go Go.RowKit
theorem law_runs [Memo] {P : Program} {k f : Nat} {fid : FuncId} {ts : List TypeId} {laid : List (String × DataW Unit)} (h : (match absLaid P k laid P.globals.size with | some x => lastIn P.globals.size x.1 | none => false) = true)
    (run : ∀ gs bl, absLaid P k laid P.globals.size = some (gs, bl) → ∀ (s : St) (al : List Value), Wf s → s.lo = s.n → (∀ i, i < (absHeap P.globals.size (gs, bl)).length → s.at i = (absHeap P.globals.size (gs, bl))[i]?) → (absHeap P.globals.size (gs, bl)).length ≤ s.n → Args P f ts al s → CallWP P s.n fid al s fun v _ => v = .bool true) :
    LawRuns P k f fid ts laid := by
  split at h
  · rename_i x hx
    exact ⟨x.1, x.2, hx, h, run x.1 x.2 hx⟩
  · cases h
end Go.VE
namespace Go.VE
open Go
end Go.VE
namespace Go.VE
open Go
theorem hpar_of {P : Program} {l : List TypeId} (h : (l.all fun t => P.readableRec t && Nat.blt t P.types.size) = true) : ∀ t ∈ l, P.readableRec t = true ∧ t < P.types.size := fun t ht => by
  have := List.all_eq_true.1 h t ht
  simp only [Bool.and_eq_true] at this
  exact ⟨this.1, Nat.blt_eq ▸ this.2⟩
end Go.VE
namespace Go.VE
open Go
theorem par_none {p : Array TypeId} {q : TypeId → Bool} (h : (p.toList.all fun t => !(q t)) = true) {j : Nat} {t : TypeId} (ht : p[j]? = some t) : q t = false := by
  have := List.all_eq_true.1 h t (List.mem_of_getElem? (by rw [Array.getElem?_toList]; exact ht))
  simpa using this
end Go.VE
