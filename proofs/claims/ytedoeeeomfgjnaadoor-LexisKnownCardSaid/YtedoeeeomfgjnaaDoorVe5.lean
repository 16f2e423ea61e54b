/-
  What code does, as a predicate over the evaluator's runs.
-/
import Derived.Test.YtedoeeeomfgjnaaDoorVe4
import Derived.KernelRfl
set_option linter.unusedSimpArgs false
set_option linter.unusedVariables false
/- More fuel gives the same answer. -/
namespace Go.VE
open Go
def Ev.le (E E' : Ev) : Prop := ∀ c fr s r, E c fr s = some r → E' c fr s = some r
section
variable {P : Program} {ro : Nat} {E E' : Ev}
theorem abody_mono (h : Ev.le E E') {f : FuncId} {args : List Value} {s : St} {r : Func × Fr × St} (e : abody P E f args s = some r) : abody P E' f args s = some r := by
  unfold abody at e ⊢
  cases hf : P.funcs[f]? with
  | none => rw [hf] at e; cases e
  | some fn =>
    rw [hf] at e
    simp only at e ⊢
    cases hk : okFunc P fn with
    | false => rw [hk] at e; cases e
    | true =>
      rw [hk] at e
      simp only [cond_true] at e ⊢
      cases hb : fn.body with
      | none => rw [hb] at e; cases e
      | some c =>
        rw [hb] at e
        simp only at e ⊢
        cases hE : E c { t := tree (max fn.ntmps args.length) args, ds := [], rnd := none } s with
        | none => rw [hE] at e; cases e
        | some x => rw [hE] at e; rw [h _ _ _ _ hE]; exact e
theorem adefers_mono (h : Ev.le E E') : ∀ (ds : List Deferred) {s s' : St}, adefers P ro E ds s = some s' → adefers P ro E' ds s = some s'
  | [], _, _, e => e
  | d :: ds, s, s', e => by
    unfold adefers at e ⊢
    split at e
    · cases hb : abody P E _ (d.args.toList ++ _) s with
      | none => rw [hb] at e; simp only [adefer1] at e; cases e
      | some x =>
        rw [hb] at e
        rw [abody_mono h hb]
        revert e
        cases adefer1 P (some x) with
        | none => exact fun e => e
        | some s1 => exact fun e => adefers_mono h ds e
    · revert e
      split
      · exact fun e => adefers_mono h ds e
      · exact fun e => e
    · cases e
theorem acall0_mono (h : Ev.le E E') {f : FuncId} {args : List Value} {s : St} {r : Value × St} (e : acall0 P ro E f args s = some r) : acall0 P ro E' f args s = some r := by
  unfold acall0 at e ⊢
  cases hb : abody P E f args { h := s.h, n := s.n, lo := s.n } with
  | none => rw [hb] at e; cases e
  | some x =>
    rw [hb] at e; rw [abody_mono h hb]
    obtain ⟨fn, fr, s1⟩ := x
    simp only [acall1] at e ⊢
    cases hd : adefers P ro E fr.ds s1 with
    | none => rw [hd] at e; cases e
    | some s2 => rw [hd] at e; rw [adefers_mono h _ hd]; exact e
theorem acall_mono [Memo] (h : Ev.le E E') {f : FuncId} {args : List Value} {s : St} {r : Value × St} (e : acall P ro E f args s = some r) : acall P ro E' f args s = some r := by
  unfold acall at e ⊢
  cases hm : mlook s f args with
  | none => rw [hm] at e; exact acall0_mono h e
  | some v => rw [hm] at e; exact e
theorem around_mono (h : Ev.le E E') {l : Nat} {t : Tr} {a b : Code} {s : St} {r : Value × St} (e : around ro E l t a b s = some r) : around ro E' l t a b s = some r := by
  unfold around at e ⊢
  cases hE : E a { t := t, ds := [], rnd := some l } s with
  | none => rw [hE] at e; cases e
  | some x =>
    rw [hE] at e; rw [h _ _ _ _ hE]
    obtain ⟨ex, fr, s1⟩ := x
    cases ex with
    | normal =>
      simp only at e ⊢
      revert e
      cases s1.at l with
      | none => exact fun e => e
      | some o =>
        cases o with
        | loop q =>
          simp only [around2]
          cases q.state <;> try exact fun e => e
          cases Nat.ble ro l with
          | false => exact fun e => e
          | true =>
            simp only [cond_true]
            intro e
            cases hb : E b fr (s1.put l (.loop { q with state := .busy })) with
            | none => rw [hb] at e; cases e
            | some y => rw [hb] at e; rw [h _ _ _ _ hb]; exact e
        | _ => exact fun e => e
    | _ => exact e
theorem afollow_mono [Memo] (h : Ev.le E E') {dst : Option Tmp} {fr : Fr} {x : Option (AR × St)} {r : Fr × St} (e : afollow P ro E dst fr x = some r) : afollow P ro E' dst fr x = some r := by
  cases x with
  | none => exact e
  | some y =>
    obtain ⟨a, s⟩ := y
    cases a with
    | enter f args =>
      simp only [afollow] at e ⊢
      cases hc : acall P ro E f args s with
      | none => rw [hc] at e; cases e
      | some z => rw [hc] at e; rw [acall_mono h hc]; exact e
    | round l t assign body =>
      simp only [afollow] at e ⊢
      cases hc : around ro E l t assign body s with
      | none => rw [hc] at e; cases e
      | some z => rw [hc] at e; rw [around_mono h hc]; exact e
    | _ => exact e
theorem astep_mono [Memo] (h : Ev.le E E') {o : Oper} {fr : Fr} {s : St} {r : Fr × St} (e : astep P ro E o fr s = some r) : astep P ro E' o fr s = some r := afollow_mono h e
theorem aops_mono [Memo] (h : Ev.le E E') {all : List Oper} : ∀ {l : List Oper} {fr : Fr} {s : St} {r : Fr × St}, aops P ro E all l fr s = some r → aops P ro E' all l fr s = some r
  | [], _, _, _, e => e
  | o :: l, fr, s, r, e => by
    rw [aops_cons] at e ⊢
    cases hw : awanted all o fr.t with
    | false => rw [hw] at e; simp only [cond_false] at e ⊢; exact aops_mono h e
    | true =>
      rw [hw] at e
      simp only [cond_true] at e ⊢
      cases hs : astep P ro E o fr s with
      | none => rw [hs] at e; cases e
      | some x => rw [hs] at e; rw [astep_mono h hs]; exact aops_mono h e
theorem arun_mono [Memo] (h : Ev.le E E') {all : List Oper} : ∀ {l : List (Nat × Oper)} {fr : Fr} {s : St} {r : Run}, arun P ro E all l fr s = some r → arun P ro E' all l fr s = some r
  | [], _, _, _, e => e
  | (i, o) :: l, fr, s, r, e => by
    unfold arun at e ⊢
    cases hw : awanted all o fr.t with
    | false =>
      rw [hw] at e
      simp only [cond_false] at e ⊢
      obtain ⟨y, hy, _⟩ := putOp_some e
      rw [hy] at e; rw [arun_mono h hy]; exact e
    | true =>
      rw [hw] at e
      simp only [cond_true] at e ⊢
      cases hs : astep P ro E o fr s with
      | none => rw [hs] at e; cases e
      | some x =>
        rw [hs] at e; rw [astep_mono h hs]
        obtain ⟨fr1, s1⟩ := x
        simp only [arun1] at e ⊢
        cases hq : quiet o s s1 with
        | false => rw [hq] at e; cases e
        | true =>
          rw [hq] at e
          simp only [cond_true] at e ⊢
          obtain ⟨y, hy, _⟩ := putOp_some e
          rw [hy] at e; rw [arun_mono h hy]; exact e
theorem aregion_mono [Memo] (h : Ev.le E E') {ops : Array Oper} {draw : Bool} {fr : Fr} {s : St} {r : Fr × St} (e : aregion P ro E ops draw fr s = some r) : aregion P ro E' ops draw fr s = some r := by
  cases draw with
  | false => exact aops_mono h e
  | true =>
    simp only [aregion] at e ⊢
    cases hr : arun P ro E ops.toList (orderOf ops.toList) fr s with
    | none => rw [hr] at e; cases e
    | some x => rw [hr] at e; rw [arun_mono h hr]; exact e
theorem arange1_mono [Memo] (h : Ev.le E E') {l : Nat} {fr : Fr} {s : St} {v : Value} {r : Ex × Fr × St} (e : arange1 P ro E l fr s v = some r) : arange1 P ro E' l fr s v = some r := by
  unfold arange1 at e ⊢
  split at e
  · rename_i k first cap
    cases hc : acall P ro E k (first.toList ++ (Value.func (.yield l) (.mk []) (.mk []) :: cap.toList)) s with
    | none => rw [hc] at e; cases e
    | some x => rw [hc] at e; rw [acall_mono h hc]; exact e
  · cases e
theorem arange_mono [Memo] (h : Ev.le E E') {g : Value} {ps : Array Tmp} {a b : Code} {fr : Fr} {s : St} {r : Ex × Fr × St} (e : arange P ro E g ps a b fr s = some r) : arange P ro E' g ps a b fr s = some r := by
  unfold arange at e ⊢
  cases hr : fr.rnd with
  | none => rw [hr] at e; exact arange1_mono h e
  | some l =>
    rw [hr] at e
    simp only at e ⊢
    revert e
    cases s.at l with
    | none => exact fun e => e
    | some o =>
      cases o with
      | loop q => exact fun e => arange1_mono h e
      | _ => exact fun e => e
theorem thenE_mono {k k' : Fr → St → Option (Ex × Fr × St)} (hk : ∀ fr s r, k fr s = some r → k' fr s = some r) {x : Option (Ex × Fr × St)} {r : Ex × Fr × St} (e : thenE k x = some r) : thenE k' x = some r := by
  cases x with
  | none => cases e
  | some y =>
    obtain ⟨ex, fr, s⟩ := y
    cases ex with
    | normal => exact hk _ _ _ e
    | _ => exact e
theorem mrun_mono [Memo] (h : Ev.le E E') {x : ML} {s : St} {seen : List Nat} {en : Option MapEntry} {fr : Fr} {r : Ex × Fr} (e : mrun P ro E x s seen en fr = some r) : mrun P ro E' x s seen en fr = some r := by
  unfold mrun at e ⊢
  cases ho : aops P ro E x.all x.os (fr.put x.d (nextVal en)) (sI x s seen) with
  | none => rw [ho] at e; cases e
  | some y =>
    rw [ho] at e; rw [aops_mono h ho]
    simp only [normalOf] at e ⊢
    cases hE : thenE (E x.rest) (some (.normal, y.1, y.2)) with
    | none => rw [hE] at e; cases e
    | some z => rw [hE] at e; rw [thenE_mono (fun fr s r => h _ fr s r) hE]; exact e
theorem mall_mono : ∀ {l l' : List (Option (Ex × Fr))}, l.length = l'.length → (∀ (i : Nat) (x : Ex × Fr), l[i]? = some (some x) → l'[i]? = some (some x)) → ∀ {r}, mall l = some r → mall l' = some r
  | [], _, _, _, _, e => by cases e
  | [a], l', hl, h, r, e => by
    match l', hl with
    | [b], _ =>
      have e' : a = some r := e
      subst e'
      have h0 := h 0 r rfl
      simp only [List.getElem?_cons_zero, Option.some.injEq] at h0
      show b = some r
      exact h0
  | a :: a2 :: as, l', hl, h, r, e => by
    match l', hl with
    | b :: b2 :: bs, hl =>
      have e' : merge2 a (mall (a2 :: as)) = some r := e
      show merge2 b (mall (b2 :: bs)) = some r
      cases ha : a with
      | none => rw [ha] at e'; cases e'
      | some x =>
        rw [ha] at e'
        cases hm : mall (a2 :: as) with
        | none => rw [hm] at e'; cases e'
        | some y =>
          rw [hm] at e'
          have h0 := h 0 x (by simp [ha])
          simp only [List.getElem?_cons_zero, Option.some.injEq] at h0
          rw [h0, mall_mono (l := a2 :: as) (l' := b2 :: bs) (by simpa using hl) (fun i z hz => by simpa using h (i + 1) z (by simpa using hz)) hm]
          exact e'
theorem mnext_mono {k k' : Fr → Option (Ex × Fr)} (hk : ∀ fr r, k fr = some r → k' fr = some r) {x x' : Option (Ex × Fr)} (hx : ∀ y, x = some y → x' = some y) {r : Ex × Fr} (e : mnext k x = some r) : mnext k' x' = some r := by
  cases x with
  | none => cases e
  | some y =>
    rw [hx y rfl]
    obtain ⟨ex, fr⟩ := y
    cases ex with
    | normal => exact hk _ _ e
    | _ => exact e
theorem mtree_mono [Memo] (h : Ev.le E E') {x : ML} {s : St} : ∀ (f : Nat) {seen : List Nat} {fr : Fr} {r : Ex × Fr}, mtree P ro E x s f seen fr = some r → mtree P ro E' x s f seen fr = some r
  | 0, _, _, _, e => by cases e
  | f + 1, seen, fr, r, e => by
    unfold mtree at e ⊢
    cases hi : isIt (aval fr.t x.it) x.I with
    | false => rw [hi] at e; exact e
    | true =>
      rw [hi] at e
      simp only [cond_true] at e ⊢
      cases hl : leftOf x.es seen with
      | nil =>
        rw [hl] at e
        simp only at e ⊢
        cases hr : mrun P ro E x s seen none fr with
        | none => rw [hr] at e; cases e
        | some y => rw [hr] at e; rw [mrun_mono h hr]; exact e
      | cons a l =>
        rw [hl] at e
        simp only at e ⊢
        refine mall_mono (by simp) (fun i y hy => ?_) e
        rw [List.getElem?_map] at hy ⊢
        cases ha : (a :: l)[i]? with
        | none => rw [ha] at hy; cases hy
        | some en =>
          rw [ha] at hy
          simp only [Option.map_some, Option.some.injEq] at hy ⊢
          exact mnext_mono (fun fr r => mtree_mono h f) (fun y => mrun_mono h) hy
theorem aloop_mono [Memo] (h : Ev.le E E') {a : Code} {fr : Fr} {s : St} {m : Option ML} {r : Ex × Fr × St} (e : aloop P ro E a fr s m = some r) : aloop P ro E' a fr s m = some r := by
  cases m with
  | none =>
    simp only [aloop] at e ⊢
    cases hE : E a fr s with
    | none => rw [hE] at e; cases e
    | some y => rw [hE] at e; rw [h _ _ _ _ hE]; exact thenE_mono (fun fr s r => h _ fr s r) e
  | some x =>
    simp only [aloop] at e ⊢
    cases ht : mtree P ro E x s (x.es.length + 1) [] fr with
    | none => rw [ht] at e; cases e
    | some y => rw [ht] at e; rw [mtree_mono h _ ht]; exact e
theorem acode_mono [Memo] (h : Ev.le E E') : Ev.le (acode P ro E) (acode P ro E') := by
  intro c fr s r e
  cases c with
  | region i ops draw =>
    simp only [acode] at e ⊢
    cases hr : aregion P ro E ops draw fr s with
    | none => rw [hr] at e; cases e
    | some y => rw [hr] at e; rw [aregion_mono h hr]; exact e
  | seq a b =>
    simp only [acode] at e ⊢
    cases hE : E a fr s with
    | none => rw [hE] at e; cases e
    | some y => rw [hE] at e; rw [h _ _ _ _ hE]; exact thenE_mono (fun fr s r => h _ fr s r) e
  | cond x a b =>
    simp only [acode] at e ⊢
    revert e
    unfold condE
    split
    · exact h _ _ _ _
    · exact h _ _ _ _
    · exact fun e => e
  | block id a =>
    simp only [acode] at e ⊢
    cases hE : E a fr s with
    | none => rw [hE] at e; cases e
    | some y => rw [hE] at e; rw [h _ _ _ _ hE]; exact e
  | loop a => exact aloop_mono h e
  | rangeFunc g ps assign body => exact arange_mono h e
  | scope a => exact h _ _ _ _ e
  | _ => exact e
theorem ev_le [Memo] : ∀ n, Ev.le (ev P ro n) (ev P ro (n + 1))
  | 0 => fun _ _ _ _ e => by cases e
  | n + 1 => acode_mono (ev_le n)
theorem ev_mono [Memo] {n m : Nat} (h : n ≤ m) : Ev.le (ev P ro n) (ev P ro m) := by
  induction h with
  | refl => exact fun _ _ _ _ e => e
  | step _ ih => exact fun c fr s r e => ev_le _ c fr s r (ih c fr s r e)
end
end Go.VE
/- Weakest preconditions of the evaluator: operations. -/
namespace Go.VE
open Go
abbrev Tau := Nat → Value
def tset (τ : Tau) (i : Tmp) (v : Value) : Tau := fun j => bif Nat.beq j i then v else τ j
theorem tset_same (τ : Tau) (i : Tmp) (v : Value) : tset τ i v i = v := by simp [tset]
theorem tset_ne (τ : Tau) {i j : Tmp} (v : Value) (h : Nat.beq j i = false) : tset τ i v j = τ j := by simp only [tset, h, cond_false]
theorem tset_eq (τ : Tau) (i j : Tmp) (v : Value) : tset τ i v j = if j = i then v else τ j := by
  by_cases h : j = i
  · subst h; rw [tset_same, if_pos rfl]
  · rw [tset_ne, if_neg h]
    cases hb : Nat.beq j i with
    | false => rfl
    | true => exact absurd (Nat.eq_of_beq_eq_true hb) h
structure Agr (N : Nat) (t : Tr) (τ : Tau) : Prop where
  has : ∀ i, i < N → t.has i = true
  get : ∀ i, i < N → t.get i = τ i
theorem Agr.set {N : Nat} {t : Tr} {τ : Tau} (h : Agr N t τ) (i : Tmp) (v : Value) (hi : i < N) : Agr N (t.set i v) (tset τ i v) :=
  ⟨fun j hj => by rw [Tr.has_set]; exact h.has j hj, fun j hj => by
    rw [Tr.get_set, tset_eq]
    by_cases e : j = i
    · subst e; rw [if_pos ⟨rfl, h.has j hj⟩, if_pos rfl]
    · rw [if_neg (fun h => e h.1), if_neg e]; exact h.get j hj⟩
theorem Agr.known {N : Nat} {t : Tr} {τ : Tau} (h : Agr N t τ) (i : Tmp) (v : Value) (hi : τ i = v) : Agr N t (tset τ i v) :=
  ⟨h.has, fun j hj => by
    rw [tset_eq]
    by_cases e : j = i
    · subst e; rw [if_pos rfl, h.get j hj, hi]
    · rw [if_neg e]; exact h.get j hj⟩
theorem Agr.refl {N : Nat} {t : Tr} (h : ∀ i, i < N → t.has i = true) : Agr N t t.get := ⟨h, fun _ _ => rfl⟩
def oval (τ : Tau) : Operand → Value
  | .tmp i => τ i
  | .const v => v
  | .global g => .pointer (some ⟨g, 0, none⟩)
  | .func f => .func (.func f) #[] #[]
def osub (τ : Tau) (x : Operand) : Operand := .const (oval τ x)
def ltT (N : Nat) : Operand → Bool
  | .tmp i => Nat.blt i N
  | _ => true
theorem blt_lt {i n : Nat} (h : Nat.blt i n = true) : i < n := by
  have : Nat.ble (i + 1) n = true := h
  exact Nat.le_of_ble_eq_true this
theorem aval_oval {N : Nat} {t : Tr} {τ : Tau} (h : Agr N t τ) {x : Operand} (hx : ltT N x = true) : aval t x = oval τ x := by
  cases x with
  | tmp i => exact h.get i (blt_lt hx)
  | _ => rfl
def subParts (τ : Tau) (l : List (Nat × Operand)) : List (Nat × Operand) := l.map fun p => (p.1, osub τ p.2)
def calleeSub (τ : Tau) : Callee → Callee
  | .value f => .value (osub τ f)
  | .invoke r m => .invoke (osub τ r) m
  | .builtin b => .builtin b
def callSub (τ : Tau) (c : Call) : Call := { callee := calleeSub τ c.callee, args := ⟨c.args.toList.map (osub τ)⟩, argTypes := c.argTypes }
def opSub (τ : Tau) : Op → Op
  | .move x => .move (osub τ x)
  | .assign x => .assign (osub τ x)
  | .pick c a b => .pick (osub τ c) (osub τ a) (osub τ b)
  | .box e x => .box e (osub τ x)
  | .build t ps => .build t ⟨subParts τ ps.toList⟩
  | .buildSlice t n ps => .buildSlice t n ⟨subParts τ ps.toList⟩
  | .insert t m k v => .insert t (osub τ m) (osub τ k) (osub τ v)
  | .load t a => .load t (osub τ a)
  | .store t a x => .store t (osub τ a) (osub τ x)
  | .nilCheck x => .nilCheck (osub τ x)
  | .binOp o t x y r => .binOp o t (osub τ x) (osub τ y) r
  | .unOp o t x => .unOp o t (osub τ x)
  | .convert s d x => .convert s d (osub τ x)
  | .sliceToArrayPointer d x => .sliceToArrayPointer d (osub τ x)
  | .makeFunc f a c => .makeFunc f ⟨a.toList.map (osub τ)⟩ ⟨c.toList.map (osub τ)⟩
  | .makeSlice t l c => .makeSlice t (osub τ l) (osub τ c)
  | .slice t x lo hi mx => .slice t (osub τ x) (lo.map (osub τ)) (hi.map (osub τ)) (mx.map (osub τ))
  | .fieldAddr t x f => .fieldAddr t (osub τ x) f
  | .field t x f => .field t (osub τ x) f
  | .indexAddr t x i => .indexAddr t (osub τ x) (osub τ i)
  | .index t x i => .index t (osub τ x) (osub τ i)
  | .lookup t x i ok => .lookup t (osub τ x) (osub τ i) ok
  | .mapUpdate t m k v => .mapUpdate t (osub τ m) (osub τ k) (osub τ v)
  | .range t x => .range t (osub τ x)
  | .entry x => .entry (osub τ x)
  | .extract x i => .extract (osub τ x) i
  | .call c => .call (callSub τ c)
  | .defer c => .defer (callSub τ c)
  | o => o
def mkO (op : Op) (ty : TypeId) : Oper := { dst := none, op := op, type := ty, pos := "", after := #[], guard := none }
def nilOk : Op → Bool
  | .binOp _ _ (.const .nilIface) (.const .nilIface) _ => false
  | _ => true
def ltC (N : Nat) (c : Call) : Bool := c.args.toList.all (ltT N) && (match c.callee with | .value f => ltT N f | .invoke r _ => ltT N r | _ => true)
def ltOp (N : Nat) : Op → Bool
  | .move x => ltT N x
  | .assign x => ltT N x
  | .pick c a b => ltT N c && (ltT N a && ltT N b)
  | .box _ x => ltT N x
  | .build _ ps => ps.toList.all fun p => ltT N p.2
  | .buildSlice _ _ ps => ps.toList.all fun p => ltT N p.2
  | .insert _ m k v => ltT N m && (ltT N k && ltT N v)
  | .load _ a => ltT N a
  | .store _ a x => ltT N a && ltT N x
  | .nilCheck x => ltT N x
  | .binOp _ _ x y _ => ltT N x && ltT N y
  | .unOp _ _ x => ltT N x
  | .convert _ _ x => ltT N x
  | .sliceToArrayPointer _ x => ltT N x
  | .makeFunc _ a c => a.toList.all (ltT N) && c.toList.all (ltT N)
  | .makeSlice _ l c => ltT N l && ltT N c
  | .slice _ x lo hi mx => ltT N x && (lo.all (ltT N) && (hi.all (ltT N) && mx.all (ltT N)))
  | .fieldAddr _ x _ => ltT N x
  | .field _ x _ => ltT N x
  | .indexAddr _ x i => ltT N x && ltT N i
  | .index _ x i => ltT N x && ltT N i
  | .lookup _ x i _ => ltT N x && ltT N i
  | .mapUpdate _ m k v => ltT N m && (ltT N k && ltT N v)
  | .range _ x => ltT N x
  | .entry x => ltT N x
  | .extract x _ => ltT N x
  | .call c => ltC N c
  | .defer c => ltC N c
  | _ => true
section
variable {P : Program} {ro N : Nat} {t : Tr} {τ : Tau}
theorem aval_osub (x : Operand) : aval .e (osub τ x) = oval τ x := rfl
theorem avals_sub (h : Agr N t τ) : ∀ {l : List Operand}, l.all (ltT N) = true → avals .e (l.map (osub τ)) = avals t l
  | [], _ => rfl
  | x :: r, hl => by
    simp only [List.all_cons, Bool.and_eq_true] at hl
    simp only [List.map_cons, avals, aval_osub, aval_oval h hl.1, avals_sub h hl.2]
theorem partVals_sub (h : Agr N t τ) : ∀ {l : List (Nat × Operand)}, (l.all fun p => ltT N p.2) = true → partVals .e (subParts τ l) = partVals t l
  | [], _ => rfl
  | (i, x) :: r, hl => by
    simp only [List.all_cons, Bool.and_eq_true] at hl
    have := partVals_sub h hl.2
    simp only [subParts] at this
    simp only [subParts, List.map_cons, partVals, aval_osub, aval_oval h hl.1, this]
theorem oval_map (h : Agr N t τ) {x : Option Operand} (hx : x.all (ltT N) = true) : (x.map (osub τ)).map (aval .e) = x.map (aval t) := by
  cases x with
  | none => rfl
  | some y => simp only [Option.map_some, aval_osub, aval_oval h (by simpa using hx)]
theorem flatO_sub (h : Agr N t τ) {x : Option Operand} (hx : x.all (ltT N) = true) : flatO .e (x.map (osub τ)) = flatO t x := by
  cases x with
  | none => rfl
  | some y => simp only [Option.map_some, flatO, Option.all_some, aval_osub, aval_oval h (by simpa using hx)]
theorem aop_sub (h : Agr N t τ) {o : Oper} (ho : ltOp N o.op = true) {s : St} {r : AR × St} (hn : nilOk (opSub τ o.op) = true) (e : aop P ro .e (mkO (opSub τ o.op) o.type) s = some r) : aop P ro t o s = some r := by
  obtain ⟨dst, op, type, pos, after, guard⟩ := o
  simp only at ho hn e
  cases op with
  | move x => simpa only [aop, mkO, opSub, aval_osub, aval_oval h ho] using e
  | assign x => simpa only [aop, mkO, opSub, aval_osub, aval_oval h ho] using e
  | pick c a b =>
    simp only [ltOp, Bool.and_eq_true] at ho
    simpa only [aop, mkO, opSub, aval_osub, aval_oval h ho.1, aval_oval h ho.2.1, aval_oval h ho.2.2] using e
  | alloc el => exact e
  | box el x => simpa only [aop, mkO, opSub, aval_osub, aval_oval h ho] using e
  | build ty ps =>
    simp only [ltOp] at ho
    simpa only [aop, mkO, opSub, partVals_sub h ho] using e
  | buildSlice ty n ps =>
    simp only [ltOp] at ho
    simpa only [aop, mkO, opSub, partVals_sub h ho] using e
  | insert ty m k v =>
    simp only [ltOp, Bool.and_eq_true] at ho
    simpa only [aop, mkO, opSub, aval_osub, aval_oval h ho.1, aval_oval h ho.2.1, aval_oval h ho.2.2] using e
  | load ty a => simpa only [aop, mkO, opSub, aval_osub, aval_oval h ho] using e
  | store ty a x =>
    simp only [ltOp, Bool.and_eq_true] at ho
    simpa only [aop, mkO, opSub, aval_osub, aval_oval h ho.1, aval_oval h ho.2] using e
  | nilCheck x => simpa only [aop, mkO, opSub, aval_osub, aval_oval h ho] using e
  | binOp bo ty x y rt =>
    simp only [ltOp, Bool.and_eq_true] at ho
    have hx := aval_oval h ho.1
    have hy := aval_oval h ho.2
    simp only [aop, mkO, opSub, aval_osub, hx, hy] at e ⊢
    revert e
    unfold abin
    split
    · exact fun e => e
    · intro e
      cases hf : (flat' (oval τ x) && flat' (oval τ y)) with
      | false => rw [hf] at e; exact e
      | true =>
        rw [hf] at e
        simp only [cond_true] at e ⊢
        have key : apure P t { dst := dst, op := .binOp bo ty x y rt, type := type, pos := pos, after := after, guard := guard } = apure P .e { dst := none, op := .binOp bo ty (osub τ x) (osub τ y) rt, type := type, pos := "", after := #[], guard := none } := by
          simp only [apure, execOp, aval_osub, hx, hy]
          have hg : eqGuard bo ty x y (oval τ x) (oval τ y) = eqGuard bo ty (osub τ x) (osub τ y) (oval τ x) (oval τ y) := by
            simp only [nilOk, opSub, osub] at hn
            unfold eqGuard
            cases hx' : oval τ x <;> cases hy' : oval τ y <;> first | rfl | (rw [hx', hy'] at hn; simp at hn)
          rw [hg]
        rw [key]; exact e
  | unOp uo ty x =>
    have hx := aval_oval h ho
    have key : apure P t { dst := dst, op := .unOp uo ty x, type := type, pos := pos, after := after, guard := guard } = apure P .e { dst := none, op := .unOp uo ty (osub τ x), type := type, pos := "", after := #[], guard := none } := by
      simp only [apure, execOp, aval_osub, hx]
    simp only [aop, mkO, opSub, aval_osub, hx] at e ⊢
    unfold anot at e ⊢
    split <;> simp_all [aun]
  | convert sr ds x =>
    have hx := aval_oval h ho
    have key : apure P t { dst := dst, op := .convert sr ds x, type := type, pos := pos, after := after, guard := guard } = apure P .e { dst := none, op := .convert sr ds (osub τ x), type := type, pos := "", after := #[], guard := none } := by
      simp only [apure, execOp, aval_osub, hx]
    simp only [aop, mkO, opSub, aval_osub, hx] at e ⊢
    unfold aconv aun at e ⊢
    rw [key]; exact e
  | sliceToArrayPointer ty x => simpa only [aop, mkO, opSub, aval_osub, aval_oval h ho] using e
  | makeFunc f a c =>
    simp only [ltOp, Bool.and_eq_true] at ho
    simpa only [aop, mkO, opSub, amk, avals_sub h ho.1, avals_sub h ho.2] using e
  | makeMap ty rs => exact e
  | makeSlice ty l c =>
    simp only [ltOp, Bool.and_eq_true] at ho
    simpa only [aop, mkO, opSub, aval_osub, aval_oval h ho.1, aval_oval h ho.2] using e
  | slice ty x lo hi mx =>
    simp only [ltOp, Bool.and_eq_true] at ho
    have hx := aval_oval h ho.1
    have key : apure P t { dst := dst, op := .slice ty x lo hi mx, type := type, pos := pos, after := after, guard := guard } = apure P .e { dst := none, op := .slice ty (osub τ x) (lo.map (osub τ)) (hi.map (osub τ)) (mx.map (osub τ)), type := type, pos := "", after := #[], guard := none } := by
      simp only [apure, execOp, aval_osub, hx, oval_map h ho.2.1, oval_map h ho.2.2.1, oval_map h ho.2.2.2]
    simp only [aop, mkO, opSub, aval_osub, hx, asl, flatO_sub h ho.2.1, flatO_sub h ho.2.2.1, flatO_sub h ho.2.2.2, oval_map h ho.2.1, oval_map h ho.2.2.1, oval_map h ho.2.2.2] at e ⊢
    rw [key]; exact e
  | fieldAddr ty x f => simpa only [aop, mkO, opSub, aval_osub, aval_oval h ho] using e
  | field ty x f => simpa only [aop, mkO, opSub, aval_osub, aval_oval h ho] using e
  | indexAddr ty x i =>
    simp only [ltOp, Bool.and_eq_true] at ho
    simpa only [aop, mkO, opSub, aval_osub, aval_oval h ho.1, aval_oval h ho.2] using e
  | index ty x i =>
    simp only [ltOp, Bool.and_eq_true] at ho
    have hx := aval_oval h ho.1
    have hy := aval_oval h ho.2
    have key : apure P t { dst := dst, op := .index ty x i, type := type, pos := pos, after := after, guard := guard } = apure P .e { dst := none, op := .index ty (osub τ x) (osub τ i), type := type, pos := "", after := #[], guard := none } := by
      simp only [apure, execOp, aval_osub, hx, hy]
    simp only [aop, mkO, opSub, aval_osub, hx, hy, aix] at e ⊢
    rw [key]; exact e
  | lookup ty x i ok =>
    simp only [ltOp, Bool.and_eq_true] at ho
    simpa only [aop, mkO, opSub, aval_osub, aval_oval h ho.1, aval_oval h ho.2] using e
  | mapUpdate ty m k v =>
    simp only [ltOp, Bool.and_eq_true] at ho
    simpa only [aop, mkO, opSub, aval_osub, aval_oval h ho.1, aval_oval h ho.2.1, aval_oval h ho.2.2] using e
  | range ty x => simpa only [aop, mkO, opSub, aval_osub, aval_oval h ho] using e
  | entry x => simpa only [aop, mkO, opSub, aval_osub, aval_oval h ho] using e
  | extract x i => simpa only [aop, mkO, opSub, aval_osub, aval_oval h ho] using e
  | call c =>
    obtain ⟨callee, args, tys⟩ := c
    simp only [ltOp, ltC, Bool.and_eq_true] at ho
    cases callee with
    | value f =>
      simp only [aop, mkO, opSub, callSub, calleeSub, acallOp, aval_osub, avals_sub h ho.1] at e ⊢
      rw [aval_oval h ho.2]; exact e
    | invoke rc m => exact e
    | builtin b =>
      have ha : (Array.mk (args.toList.map (osub τ))).map (aval .e) = args.map (aval t) := by
        apply Array.ext'
        simp only [Array.toList_map, List.map_map]
        refine List.map_congr_left fun x hx => ?_
        exact (aval_oval h (List.all_eq_true.1 ho.1 x hx)).symm
      have key : ∀ b', b = b' → (b' = .len ∨ b' = .min ∨ b' = .max) → apure P t { dst := dst, op := .call { callee := .builtin b, args := args, argTypes := tys }, type := type, pos := pos, after := after, guard := guard } = apure P .e { dst := none, op := .call { callee := .builtin b, args := ⟨args.toList.map (osub τ)⟩, argTypes := tys }, type := type, pos := "", after := #[], guard := none } := by
        intro b' hb hb'
        subst hb
        rcases hb' with rfl | rfl | rfl <;> (simp only [apure, execOp, resolve, ha]; rfl)
      simp only [aop, mkO, opSub, callSub, calleeSub, acallOp, abuiltin, avals_sub h ho.1, alenOp] at e ⊢
      cases b <;> first | exact e | (rw [key _ rfl (by simp)]; exact e)
  | «defer» c =>
    obtain ⟨callee, args, tys⟩ := c
    simp only [ltOp, ltC, Bool.and_eq_true] at ho
    have ha : (Array.mk (args.toList.map (osub τ))).map (aval .e) = args.map (aval t) := by
      apply Array.ext'
      simp only [Array.toList_map, List.map_map]
      refine List.map_congr_left fun x hx => ?_
      exact (aval_oval h (List.all_eq_true.1 ho.1 x hx)).symm
    cases callee with
    | value f =>
      simp only [aop, mkO, opSub, callSub, calleeSub, adeferOp, aval_osub, ha] at e ⊢
      rw [aval_oval h ho.2]; exact e
    | invoke rc m => exact e
    | builtin b => exact e
  | _ => exact e
end
end Go.VE
/- Weakest preconditions of the evaluator: definitions, operations in their order. -/
namespace Go.VE
open Go
abbrev WK := Tau → List Deferred → St → Prop
section
variable [Memo] (P : Program) (ro : Nat)
def CallWP (f : FuncId) (args : List Value) (s : St) (K : Value → St → Prop) : Prop := ∃ n v s', acall P ro (ev P ro n) f args s = some (v, s') ∧ K v s'
def RoundWP (l : Nat) (t : Tr) (assign body : Code) (s : St) (K : Value → St → Prop) : Prop := ∃ n v s', around ro (ev P ro n) l t assign body s = some (v, s') ∧ K v s'
def wfol (K : Value → St → Prop) : Option (AR × St) → Prop
  | some (.val v, s) => K v s
  | some (.skip, s) => K undef s
  | some (.enter f args, s) => CallWP P ro f args s K
  | some (.round l t assign body, s) => RoundWP P ro l t assign body s K
  | some (.dfr _, _) => False
  | none => False
def wop (op : Op) (ty : TypeId) (s : St) (K : Value → St → Prop) : Prop := wfol P ro K (bif nilOk op then aop P ro .e (mkO op ty) s else none)
def wcall (f : Value) (args : List Value) (s : St) (K : Value → St → Prop) : Prop :=
  match f with
  | .func (.func k) first cap => CallWP P ro k (first.toList ++ (args ++ cap.toList)) s K
  | .func (.yield l) (.mk []) (.mk []) => wfol P ro K (ayield s l args (s.at l))
  | _ => False
def wdfr (K : Deferred → St → Prop) : Option (AR × St) → Prop
  | some (.dfr d, s) => K d s
  | _ => False
def wdefer (op : Op) (ty : TypeId) (s : St) (K : Deferred → St → Prop) : Prop := wdfr K (aop P ro .e (mkO op ty) s)
end
def ovals (τ : Tau) : List Operand → List Value
  | [] => []
  | x :: r => oval τ x :: ovals τ r
def tput (τ : Tau) (dst : Option Tmp) (v : Value) : Tau :=
  match dst with
  | some d => tset τ d v
  | none => τ
def wdec (v : Value) (A B : Prop) : Prop :=
  match v with
  | .bool true => A
  | .bool false => B
  | _ => False
def wcond (τ : Tau) (x : Operand) (A B : Tau → Prop) : Prop :=
  match x with
  | .tmp i => wdec (τ i) (A (tset τ i (.bool true))) (B (tset τ i (.bool false)))
  | x => wdec (oval τ x) (A τ) (B τ)
section
variable [Memo] (P : Program) (ro : Nat) (rnd : Option Nat)
def w1 (o : Oper) (τ : Tau) (ds : List Deferred) (s : St) (K : WK) : Prop :=
  match o.op with
  | .move x => K (tput τ o.dst (oval τ x)) ds s
  | .assign x => K (tput τ o.dst (oval τ x)) ds s
  | .pick c a b => wcond τ c (fun τ => K (tput τ o.dst (oval τ a)) ds s) (fun τ => K (tput τ o.dst (oval τ b)) ds s)
  | .defer c => rnd = none ∧ wdefer P ro (.defer (callSub τ c)) o.type s fun d s' => K (tput τ o.dst undef) (d :: ds) s'
  | .call c => (match c.callee with
    | .value f => wcall P ro (oval τ f) (ovals τ c.args.toList) s fun v s' => K (tput τ o.dst v) ds s'
    | _ => wop P ro (.call (callSub τ c)) o.type s fun v s' => K (tput τ o.dst v) ds s')
  | op => wop P ro (opSub τ op) o.type s fun v s' => K (tput τ o.dst v) ds s'
def gdst (all : List Oper) (j : Nat) : Option Tmp :=
  match all[j]? with
  | some g => g.dst
  | none => none
def skPut (all : List Oper) (sk : List Nat) (dst : Option Tmp) : List Nat :=
  match dst with
  | some d => sk.filter fun j => !((gdst all j).any (Nat.beq d))
  | none => sk
def wguard (all : List Oper) (sk : List Nat) (o : Oper) (τ : Tau) (A B : Tau → Prop) : Prop :=
  match o.guard with
  | none => A τ
  | some (j, want) => bif sk.any (Nat.beq j) then B τ else
    match gdst all j with
    | some d => wdec (τ d) (bif want then A (tset τ d (.bool true)) else B (tset τ d (.bool true))) (bif want then B (tset τ d (.bool false)) else A (tset τ d (.bool false)))
    | none => B τ
def wops (all : List Oper) : List Oper → Nat → List Nat → Tau → List Deferred → St → WK → Prop
  | [], _, _, τ, ds, s, K => K τ ds s
  | o :: r, i, sk, τ, ds, s, K => wguard all sk o τ (fun τ => w1 P ro rnd o τ ds s fun τ ds s => wops all r (i + 1) (skPut all sk o.dst) τ ds s K) (fun τ => wops all r (i + 1) (i :: skPut all sk o.dst) (tput τ o.dst undef) ds s K)
end
def Tr.put (t : Tr) (dst : Option Tmp) (v : Value) : Tr :=
  match dst with
  | some d => t.set d v
  | none => t
def ltD (N : Nat) : Option Tmp → Bool
  | some d => Nat.blt d N
  | none => true
def ltOper (N : Nat) (o : Oper) : Bool := ltOp N o.op && ltD N o.dst
section
variable {P : Program} {ro N : Nat} {rnd : Option Nat}
theorem Agr.put {t : Tr} {τ : Tau} (h : Agr N t τ) {dst : Option Tmp} (hd : ltD N dst = true) (v : Value) : Agr N (t.put dst v) (tput τ dst v) := by
  cases dst with
  | none => exact h
  | some d => exact h.set d v (blt_lt hd)
theorem put_eq (t : Tr) (ds : List Deferred) (rnd : Option Nat) (dst : Option Tmp) (v : Value) : (Fr.mk t ds rnd).put dst v = ⟨t.put dst v, ds, rnd⟩ := by
  cases dst <;> rfl
theorem wdec_cases {v : Value} {A B : Prop} (h : wdec v A B) : (v = .bool true ∧ A) ∨ (v = .bool false ∧ B) := by
  unfold wdec at h
  split at h
  · exact .inl ⟨rfl, h⟩
  · exact .inr ⟨rfl, h⟩
  · exact h.elim
theorem wcond_eq {τ : Tau} {x : Operand} {A B : Tau → Prop} (h : wcond τ x A B) : (oval τ x = .bool true ∧ A τ) ∨ (oval τ x = .bool false ∧ B τ) := by
  unfold wcond at h
  have key : ∀ (i : Tmp) (v : Value), τ i = v → tset τ i v = τ := fun i v hv => by
    funext j
    rw [tset_eq]
    split
    · rename_i hj; rw [hj, hv]
    · rfl
  split at h
  · rename_i i
    rcases wdec_cases h with ⟨h1, h2⟩ | ⟨h1, h2⟩
    · rw [key i _ h1] at h2; exact .inl ⟨h1, h2⟩
    · rw [key i _ h1] at h2; exact .inr ⟨h1, h2⟩
  · exact wdec_cases h
def SkOk (all : List Oper) (sk : List Nat) (τ : Tau) : Prop := ∀ j ∈ sk, ∀ d, gdst all j = some d → τ d = undef
theorem SkOk.put {all : List Oper} {sk : List Nat} {τ : Tau} (h : SkOk all sk τ) (dst : Option Tmp) (v : Value) : SkOk all (skPut all sk dst) (tput τ dst v) := by
  intro j hj d hd
  unfold skPut at hj
  unfold tput
  cases dst with
  | none => exact h j hj d hd
  | some e =>
    obtain ⟨h1, h2⟩ := List.mem_filter.1 hj
    simp only
    rw [tset_eq]
    by_cases hde : d = e
    · subst hde
      rw [hd] at h2
      simp [Nat.beq_refl] at h2
    · rw [if_neg hde]; exact h j h1 d hd
theorem SkOk.skip {all : List Oper} {sk : List Nat} {τ : Tau} {i : Nat} {o : Oper} (h : SkOk all sk τ) (hi : all[i]? = some o) : SkOk all (i :: skPut all sk o.dst) (tput τ o.dst undef) := by
  intro j hj d hd
  rcases List.mem_cons.1 hj with rfl | hj
  · unfold gdst at hd
    rw [hi] at hd
    simp only at hd
    rw [hd]
    exact tset_same _ _ _
  · exact h.put o.dst undef j hj d hd
theorem wguard_eq {all : List Oper} {sk : List Nat} {o : Oper} {τ : Tau} {A B : Tau → Prop} (h : wguard all sk o τ A B) {t : Tr} (ht : Agr N t τ) (hl : all.all (ltOper N) = true) (hsk : SkOk all sk τ) :
    (awanted all o t = true ∧ A τ) ∨ (awanted all o t = false ∧ B τ) := by
  unfold wguard gdst at h
  unfold awanted
  have key : ∀ (i : Tmp) (v : Value), τ i = v → tset τ i v = τ := fun i v hv => by
    funext j
    rw [tset_eq]
    split
    · rename_i hj; rw [hj, hv]
    · rfl
  cases hg : o.guard with
  | none => rw [hg] at h; exact .inl ⟨rfl, h⟩
  | some jw =>
    obtain ⟨j, want⟩ := jw
    rw [hg] at h
    simp only at h ⊢
    cases hs : sk.any (Nat.beq j) with
    | true =>
      rw [hs] at h
      obtain ⟨j', hj', hbq⟩ := List.any_eq_true.1 hs
      obtain rfl := Nat.eq_of_beq_eq_true hbq
      refine .inr ⟨?_, h⟩
      cases hj : all[j]? with
      | none => rfl
      | some g =>
        simp only
        cases hd : g.dst with
        | none => rfl
        | some d =>
          simp only
          have hlt : d < N := by
            have := List.all_eq_true.1 hl g (List.mem_of_getElem? hj)
            simp only [ltOper, Bool.and_eq_true, hd] at this
            exact blt_lt this.2
          rw [ht.get d hlt, hsk j hj' d (by unfold gdst; rw [hj]; exact hd)]
          rfl
    | false =>
    rw [hs] at h
    simp only [cond_false] at h
    cases hj : all[j]? with
    | none => rw [hj] at h; exact .inr ⟨rfl, h⟩
    | some g =>
      rw [hj] at h
      simp only at h ⊢
      cases hd : g.dst with
      | none => rw [hd] at h; exact .inr ⟨rfl, h⟩
      | some d =>
        rw [hd] at h
        simp only at h ⊢
        have hlt : d < N := by
          have := List.all_eq_true.1 hl g (List.mem_of_getElem? hj)
          simp only [ltOper, Bool.and_eq_true, hd] at this
          exact blt_lt this.2
        rw [ht.get d hlt]
        rcases wdec_cases h with ⟨h1, h2⟩ | ⟨h1, h2⟩
        · rw [key d _ h1] at h2
          rw [h1]
          cases want
          · exact .inr ⟨rfl, h2⟩
          · exact .inl ⟨rfl, h2⟩
        · rw [key d _ h1] at h2
          rw [h1]
          cases want
          · exact .inl ⟨rfl, h2⟩
          · exact .inr ⟨rfl, h2⟩
theorem avals_ovals {t : Tr} {τ : Tau} (h : Agr N t τ) : ∀ {l : List Operand}, l.all (ltT N) = true → avals t l = ovals τ l
  | [], _ => rfl
  | x :: r, hl => by
    simp only [List.all_cons, Bool.and_eq_true] at hl
    rw [avals, ovals, aval_oval h hl.1, avals_ovals h hl.2]
theorem w1_sound [Memo] {o : Oper} {t : Tr} {τ : Tau} {ds : List Deferred} {s : St} {K : WK} (h : Agr N t τ) (ho : ltOper N o = true) (hw : w1 P ro rnd o τ ds s K) :
    ∃ n v τ' ds' s', astep P ro (ev P ro n) o ⟨t, ds, rnd⟩ s = some (⟨t.put o.dst v, ds', rnd⟩, s') ∧ Agr N (t.put o.dst v) τ' ∧ τ' = tput τ o.dst v ∧ K τ' ds' s' := by
  simp only [ltOper, Bool.and_eq_true] at ho
  obtain ⟨ho, hd⟩ := ho
  have fin : ∀ {r : Option (AR × St)}, aop P ro t o s = r → wfol P ro (fun v s' => K (tput τ o.dst v) ds s') r →
      ∃ n v τ' ds' s', astep P ro (ev P ro n) o ⟨t, ds, rnd⟩ s = some (⟨t.put o.dst v, ds', rnd⟩, s') ∧ Agr N (t.put o.dst v) τ' ∧ τ' = tput τ o.dst v ∧ K τ' ds' s' := by
    intro r e' hw
    unfold astep
    simp only [e']
    cases r with
    | none => exact hw.elim
    | some x =>
    obtain ⟨a, s1⟩ := x
    cases a with
    | val v => exact ⟨0, v, _, ds, s1, by rw [afollow, put_eq], h.put hd v, rfl, hw⟩
    | skip => exact ⟨0, undef, _, ds, s1, by rw [afollow, put_eq], h.put hd undef, rfl, hw⟩
    | enter f args =>
      obtain ⟨n, v, s', e1, hk⟩ := hw
      exact ⟨n, v, _, ds, s', by rw [afollow, e1]; simp only [putV, put_eq], h.put hd v, rfl, hk⟩
    | round l t' assign body =>
      obtain ⟨n, v, s', e1, hk⟩ := hw
      exact ⟨n, v, _, ds, s', by rw [afollow, e1]; simp only [putV, put_eq], h.put hd v, rfl, hk⟩
    | dfr d => exact hw.elim
  have gen : wop P ro (opSub τ o.op) o.type s (fun v s' => K (tput τ o.dst v) ds s') →
      ∃ n v τ' ds' s', astep P ro (ev P ro n) o ⟨t, ds, rnd⟩ s = some (⟨t.put o.dst v, ds', rnd⟩, s') ∧ Agr N (t.put o.dst v) τ' ∧ τ' = tput τ o.dst v ∧ K τ' ds' s' := by
    intro hw
    unfold wop at hw
    cases hn : nilOk (opSub τ o.op) with
    | false => rw [hn] at hw; exact hw.elim
    | true =>
      rw [hn, cond_true] at hw
      cases e : aop P ro .e (mkO (opSub τ o.op) o.type) s with
      | none => rw [e] at hw; exact hw.elim
      | some r => rw [e] at hw; exact fin (aop_sub h ho hn e) hw
  unfold w1 at hw
  split at hw
  · rename_i x hop
    rw [hop] at ho
    refine ⟨0, oval τ x, _, ds, s, ?_, h.put hd _, rfl, hw⟩
    unfold astep
    simp only [aop, hop, afollow, put_eq, aval_oval h ho]
  · rename_i x hop
    rw [hop] at ho
    refine ⟨0, oval τ x, _, ds, s, ?_, h.put hd _, rfl, hw⟩
    unfold astep
    simp only [aop, hop, afollow, put_eq, aval_oval h ho]
  · rename_i c a b hop
    rw [hop] at ho
    simp only [ltOp, Bool.and_eq_true] at ho
    rcases wcond_eq hw with ⟨h1, h2⟩ | ⟨h1, h2⟩
    · refine ⟨0, oval τ a, _, ds, s, ?_, h.put hd _, rfl, h2⟩
      unfold astep
      simp only [aop, hop, aval_oval h ho.1, h1, apick, afollow, put_eq, aval_oval h ho.2.1]
    · refine ⟨0, oval τ b, _, ds, s, ?_, h.put hd _, rfl, h2⟩
      unfold astep
      simp only [aop, hop, aval_oval h ho.1, h1, apick, afollow, put_eq, aval_oval h ho.2.2]
  · rename_i c hop
    obtain ⟨hr, hw⟩ := hw
    subst hr
    unfold wdefer at hw
    cases e : aop P ro .e (mkO (.defer (callSub τ c)) o.type) s with
    | none => rw [e] at hw; exact hw.elim
    | some r =>
      have e' := aop_sub (o := o) h (r := r) (s := s) (P := P) (ro := ro) ho (by rw [hop]; rfl) (by rw [hop]; exact e)
      rw [e] at hw
      obtain ⟨a, s1⟩ := r
      cases a with
      | dfr d =>
        refine ⟨0, undef, _, d :: ds, s1, ?_, h.put hd undef, rfl, hw⟩
        unfold astep
        simp only [e', afollow, adeferTo, put_eq]
      | _ => exact hw.elim
  · rename_i c hop
    split at hw
    · rename_i f hf
      have ho' : ltC N c = true := by rw [hop] at ho; exact ho
      simp only [ltC, hf, Bool.and_eq_true] at ho'
      refine fin (r := acallee (oval τ f) (ovals τ c.args.toList) s) ?_ ?_
      · unfold aop
        simp only [hop, acallOp, hf, aval_oval h ho'.2, avals_ovals h ho'.1]
      · revert hw
        unfold wcall
        split
        · rename_i h1; rw [h1]; exact fun h => h
        · rename_i h1; rw [h1]; exact fun h => h
        · exact fun h => h.elim
    · exact gen (by rw [hop]; exact hw)
  · exact gen hw
theorem wops_sound [Memo] {all : List Oper} (hall : all.all (ltOper N) = true) : ∀ {l : List Oper} {i : Nat} {sk : List Nat} {t : Tr} {τ : Tau} {ds : List Deferred} {s : St} {K : WK}, Agr N t τ → (∀ q, l[q]? = all[i + q]?) → l.all (ltOper N) = true → SkOk all sk τ → wops P ro rnd all l i sk τ ds s K →
    ∃ n t' ds' s' τ', aops P ro (ev P ro n) all l ⟨t, ds, rnd⟩ s = some (⟨t', ds', rnd⟩, s') ∧ Agr N t' τ' ∧ K τ' ds' s'
  | [], _, _, t, τ, ds, s, K, h, _, _, _, hw => ⟨0, t, ds, s, τ, rfl, h, hw⟩
  | o :: r, i, sk, t, τ, ds, s, K, h, hi, hl, hsk, hw => by
    simp only [List.all_cons, Bool.and_eq_true] at hl
    have hi' : ∀ q, r[q]? = all[i + 1 + q]? := fun q => by have := hi (q + 1); rw [List.getElem?_cons_succ] at this; rw [this]; congr 1; omega
    rcases wguard_eq hw h hall hsk with ⟨ha, hw⟩ | ⟨ha, hw⟩
    · obtain ⟨n1, v, τ1, ds1, s1, e1, h1, hτ, hk⟩ := w1_sound h hl.1 hw
      have hsk1 : SkOk all (skPut all sk o.dst) τ1 := by
        rcases hτ with rfl
        exact hsk.put _ _
      obtain ⟨n2, t2, ds2, s2, τ2, e2, h2, hk2⟩ := wops_sound hall h1 hi' hl.2 hsk1 hk
      refine ⟨max n1 n2, t2, ds2, s2, τ2, ?_, h2, hk2⟩
      rw [aops_cons, ha]
      simp only [cond_true]
      rw [astep_mono (ev_mono (Nat.le_max_left n1 n2)) e1]
      exact aops_mono (ev_mono (Nat.le_max_right n1 n2)) e2
    · have hd : ltD N o.dst = true := by
        have := hl.1
        simp only [ltOper, Bool.and_eq_true] at this
        exact this.2
      obtain ⟨n2, t2, ds2, s2, τ2, e2, h2, hk2⟩ := wops_sound hall (h.put hd undef) hi' hl.2 (hsk.skip (by have := hi 0; simpa using this.symm)) hw
      refine ⟨n2, t2, ds2, s2, τ2, ?_, h2, hk2⟩
      rw [aops_cons, ha]
      simp only [cond_false, put_eq]
      exact e2
end
end Go.VE
/- Weakest preconditions of the evaluator: a region that draws its order. -/
namespace Go.VE
open Go
def bitAll (m : Nat) : List Nat → Bool
  | [] => true
  | j :: r => m.testBit j && bitAll m r
theorem bitAll_spec {m : Nat} : ∀ {l : List Nat}, bitAll m l = true → ∀ j ∈ l, m.testBit j = true
  | [], _, j, h => by cases h
  | a :: r, e, j, h => by
    simp only [bitAll, Bool.and_eq_true] at e
    rcases List.mem_cons.1 h with rfl | h
    · exact e.1
    · exact bitAll_spec e.2 j h
def isConv : Op → Bool
  | .convert _ _ _ => true
  | _ => false
def FreshOk (s s' : St) : Prop := ∃ c t, s' = s.new (.cells c t false) ∧ veqL c c = true
def veqD (o : Oper) (τ : Tau) : Prop :=
  match o.dst with
  | some d => veq (τ d) (τ d) = true
  | none => True
def dstFree (o : Oper) : List (Nat × Oper) → Bool
  | [] => true
  | x :: r => dstNe o x.2 && dstFree o r
theorem dstFree_spec {o : Oper} : ∀ {l : List (Nat × Oper)}, dstFree o l = true → ∀ d, o.dst = some d → ∀ x ∈ l, x.2.dst ≠ some d
  | [], _, _, _, x, h => by cases h
  | y :: r, e, d, hd, x, h => by
    simp only [dstFree, Bool.and_eq_true] at e
    rcases List.mem_cons.1 h with rfl | h
    · exact fun h2 => dstNe_spec e.1 hd h2
    · exact dstFree_spec e.2 d hd x h
theorem aload_keep {P : Program} {s s' : St} (h : ∀ A, A < s.n → s'.at A = s.at A) {t : TypeId} {a v : Value} (e : aload P s t a = some v) : aload P s' t a = some v := by
  unfold aload at e ⊢
  split at e
  case h_2 => cases e
  case h_1 A o =>
    cases hs : s.at A with
    | none => rw [hs] at e; cases e
    | some u => rw [h A (St.at_lt hs)]; exact e
theorem afirst_keep {s s' : St} (h : ∀ A, A < s.n → s'.at A = s.at A) {size n : Nat} {x : Value} {c : List Value} (e : afirst s size n x = some c) : afirst s' size n x = some c := by
  unfold afirst at e ⊢
  split at e
  · exact e
  · rename_i A o m l cp
    split at e
    · exact e
    · rename_i k hk
      obtain ⟨hm, e⟩ := bif_some e
      cases hs : s.at A with
      | none => rw [hs] at e; cases e
      | some u =>
        rw [hm, cond_true, h A (St.at_lt hs)]
        exact e
  · exact e
  · cases e
theorem ament_keep {s s' : St} (h : ∀ A, A < s.n → s'.at A = s.at A) {m : Value} {es : List MapEntry} (e : ament s m = some es) : ament s' m = some es := by
  unfold ament at e ⊢
  split at e
  · exact e
  · rename_i A
    cases hs : s.at A with
    | none => rw [hs] at e; cases e
    | some u =>
      rw [hs] at e
      rw [h A (St.at_lt hs), hs]
      exact e
  · cases e
theorem alookup_keep {P : Program} {s s' : St} (h : ∀ A, A < s.n → s'.at A = s.at A) {ty : TypeId} {m k v : Value} {ok : Bool} (e : alookup P s ty m k ok = some v) : alookup P s' ty m k ok = some v := by
  unfold alookup at e ⊢
  split at e
  case h_2 => cases e
  case h_1 kd kt et hty =>
    obtain ⟨i, hi, e1⟩ := bind_some e
    obtain ⟨z, hz, e2⟩ := bind_some e1
    obtain ⟨es, hes, e3⟩ := bind_some e2
    simp only [hi, hz, Option.bind_some, ament_keep h hes]
    exact e3
theorem aop_load_keep {P : Program} {ro : Nat} {t : Tr} {o : Oper} {s s' : St} (h : ∀ A, A < s.n → s'.at A = s.at A) {v : Value} (hk : kindOf o = .load) (e : aop P ro t o s = some (.val v, s)) : aop P ro t o s' = some (.val v, s') := by
  unfold kindOf at hk
  split at hk
  case h_1 => cases hg : o.guard.isNone <;> rw [hg] at hk <;> cases hk
  case h_2 =>
  cases hop : o.op <;> simp only [hop, okind] at hk <;> (try cases hk) <;> simp only [aop, hop] at e ⊢
  case load ty a =>
    obtain ⟨v', h1, h2, _⟩ := withSt_some e
    cases h2
    rw [aload_keep h h1]
    rfl
  case lookup ty x i ok =>
    obtain ⟨v', h1, h2, _⟩ := withSt_some e
    cases h2
    rw [alookup_keep h h1]
    rfl
  case convert src dst x =>
    unfold aconv at e ⊢
    split at e
    · split at e
      · obtain ⟨hu, e⟩ := bif_some e
        obtain ⟨v', h1, h2, _⟩ := withSt_some e
        cases h2
        unfold astr at h1
        obtain ⟨c, hc, h1⟩ := bind_some h1
        rw [hu]
        simp only [cond_true, astr, afirst_keep h hc, Option.bind_some, h1]
        rfl
      · cases e
    · split at e
      · unfold newBytes at e
        split at e
        · have := congrArg (fun x => (x.map fun y => y.2.n).getD 0) e
          simp [St.new] at this
        · cases e
      · exact (aun_some e).2.2 s'
    · exact (aun_some e).2.2 s'
  case call c => split at hk <;> cases hk
inductive Rng where
  | below (n : Nat)
  | blk (p : Nat)
  | ptr (a : Value)
def Keep1 : Rng → St → St → Prop
  | .below n, s, s' => ∀ A, A < n → A < s.n → s'.at A = s.at A
  | .blk p, s, s' => ∀ x, s.at p = some x → s'.at p = some x
  | .ptr a, s, s' => ∀ x y, a = .pointer (some x) → s.at x.block = some y → s'.at x.block = some y
theorem Keep1.refl (s : St) : ∀ g, Keep1 g s s
  | .below _ => fun _ _ _ => rfl
  | .blk _ => fun _ h => h
  | .ptr _ => fun _ _ _ h => h
theorem Keep1.trans {a b c : St} (hn : a.n ≤ b.n) : ∀ {g}, Keep1 g a b → Keep1 g b c → Keep1 g a c
  | .below _, h, k => fun A h1 h2 => (k A h1 (Nat.lt_of_lt_of_le h2 hn)).trans (h A h1 h2)
  | .blk _, h, k => fun x hx => k x (h x hx)
  | .ptr _, h, k => fun x y e hx => k x y e (h x y e hx)
theorem Grew.keep1 {a b : St} (h : Grew a b) : ∀ g, Keep1 g a b
  | .below _ => fun A _ h2 => h.same A h2
  | .blk p => fun x hx => by rw [h.same p (St.at_lt hx)]; exact hx
  | .ptr _ => fun x y _ hx => by rw [h.same x.block (St.at_lt hx)]; exact hx
def rngOf (o : Oper) (τ : Tau) (s : St) : Rng :=
  match o.op with
  | .load _ x => .ptr (oval τ x)
  | _ => .below s.n
structure Keeps (l : List (Nat × Rng)) (s s' : St) : Prop where
  n : s.n ≤ s'.n
  all : ∀ x ∈ l, Keep1 x.2 s s'
theorem Keeps.refl {l : List (Nat × Rng)} (s : St) : Keeps l s s := ⟨Nat.le_refl _, fun x _ => .refl s x.2⟩
theorem Grew.keeps {l : List (Nat × Rng)} {s s' : St} (h : Grew s s') : Keeps l s s' := ⟨h.n, fun x _ => h.keep1 x.2⟩
def opnOf (m : Nat) (l : List (Nat × Rng)) : List (Nat × Rng) := l.filter fun j => !m.testBit j.1
def clsOf (m : Nat) (l : List (Nat × Rng)) : List Nat := (l.filter fun j => m.testBit j.1).map (·.1)
def bimp (b : Bool) (A X : Prop) : Prop := bif b then A ∧ X else X
theorem bimp_spec {b : Bool} {A X : Prop} (h : bimp b A X) : (b = true → A) ∧ X := by
  cases b
  · exact ⟨fun h => (by cases h), h⟩
  · exact ⟨fun _ => h.1, h.2⟩
def wact (ms : List Nat) (hasF : Bool) (i : Nat) (opn : List (Nat × Rng)) (cls : List Nat) (s s' : St) (rest : List (Nat × Rng) → List Nat → Prop) : Prop :=
  bif bitAll (nthN ms i) cls then
    bimp (!(opnOf (nthN ms i) opn).isEmpty) (Keeps (opnOf (nthN ms i) opn) s s') (bimp (hasF && (opnOf (nthN ms i) opn).isEmpty) (s.n ≤ s'.n) (rest (opnOf (nthN ms i) opn) (cls ++ clsOf (nthN ms i) opn)))
  else False
def wskip (ms : List Nat) (i : Nat) (opn : List (Nat × Rng)) (cls : List Nat) (rest : List (Nat × Rng) → List Nat → Prop) : Prop :=
  bif bitAll (nthN ms i) cls then rest (opnOf (nthN ms i) opn) (cls ++ clsOf (nthN ms i) opn) else False
def wrun [Memo] (P : Program) (ro : Nat) (rnd : Option Nat) (all : List Oper) (ms : List Nat) (hasA hasF : Bool) : List (Nat × Oper) → List Nat → List Nat → List (Nat × Rng) → List Nat → Tau → List Deferred → St → WK → Prop
  | [], _, _, _, _, τ, ds, s, K => K τ ds s
  | (i, o) :: r, sk, acts, opn, cls, τ, ds, s, K =>
    wguard all sk o τ
      (fun τ => w1 P ro rnd o τ ds s fun τ' ds' s' =>
        bif isAct o then wact ms hasF i opn cls s s' fun opn cls => wrun P ro rnd all ms hasA hasF r (skPut all sk o.dst) (i :: acts) opn cls τ' ds' s' K
        else bif isLoad o then
          bif bitAll (nthN ms i) acts && dstFree o r then bimp (isConv o.op) (s' = s) (bimp hasA (veqD o τ') (wrun P ro rnd all ms hasA hasF r (skPut all sk o.dst) acts ((i, rngOf o τ s) :: opn) cls τ' ds' s' K)) else False
        else bif isFresh o then
          bif bitAll (nthN ms i) acts then FreshOk s s' ∧ wrun P ro rnd all ms hasA hasF r (skPut all sk o.dst) acts ((i, .blk s.n) :: opn) cls τ' ds' s' K else False
        else wrun P ro rnd all ms hasA hasF r (skPut all sk o.dst) acts opn cls τ' ds' s' K)
      (fun τ => bif isAct o then wskip ms i opn cls fun opn cls => wrun P ro rnd all ms hasA hasF r (i :: skPut all sk o.dst) (i :: acts) opn cls (tput τ o.dst undef) ds s K
        else wrun P ro rnd all ms hasA hasF r (i :: skPut all sk o.dst) acts opn cls (tput τ o.dst undef) ds s K)
def anyAct : List (Nat × Oper) → Bool
  | [] => false
  | x :: r => isAct x.2 || anyAct r
def anyFresh : List (Nat × Oper) → Bool
  | [] => false
  | x :: r => isFresh x.2 || anyFresh r
def wdraw [Memo] (P : Program) (ro : Nat) (rnd : Option Nat) (l : List Oper) (τ : Tau) (ds : List Deferred) (s : St) (K : WK) : Prop :=
  wrun P ro rnd l (masks l) (anyAct (orderOf l)) (anyFresh (orderOf l)) (orderOf l) [] [] [] [] τ ds s K
theorem anyAct_false : ∀ {l : List (Nat × Oper)}, anyAct l = false → ∀ x ∈ l, isAct x.2 = false
  | [], _, x, h => by cases h
  | y :: r, e, x, h => by
    simp only [anyAct, Bool.or_eq_false_iff] at e
    rcases List.mem_cons.1 h with rfl | h
    · exact e.1
    · exact anyAct_false e.2 x h
theorem anyFresh_false : ∀ {l : List (Nat × Oper)}, anyFresh l = false → ∀ x ∈ l, isFresh x.2 = false
  | [], _, x, h => by cases h
  | y :: r, e, x, h => by
    simp only [anyFresh, Bool.or_eq_false_iff] at e
    rcases List.mem_cons.1 h with rfl | h
    · exact e.1
    · exact anyFresh_false e.2 x h
theorem admits_append {ms : List Nat} {j : Nat} {f : St → Bool} {last : St} : ∀ {pre post : List (Nat × St × St)} {pm : Nat}, (∀ x ∈ pre, (nthN ms j).testBit x.1 = true) → (∀ pm, admits ms j f last pm post = true) → admits ms j f last pm (pre ++ post) = true
  | [], _, pm, _, h => h pm
  | (a, s, s1) :: r, post, pm, hp, h => by
    simp only [List.cons_append, admits, hp (a, s, s1) (by simp), Bool.true_or, Bool.or_true, Bool.true_and]
    exact admits_append (fun x hx => hp x (by simp [hx])) h
theorem aload_ptr {P : Program} {s b : St} {t : TypeId} {a v : Value} (h : Keep1 (.ptr a) s b) (e : aload P s t a = some v) : aload P b t a = some v := by
  unfold aload at e ⊢
  split at e
  case h_2 => cases e
  case h_1 A o =>
    cases hs : s.at A with
    | none => rw [hs] at e; cases e
    | some u => rw [hs] at e; rw [h _ u rfl hs]; exact e
theorem stab_load {P : Program} {ro : Nat} {u t : Tr} {o : Oper} {s b : St} {v : Value} {g : Rng} (hk : kindOf o = .load) (hg : g = .below s.n ∨ ∃ ty x, o.op = .load ty x ∧ g = .ptr (aval u x)) (e : aop P ro u o s = some (.val v, s)) (hv : sameR t o.dst s.n (some (.val v, s)) = true) (h : Keep1 g s b) : sameR t o.dst b.n (aop P ro u o b) = true := by
  have key : aop P ro u o b = some (.val v, b) := by
    rcases hg with rfl | ⟨ty, x, hop, rfl⟩
    · exact aop_load_keep (fun A hA => h A hA hA) hk e
    · unfold aop at e ⊢
      rw [hop] at e ⊢
      obtain ⟨v', h1, h2, _⟩ := withSt_some e
      cases h2
      simp only [aload_ptr h h1]
      rfl
  rw [key]
  simp only [sameR, Bool.and_eq_true] at hv ⊢
  exact ⟨Nat.beq_refl _, hv.2⟩
theorem stab_fresh {ob : AO} {p : Nat} {s b : St} {x : AO} (hx : s.at p = some x) (e : sameAO ob (some x) = true) (h : Keep1 (.blk p) s b) : sameAO ob (b.at p) = true := by
  rw [h x hx]; exact e
section
variable {P : Program} {ro N : Nat} {rnd : Option Nat}
structure RunOk (all : List Oper) (ms : List Nat) (hasA hasF : Bool) (l : List (Nat × Oper)) (acts : List Nat) (opn : List (Nat × Rng)) (cls : List Nat) (t : Tr) (s : St) (r : Run) : Prop where
  get : ∀ d, (∀ x ∈ l, x.2.dst ≠ some d) → r.fr.t.get d = t.get d
  opn : ∀ (j : Nat) (g : Rng) (f : St → Bool), (j, g) ∈ opn → (∀ b, s.n ≤ b.n → Keep1 g s b → f b = true) → ∀ pm, admits ms j f r.s pm r.snaps = true
  cls : ∀ j f, j ∈ cls → ∀ pm, pm.testBit j = true → admits ms j f r.s pm r.snaps = true
  nos : hasA = false → r.snaps = []
  lds : hasA = true → ∀ pre : List (Nat × St × St), (∀ x ∈ pre, x.1 ∈ acts) → chkLoads P ro all ms r.fr.t (pre ++ r.snaps) r.s r.lds = true
  nof : hasF = false → r.frs = []
  ns : hasF = true → s.n ≤ r.s.n ∧ ∀ x ∈ r.snaps, s.n ≤ x.2.1.n
  frs : hasF = true → ∀ (pre : List (Nat × St × St)) n0, (∀ x ∈ pre, x.1 ∈ acts ∧ x.2.2.n ≤ s.n) → n0 ≤ s.n → chkFresh ms n0 (pre ++ r.snaps) r.s r.frs = true
  fap : hasF = true → freshApart r.frs = true ∧ ∀ x ∈ r.frs, s.n ≤ x.2.1
theorem clearOf_append {p : Nat} : ∀ {a b : List (Nat × St × St)}, clearOf p a = true → clearOf p b = true → clearOf p (a ++ b) = true
  | [], _, _, h => h
  | x :: r, b, h, k => by
    simp only [List.cons_append, clearOf, Bool.and_eq_true] at h ⊢
    exact ⟨h.1, clearOf_append h.2 k⟩
theorem clearOf_pre {p : Nat} : ∀ {a : List (Nat × St × St)}, (∀ x ∈ a, x.2.2.n ≤ p) → clearOf p a = true
  | [], _ => rfl
  | (i, s, s1) :: r, h => by
    simp only [clearOf, Bool.and_eq_true, Bool.or_eq_true]
    exact ⟨.inr (Nat.ble_eq_true_of_le (h (i, s, s1) (by simp))), clearOf_pre fun x hx => h x (by simp [hx])⟩
theorem clearOf_post {p : Nat} : ∀ {a : List (Nat × St × St)}, (∀ x ∈ a, p < x.2.1.n) → clearOf p a = true
  | [], _ => rfl
  | (i, s, s1) :: r, h => by
    simp only [clearOf, Bool.and_eq_true, Bool.or_eq_true]
    exact ⟨.inl (by rw [Nat.blt_eq]; exact h (i, s, s1) (by simp)), clearOf_post fun x hx => h x (by simp [hx])⟩
theorem RunOk.act {all : List Oper} {ms : List Nat} {hasA hasF : Bool} {l : List (Nat × Oper)} {acts : List Nat} {opn : List (Nat × Rng)} {cls : List Nat} {t : Tr} {s s1 : St} {r : Run} {i : Nat} {o : Oper} {v : Value} (hA : hasA = true)
    (hb : bitAll (nthN ms i) cls = true) (hg : (opnOf (nthN ms i) opn).isEmpty = false → Keeps (opnOf (nthN ms i) opn) s s1) (hn : hasF = true → s.n ≤ s1.n)
    (h : RunOk (P := P) (ro := ro) all ms hasA hasF l (i :: acts) (opnOf (nthN ms i) opn) (cls ++ clsOf (nthN ms i) opn) (t.put o.dst v) s1 r) :
    RunOk (P := P) (ro := ro) all ms hasA hasF ((i, o) :: l) acts opn cls t s { fr := r.fr, s := r.s, snaps := (i, s, s1) :: r.snaps, lds := r.lds, frs := r.frs } := by
  refine ⟨fun d hd => ?_, fun j g f hj hs pm => ?_, fun j f hj pm hpm => ?_, fun hx => (by rw [hA] at hx; cases hx), fun _ pre hp => ?_, h.nof, fun hx => ?_, fun hx pre n0 hp hn0 => ?_, fun hx => ?_⟩
  · rw [h.get d fun x hx => hd x (by simp [hx])]
    have := hd (i, o) (by simp)
    unfold Tr.put
    split
    · rename_i e he
      rw [Tr.get_set, if_neg fun hh => this (by simp only [he]; rw [hh.1])]
    · rfl
  · simp only [admits, hs s (Nat.le_refl _) (.refl s g), Bool.or_true, Bool.true_and]
    cases hbit : (nthN ms i).testBit j with
    | true => exact h.cls j f (List.mem_append.2 (.inr (List.mem_map.2 ⟨(j, g), List.mem_filter.2 ⟨hj, hbit⟩, rfl⟩))) _ hbit
    | false =>
      have hm : (j, g) ∈ opnOf (nthN ms i) opn := List.mem_filter.2 ⟨hj, by simp [hbit]⟩
      have hks : Keeps (opnOf (nthN ms i) opn) s s1 := hg ?_
      · exact h.opn j g f hm (fun b hb hk => hs b (Nat.le_trans hks.n hb) ((hks.all _ hm).trans hks.n hk)) _
      · cases he : (opnOf (nthN ms i) opn).isEmpty with
        | false => rfl
        | true => rw [List.isEmpty_iff.1 he] at hm; cases hm
  · simp only [admits, hpm, Bool.true_or, Bool.true_and]
    exact h.cls j f (List.mem_append.2 (.inl hj)) _ (bitAll_spec hb j hj)
  · have := h.lds hA (pre ++ [(i, s, s1)]) (fun x hx => by
      rcases List.mem_append.1 hx with hx | hx
      · exact List.mem_cons_of_mem _ (hp x hx)
      · rw [List.mem_singleton.1 hx]; exact List.mem_cons_self ..)
    rw [List.append_assoc] at this
    exact this
  · obtain ⟨h1, h2⟩ := h.ns hx
    have := hn hx
    refine ⟨Nat.le_trans this h1, fun x hx => ?_⟩
    rcases List.mem_cons.1 hx with rfl | hx
    · exact Nat.le_refl _
    · exact Nat.le_trans this (h2 x hx)
  · have hle := hn hx
    have := h.frs hx (pre ++ [(i, s, s1)]) n0 (fun x hx => by
      rcases List.mem_append.1 hx with hx | hx
      · exact ⟨List.mem_cons_of_mem _ (hp x hx).1, Nat.le_trans (hp x hx).2 hle⟩
      · rw [List.mem_singleton.1 hx]; exact ⟨List.mem_cons_self .., Nat.le_refl _⟩) (Nat.le_trans hn0 hle)
    rw [List.append_assoc] at this
    exact this
  · obtain ⟨h1, h2⟩ := h.fap hx
    exact ⟨h1, fun x hx' => Nat.le_trans (hn hx) (h2 x hx')⟩
theorem get_put_ne {t : Tr} {dst : Option Tmp} {v : Value} {d : Tmp} (h : dst ≠ some d) : (t.put dst v).get d = t.get d := by
  unfold Tr.put
  split
  · rw [Tr.get_set, if_neg fun hh => h (by rw [hh.1])]
  · rfl
theorem RunOk.still {all : List Oper} {ms : List Nat} {hasA hasF : Bool} {l : List (Nat × Oper)} {acts : List Nat} {opn : List (Nat × Rng)} {cls : List Nat} {t : Tr} {s : St} {r : Run} {i : Nat} {o : Oper} {v : Value}
    (h : RunOk (P := P) (ro := ro) all ms hasA hasF l acts opn cls (t.put o.dst v) s r) : RunOk (P := P) (ro := ro) all ms hasA hasF ((i, o) :: l) acts opn cls t s r :=
  ⟨fun d hd => by rw [h.get d fun x hx => hd x (by simp [hx]), get_put_ne (hd (i, o) (by simp))], h.opn, h.cls, h.nos, h.lds, h.nof, h.ns, h.frs, h.fap⟩
theorem opn_weaken {all : List Oper} {ms : List Nat} {hasA hasF : Bool} {l : List (Nat × Oper)} {acts : List Nat} {opn : List (Nat × Rng)} {cls : List Nat} {t : Tr} {s : St} {r : Run} {i : Nat × Rng} (h : RunOk (P := P) (ro := ro) all ms hasA hasF l acts (i :: opn) cls t s r) :
    RunOk (P := P) (ro := ro) all ms hasA hasF l acts opn cls t s r :=
  ⟨h.get, fun j g f hj => h.opn j g f (List.mem_cons_of_mem _ hj), h.cls, h.nos, h.lds, h.nof, h.ns, h.frs, h.fap⟩
theorem RunOk.idle {all : List Oper} {ms : List Nat} {hasA hasF : Bool} {l : List (Nat × Oper)} {acts : List Nat} {opn : List (Nat × Rng)} {cls : List Nat} {t : Tr} {s : St} {r : Run} {i : Nat} {o : Oper} {v : Value} (hw : awanted all o t = false)
    (h : RunOk (P := P) (ro := ro) all ms hasA hasF l acts opn cls (t.put o.dst v) s r) : RunOk (P := P) (ro := ro) all ms hasA hasF ((i, o) :: l) acts opn cls t s { fr := r.fr, s := r.s, snaps := r.snaps, lds := (i, o, t) :: r.lds, frs := r.frs } :=
  ⟨fun d hd => by rw [h.get d fun x hx => hd x (by simp [hx]), get_put_ne (hd (i, o) (by simp))], h.opn, h.cls, h.nos, fun hA pre hp => by
    simp only [chkLoads, Bool.and_eq_true]
    exact ⟨by simp [chkLoad, hw], h.lds hA pre hp⟩, h.nof, h.ns, h.frs, h.fap⟩
theorem RunOk.load {all : List Oper} {ms : List Nat} {hasA hasF : Bool} {l : List (Nat × Oper)} {acts : List Nat} {opn : List (Nat × Rng)} {cls : List Nat} {t : Tr} {s : St} {r : Run} {i : Nat} {o : Oper} {v : Value} (hk : kindOf o = .load) (hb : bitAll (nthN ms i) acts = true) (hfree : dstFree o l = true)
    (hv : hasA = true → ∀ d, o.dst = some d → t.has d = true ∧ veq v v = true) (hop : aop P ro t o s = some (.val v, s)) {g : Rng} (hgr : g = .below s.n ∨ ∃ ty x, o.op = .load ty x ∧ g = .ptr (aval t x))
    (h : RunOk (P := P) (ro := ro) all ms hasA hasF l acts ((i, g) :: opn) cls (t.put o.dst v) s r) : RunOk (P := P) (ro := ro) all ms hasA hasF ((i, o) :: l) acts opn cls t s { fr := r.fr, s := r.s, snaps := r.snaps, lds := (i, o, t) :: r.lds, frs := r.frs } :=
  ⟨fun d hd => by rw [h.get d fun x hx => hd x (by simp [hx]), get_put_ne (hd (i, o) (by simp))], (opn_weaken h).opn, h.cls, h.nos, fun hA pre hp => by
    simp only [chkLoads, Bool.and_eq_true]
    refine ⟨?_, h.lds hA pre hp⟩
    simp only [chkLoad, Bool.or_eq_true]
    refine .inr (admits_append (fun x hx => bitAll_spec hb _ (hp x hx)) fun pm => ?_)
    refine h.opn i _ _ (List.mem_cons_self ..) (fun b _ hb => stab_load hk hgr hop ?_ hb) pm
    simp only [sameR, Bool.and_eq_true]
    refine ⟨Nat.beq_refl _, ?_⟩
    split
    · rename_i d hd
      obtain ⟨hh, hvv⟩ := hv hA d hd
      rw [h.get d (dstFree_spec hfree d hd)]
      rw [show (t.put o.dst v).get d = v by unfold Tr.put; rw [hd]; simp only [Tr.get_set, hh, and_self, if_true]]
      exact hvv
    · rfl, h.nof, h.ns, h.frs, h.fap⟩
theorem RunOk.fresh {all : List Oper} {ms : List Nat} {hasA hasF : Bool} {l : List (Nat × Oper)} {acts : List Nat} {opn : List (Nat × Rng)} {cls : List Nat} {t : Tr} {s s1 : St} {r : Run} {i : Nat} {o : Oper} {v : Value} (hF : hasF = true) (hb : bitAll (nthN ms i) acts = true)
    (hf : FreshOk s s1) (h : RunOk (P := P) (ro := ro) all ms hasA hasF l acts ((i, .blk s.n) :: opn) cls (t.put o.dst v) s1 r) :
    RunOk (P := P) (ro := ro) all ms hasA hasF ((i, o) :: l) acts opn cls t s { fr := r.fr, s := r.s, snaps := r.snaps, lds := r.lds, frs := (i, s.n, (s1.at s.n).getD .dead) :: r.frs } := by
  obtain ⟨c, ty, rfl, hc⟩ := hf
  have hg : Grew s (s.new (.cells c ty false)) := .new _ _
  have hat : (s.new (.cells c ty false)).at s.n = some (.cells c ty false) := by rw [St.at_new, if_pos rfl]
  have hn : (s.new (.cells c ty false)).n = s.n + 1 := rfl
  have hlt : s.n < (s.new (.cells c ty false)).n := by rw [hn]; omega
  refine ⟨fun d hd => by rw [h.get d fun x hx => hd x (by simp [hx]), get_put_ne (hd (i, o) (by simp))], fun j g f hj hs => h.opn j g f (List.mem_cons_of_mem _ hj) (fun b hb hk => hs b (Nat.le_trans hg.n hb) ((hg.keep1 g).trans hg.n hk)), h.cls, h.nos, h.lds, fun hx => (by rw [hF] at hx; cases hx), fun _ => ?_, fun _ pre n0 hp hn0 => ?_, fun _ => ?_⟩
  · obtain ⟨h1, h2⟩ := h.ns hF
    exact ⟨Nat.le_trans (Nat.le_of_lt hlt) h1, fun x hx => Nat.le_trans (Nat.le_of_lt hlt) (h2 x hx)⟩
  · obtain ⟨h1, h2⟩ := h.ns hF
    simp only [chkFresh, hat, Option.getD_some, Bool.and_eq_true]
    refine ⟨⟨Nat.ble_eq_true_of_le hn0, (by rw [Nat.blt_eq]; exact Nat.lt_of_lt_of_le hlt h1), clearOf_append (clearOf_pre fun x hx => (hp x hx).2) (clearOf_post fun x hx => Nat.lt_of_lt_of_le hlt (h2 x hx)),
      admits_append (fun x hx => bitAll_spec hb _ (hp x hx).1) fun pm => h.opn i _ _ (List.mem_cons_self ..) (fun b _ hb => stab_fresh hat ?_ hb) pm⟩, h.frs hF pre n0 (fun x hx => ⟨(hp x hx).1, Nat.le_trans (hp x hx).2 (Nat.le_of_lt hlt)⟩) (by rw [hn]; omega)⟩
    simp only [sameAO, Nat.beq_refl, Bool.true_and]
    exact hc
  · obtain ⟨h1, h2⟩ := h.fap hF
    refine ⟨?_, fun x hx => ?_⟩
    · simp only [freshApart, Bool.and_eq_true, List.all_eq_true, Bool.not_eq_true']
      refine ⟨fun y hy => ?_, h1⟩
      have := h2 y hy
      rw [hn] at this
      cases hbq : Nat.beq s.n y.2.1 with
      | false => rfl
      | true => have := Nat.eq_of_beq_eq_true hbq; omega
    · rcases List.mem_cons.1 hx with rfl | hx
      · exact Nat.le_refl _
      · have := h2 x hx; rw [hn] at this; omega
theorem load_ops {o : Oper} (hk : kindOf o = .load) : (∃ ty a, o.op = .load ty a) ∨ (∃ ty a b c, o.op = .lookup ty a b c) ∨ ∃ a b c, o.op = .convert a b c := by
  have hz : okind o.op = .load := by
    unfold kindOf at hk
    cases h : okind o.op with
    | fresh => rw [h] at hk; simp only at hk; cases hg : o.guard.isNone <;> rw [hg] at hk <;> cases hk
    | load => rfl
    | _ => rw [h] at hk; cases hk
  cases hop : o.op with
  | load ty a => exact .inl ⟨ty, a, rfl⟩
  | lookup ty a b c => exact .inr (.inl ⟨ty, a, b, c, rfl⟩)
  | convert a b c => exact .inr (.inr ⟨a, b, c, rfl⟩)
  | call c => rw [hop] at hz; simp only [okind] at hz; split at hz <;> cases hz
  | _ => rw [hop] at hz; cases hz
theorem wrun_sound [Memo] {all : List Oper} {ms : List Nat} {hasA hasF : Bool} (hall : all.all (ltOper N) = true) : ∀ {l : List (Nat × Oper)} {sk acts : List Nat} {opn : List (Nat × Rng)} {cls : List Nat} {t : Tr} {τ : Tau} {ds : List Deferred} {s : St} {K : WK},
    Agr N t τ → SkOk all sk τ → (∀ x ∈ l, all[x.1]? = some x.2) → (∀ x ∈ l, ltOper N x.2 = true ∧ isDefer x.2.op = false) → (hasA = false → ∀ x ∈ l, isAct x.2 = false) → (hasF = false → ∀ x ∈ l, isFresh x.2 = false) → wrun P ro rnd all ms hasA hasF l sk acts opn cls τ ds s K →
    ∃ n r τ', arun P ro (ev P ro n) all l ⟨t, ds, rnd⟩ s = some r ∧ r.fr.rnd = rnd ∧ Agr N r.fr.t τ' ∧ K τ' r.fr.ds r.s ∧ RunOk (P := P) (ro := ro) all ms hasA hasF l acts opn cls t s r
  | [], sk, acts, opn, cls, t, τ, ds, s, K, h, _, _, _, _, _, hw =>
    ⟨0, { fr := ⟨t, ds, rnd⟩, s := s, snaps := [], lds := [], frs := [] }, τ, rfl, rfl, h, hw, fun d _ => rfl, fun j g f hj hs pm => (by simp [admits, hs s (Nat.le_refl _) (.refl s g)]), fun j f hj pm hpm => (by simp [admits, hpm]), fun _ => rfl, fun _ pre hp => rfl, fun _ => rfl, fun _ => ⟨Nat.le_refl _, fun x hx => by cases hx⟩, fun _ pre n0 hp hn => rfl, fun _ => ⟨rfl, fun x hx => by cases hx⟩⟩
  | (i, o) :: l, sk, acts, opn, cls, t, τ, ds, s, K, h, hsk, hi, hl, hA, hF, hw => by
    obtain ⟨ho, hnd⟩ := hl (i, o) (by simp)
    simp only at ho hnd
    have hl' : ∀ x ∈ l, ltOper N x.2 = true ∧ isDefer x.2.op = false := fun x hx => hl x (by simp [hx])
    have hA' : hasA = false → ∀ x ∈ l, isAct x.2 = false := fun e x hx => hA e x (by simp [hx])
    have hF' : hasF = false → ∀ x ∈ l, isFresh x.2 = false := fun e x hx => hF e x (by simp [hx])
    have hd : ltD N o.dst = true := by simp only [ltOper, Bool.and_eq_true] at ho; exact ho.2
    have hasA_of : isAct o = true → hasA = true := fun e => by
      cases hh : hasA with
      | true => rfl
      | false => have := hA hh (i, o) (by simp); simp only at this; rw [e] at this; cases this
    have hasF_of : isFresh o = true → hasF = true := fun e => by
      cases hh : hasF with
      | true => rfl
      | false => have := hF hh (i, o) (by simp); simp only at this; rw [e] at this; cases this
    have hi' : ∀ x ∈ l, all[x.1]? = some x.2 := fun x hx => hi x (by simp [hx])
    rcases wguard_eq hw h hall hsk with ⟨ha, hw⟩ | ⟨ha, hw⟩
    · obtain ⟨n1, v, τ1, ds1, s1, e1, h1, hτ, hk⟩ := w1_sound h ho hw
      have hsk1 : SkOk all (skPut all sk o.dst) τ1 := by rw [hτ]; exact hsk.put _ _
      have comb : ∀ {n2 : Nat} {r : Run}, arun P ro (ev P ro n2) all l ⟨t.put o.dst v, ds1, rnd⟩ s1 = some r → quiet o s s1 = true →
          arun P ro (ev P ro (max n1 n2)) all ((i, o) :: l) ⟨t, ds, rnd⟩ s = putOp o i t s s1 (some r) := fun {n2 r} e2 hq => by
        rw [arun, ha]
        simp only [cond_true]
        rw [astep_mono (ev_mono (Nat.le_max_left n1 n2)) e1]
        simp only [arun1, hq, cond_true]
        rw [arun_mono (ev_mono (Nat.le_max_right n1 n2)) e2]
      cases hAct : isAct o with
      | true =>
        have hnl : isLoad o = false := by unfold isAct at hAct; unfold isLoad; cases hk : kindOf o <;> rw [hk] at hAct <;> first | rfl | cases hAct
        have hnf : isFresh o = false := by unfold isAct at hAct; unfold isFresh; cases hk : kindOf o <;> rw [hk] at hAct <;> first | rfl | cases hAct
        rw [hAct] at hk
        simp only [cond_true, wact] at hk
        cases hb : bitAll (nthN ms i) cls with
        | false => rw [hb] at hk; exact hk.elim
        | true =>
          rw [hb] at hk
          simp only [cond_true] at hk
          obtain ⟨hg, hk⟩ := bimp_spec hk
          obtain ⟨hn, hk⟩ := bimp_spec hk
          obtain ⟨n2, r, τ2, e2, hr, h2, hk2, hok⟩ := wrun_sound hall h1 hsk1 hi' hl' hA' hF' hk
          have hg' : (opnOf (nthN ms i) opn).isEmpty = false → Keeps (opnOf (nthN ms i) opn) s s1 := fun e => hg (by rw [e]; rfl)
          have hn' : hasF = true → s.n ≤ s1.n := fun e => by
            cases he : (opnOf (nthN ms i) opn).isEmpty with
            | false => exact (hg' he).n
            | true => exact hn (by rw [e, he]; rfl)
          have := comb e2 (by unfold quiet; rw [hnl]; rfl)
          simp only [putOp, hAct, hnl, hnf, cond_true, cond_false] at this
          exact ⟨_, _, τ2, this, hr, h2, hk2, hok.act (hasA_of hAct) hb hg' hn'⟩
      | false =>
        rw [hAct] at hk
        simp only [cond_false] at hk
        cases hL : isLoad o with
        | true =>
          have hnf : isFresh o = false := by unfold isLoad at hL; unfold isFresh; cases hk : kindOf o <;> rw [hk] at hL <;> first | rfl | cases hL
          have hkind : kindOf o = .load := by unfold isLoad at hL; cases hk : kindOf o <;> rw [hk] at hL <;> first | rfl | cases hL
          rw [hL] at hk
          simp only [cond_true] at hk
          cases hb : (bitAll (nthN ms i) acts && dstFree o l) with
          | false => rw [hb] at hk; exact hk.elim
          | true =>
            rw [hb] at hk
            simp only [cond_true] at hk
            simp only [Bool.and_eq_true] at hb
            obtain ⟨hc, hkB⟩ := bimp_spec hk
            obtain ⟨hv, hkC⟩ := bimp_spec hkB
            have hsame : s1.n = s.n := by
              cases hcv : isConv o.op with
              | true => rw [hc hcv]
              | false =>
                unfold astep at e1
                cases hop : aop P ro t o s with
                | none => simp only [hop] at e1; cases e1
                | some rs =>
                  obtain ⟨x, s2⟩ := rs
                  obtain ⟨w, rfl⟩ := aop_load_val hkind hop
                  simp only [hop, afollow, Option.some.injEq, Prod.mk.injEq] at e1
                  obtain ⟨_, rfl⟩ := e1
                  unfold aop at hop
                  rcases load_ops hkind with ⟨ty, a, h9⟩ | ⟨ty, a, b, c, h9⟩ | ⟨a, b, c, h9⟩
                  · rw [h9] at hop; obtain ⟨_, _, _, rfl⟩ := withSt_some hop; rfl
                  · rw [h9] at hop; obtain ⟨_, _, _, rfl⟩ := withSt_some hop; rfl
                  · rw [h9] at hcv; cases hcv
            have hq : quiet o s s1 = true := by unfold quiet; rw [hsame, Nat.beq_refl]; simp
            obtain ⟨hss, w, hop, hfr⟩ := astep_still hAct hnf e1 (fun _ => hsame)
            subst hss
            rw [put_eq] at hfr
            have hw' : t.put o.dst v = t.put o.dst w := by injection hfr
            obtain ⟨n2, r, τ2, e2, hr, h2, hk2, hok⟩ := wrun_sound hall h1 hsk1 hi' hl' hA' hF' hkC
            have := comb e2 hq
            simp only [putOp, hAct, hL, hnf, cond_true, cond_false] at this
            rw [hw'] at hok
            refine ⟨_, _, τ2, this, hr, h2, hk2, hok.load hkind hb.1 hb.2 (fun hA d hd' => ?_) hop ?_⟩
            · have hlt : d < N := by rw [hd'] at hd; exact blt_lt hd
              refine ⟨h.has d hlt, ?_⟩
              have hvd := hv hA
              unfold veqD at hvd
              rw [hd'] at hvd
              simp only at hvd
              have hwd : τ1 d = w := by
                rw [← h1.get d hlt, hw', hd']
                simp only [Tr.put, Tr.get_set, h.has d hlt, and_self, if_true]
              rw [hwd] at hvd
              exact hvd
            · unfold rngOf
              split
              · rename_i ty x hx
                refine .inr ⟨ty, x, hx, ?_⟩
                have hx' : ltT N x = true := by
                  simp only [ltOper, Bool.and_eq_true] at ho
                  have := ho.1
                  rw [hx] at this
                  simpa [ltOp] using this
                rw [aval_oval h hx']
              · exact .inl rfl
        | false =>
          rw [hL] at hk
          simp only [cond_false] at hk
          cases hf : isFresh o with
          | true =>
            rw [hf] at hk
            simp only [cond_true] at hk
            cases hb : bitAll (nthN ms i) acts with
            | false => rw [hb] at hk; exact hk.elim
            | true =>
              rw [hb] at hk
              simp only [cond_true] at hk
              obtain ⟨hfo, hk⟩ := hk
              obtain ⟨n2, r, τ2, e2, hr, h2, hk2, hok⟩ := wrun_sound hall h1 hsk1 hi' hl' hA' hF' hk
              have := comb e2 (by unfold quiet; rw [hL]; rfl)
              simp only [putOp, hAct, hL, hf, cond_true, cond_false] at this
              exact ⟨_, _, τ2, this, hr, h2, hk2, hok.fresh (hasF_of hf) hb hfo⟩
          | false =>
            rw [hf] at hk
            simp only [cond_false] at hk
            obtain ⟨hss, w, hop, hfr⟩ := astep_still hAct hf e1 (fun e => by rw [hL] at e; cases e)
            subst hss
            obtain ⟨n2, r, τ2, e2, hr, h2, hk2, hok⟩ := wrun_sound hall h1 hsk1 hi' hl' hA' hF' hk
            have := comb e2 (by unfold quiet; rw [hL]; rfl)
            simp only [putOp, hAct, hL, hf, cond_false] at this
            exact ⟨_, _, τ2, this, hr, h2, hk2, hok.still⟩
    · have comb : ∀ {n2 : Nat} {r : Run}, arun P ro (ev P ro n2) all l ⟨t.put o.dst undef, ds, rnd⟩ s = some r →
          arun P ro (ev P ro n2) all ((i, o) :: l) ⟨t, ds, rnd⟩ s = putOp o i t s s (some r) := fun {n2 r} e2 => by
        rw [arun, ha]
        simp only [cond_false, put_eq]
        rw [e2]
      have hnf : isFresh o = false := by
        cases hf : isFresh o with
        | false => rfl
        | true =>
          obtain ⟨_, hg⟩ := fresh_kind hf
          unfold awanted at ha
          rw [hg] at ha
          cases ha
      cases hAct : isAct o with
      | true =>
        have hnl : isLoad o = false := by unfold isAct at hAct; unfold isLoad; cases hk : kindOf o <;> rw [hk] at hAct <;> first | rfl | cases hAct
        rw [hAct] at hw
        simp only [cond_true, wskip] at hw
        cases hb : bitAll (nthN ms i) cls with
        | false => rw [hb] at hw; exact hw.elim
        | true =>
          rw [hb] at hw
          simp only [cond_true] at hw
          obtain ⟨n2, r, τ2, e2, hr, h2, hk2, hok⟩ := wrun_sound hall (h.put hd undef) (hsk.skip (hi (i, o) (by simp))) hi' hl' hA' hF' hw
          have := comb e2
          simp only [putOp, hAct, hnl, hnf, cond_true, cond_false] at this
          exact ⟨_, _, τ2, this, hr, h2, hk2, hok.act (hasA_of hAct) hb (fun _ => .refl _) (fun _ => Nat.le_refl _)⟩
      | false =>
        rw [hAct] at hw
        simp only [cond_false] at hw
        obtain ⟨n2, r, τ2, e2, hr, h2, hk2, hok⟩ := wrun_sound hall (h.put hd undef) (hsk.skip (hi (i, o) (by simp))) hi' hl' hA' hF' hw
        have := comb e2
        simp only [putOp, hAct, hnf, cond_false] at this
        cases hL : isLoad o with
        | false => rw [hL] at this; simp only [cond_false] at this; exact ⟨_, _, τ2, this, hr, h2, hk2, hok.still⟩
        | true => rw [hL] at this; simp only [cond_true] at this; exact ⟨_, _, τ2, this, hr, h2, hk2, hok.idle ha⟩
theorem wdraw_sound [Memo] {ops : Array Oper} (hall : ops.toList.all (ltOper N) = true) (hnd : (ops.toList.all fun o => !isDefer o.op) = true) {t : Tr} {τ : Tau} {ds : List Deferred} {s : St} {K : WK} (h : Agr N t τ) (hw : wdraw P ro rnd ops.toList τ ds s K) :
    ∃ n t' ds' s' τ', aregion P ro (ev P ro n) ops true ⟨t, ds, rnd⟩ s = some (⟨t', ds', rnd⟩, s') ∧ Agr N t' τ' ∧ K τ' ds' s' := by
  obtain ⟨n, r, τ', e, hr, h1, hk, hok⟩ := wrun_sound hall h (sk := []) (fun j hj => by cases hj) (fun x hx => orderOf_mem hx) (fun x hx => by
    have hm := List.mem_of_getElem? (orderOf_mem (x := x) hx)
    exact ⟨List.all_eq_true.1 hall _ hm, by simpa using List.all_eq_true.1 hnd _ hm⟩) anyAct_false anyFresh_false hw
  obtain ⟨⟨t', ds', rnd'⟩, s', snaps, lds, frs⟩ := r
  simp only at hr h1 hk
  subst hr
  refine ⟨n, t', ds', s', τ', ?_, h1, hk⟩
  unfold aregion
  simp only [e, adraw2]
  have c1 : chkFresh (masks ops.toList) s.n snaps s' frs = true ∧ freshApart frs = true := by
    cases hF : anyFresh (orderOf ops.toList) with
    | false => rw [show frs = [] from hok.nof hF]; exact ⟨rfl, rfl⟩
    | true => exact ⟨hok.frs hF [] s.n (fun x hx => by cases hx) (Nat.le_refl _), (hok.fap hF).1⟩
  have c2 : (snaps.isEmpty || chkLoads P ro ops.toList (masks ops.toList) t' snaps s' lds) = true := by
    cases hA : anyAct (orderOf ops.toList) with
    | false => rw [show snaps = [] from hok.nos hA]; rfl
    | true => rw [show chkLoads P ro ops.toList (masks ops.toList) t' snaps s' lds = true from hok.lds hA [] (fun x hx => by cases hx)]; simp
  rw [c1.1, c1.2, c2]
  rfl
end
end Go.VE
/- Weakest preconditions of the evaluator: code, loops, calls. -/
namespace Go.VE
open Go
def exitsIn : Code → List Nat
  | .seq a b => exitsIn a ++ exitsIn b
  | .cond _ a b => exitsIn a ++ exitsIn b
  | .block _ a => exitsIn a
  | .loop a => exitsIn a
  | .scope a => exitsIn a
  | .rangeFunc _ _ a b => exitsIn a ++ exitsIn b
  | .exit id => [id]
  | _ => []
def dedup : List Nat → List Nat → List Nat
  | [], acc => acc.reverse
  | x :: r, acc => bif acc.any (Nat.beq x) then dedup r acc else dedup r (x :: acc)
def exitsOf (c : Code) : List Nat := dedup (exitsIn c) []
def kOf : List (Nat × WK) → Nat → WK
  | [], _ => fun _ _ _ => False
  | (i, k) :: r, j => bif Nat.beq i j then k else kOf r j
def outs (R : WK) (L : List (Nat × WK)) : Ex → WK
  | .normal => fun _ _ _ => False
  | .ret => R
  | .exit id => kOf L id
def thenW (K : WK) (Q : Ex → WK) : Ex → WK
  | .normal => K
  | ex => Q ex
def blkW (id : Nat) (Q : Ex → WK) : Ex → WK
  | .exit j => bif Nat.beq j id then Q .normal else Q (.exit j)
  | ex => Q ex
def notMap : Code → Bool
  | .seq (.region _ ops false) _ => (match ops.toList with
    | o :: _ => (match o.op with
      | .next _ _ => false
      | _ => true)
    | [] => true)
  | _ => true
section
variable [Memo] (P : Program) (ro N : Nat) (rnd : Option Nat)
def Runs (c : Code) (t : Tr) (ds : List Deferred) (s : St) (Q : Ex → WK) : Prop :=
  ∃ n ex t' ds' s' τ', ev P ro n c ⟨t, ds, rnd⟩ s = some (ex, ⟨t', ds', rnd⟩, s') ∧ Agr N t' τ' ∧ Q ex τ' ds' s'
def WLoop (a : Code) (τ : Tau) (ds : List Deferred) (s : St) (R : WK) (L : List (Nat × WK)) : Prop :=
  ∀ t, Agr N t τ → Runs P ro N rnd (.loop a) t ds s (outs R L)
def WRange (g : Value) (ps : Array Tmp) (assign body : Code) (τ : Tau) (ds : List Deferred) (s : St) (K R : WK) (L : List (Nat × WK)) : Prop :=
  ∀ t, Agr N t τ → ∃ n ex ds' s', arange P ro (ev P ro n) g ps assign body ⟨t, ds, rnd⟩ s = some (ex, ⟨t, ds', rnd⟩, s') ∧ thenW K (outs R L) ex τ ds' s'
def wp : Code → Tau → List Deferred → St → (Ex → WK) → Prop
  | .skip, τ, ds, s, Q => Q .normal τ ds s
  | .label _, τ, ds, s, Q => Q .normal τ ds s
  | .region _ ops draw, τ, ds, s, Q => (match draw with
    | true => wdraw P ro rnd ops.toList τ ds s (Q .normal)
    | false => wops P ro rnd ops.toList ops.toList 0 [] τ ds s (Q .normal))
  | .seq a b, τ, ds, s, Q => wp a τ ds s (thenW (fun τ ds s => wp b τ ds s Q) Q)
  | .cond x a b, τ, ds, s, Q => wcond τ x (fun τ => wp a τ ds s Q) (fun τ => wp b τ ds s Q)
  | .block id a, τ, ds, s, Q => wp a τ ds s (blkW id Q)
  | .loop a, τ, ds, s, Q => WLoop P ro N rnd a τ ds s (Q .ret) ((exitsOf a).map fun id => (id, Q (.exit id)))
  | .rangeFunc g ps assign body, τ, ds, s, Q => WRange P ro N rnd (oval τ g) ps assign body τ ds s (Q .normal) (Q .ret) ((exitsOf (.seq assign body)).map fun id => (id, Q (.exit id)))
  | .exit id, τ, ds, s, Q => Q (.exit id) τ ds s
  | .scope a, τ, ds, s, Q => wp a τ ds s Q
  | .goto _, _, _, _, _ => False
  | .ret, τ, ds, s, Q => Q .ret τ ds s
  | .refuse _, _, _, _, _ => False
end
def ltCode (N : Nat) : Code → Bool
  | .region _ ops draw => ops.toList.all (ltOper N) && (!draw || ops.toList.all fun o => !isDefer o.op)
  | .seq a b => ltCode N a && ltCode N b
  | .cond x a b => ltT N x && (ltCode N a && ltCode N b)
  | .block _ a => ltCode N a
  | .loop a => ltCode N a && notMap a
  | .scope a => ltCode N a
  | .rangeFunc g ps assign body => ltT N g && (ps.toList.all (fun p => Nat.blt p N) && (ltCode N assign && ltCode N body))
  | _ => true
section
variable {P : Program} {ro N : Nat} {rnd : Option Nat}
theorem kOf_map {Q : Ex → WK} : ∀ {l : List Nat} {id : Nat} {τ : Tau} {ds : List Deferred} {s : St}, kOf (l.map fun id => (id, Q (.exit id))) id τ ds s → Q (.exit id) τ ds s
  | [], _, _, _, _, h => h.elim
  | i :: r, id, τ, ds, s, h => by
    simp only [List.map_cons, kOf] at h
    cases hb : Nat.beq i id with
    | true => rw [hb] at h; rw [← Nat.eq_of_beq_eq_true hb]; exact h
    | false => rw [hb] at h; exact kOf_map h
theorem outs_Q {Q : Ex → WK} {l : List Nat} {ex : Ex} {τ : Tau} {ds : List Deferred} {s : St} (h : outs (Q .ret) (l.map fun id => (id, Q (.exit id))) ex τ ds s) : Q ex τ ds s := by
  cases ex with
  | normal => exact h.elim
  | ret => exact h
  | exit id => exact kOf_map h
theorem mapHead_none {ro : Nat} {c : Code} {fr : Fr} {s : St} (h : notMap c = true) : mapHead ro c fr s = none := by
  unfold mapHead
  split
  · rename_i id ops rest
    unfold mapHead0
    simp only [notMap] at h
    split
    · rename_i o os ho
      rw [ho] at h
      simp only at h
      split
      · rename_i it hop _; rw [hop] at h; cases h
      · rfl
    · rfl
  · rfl
theorem ev_succ [Memo] (n : Nat) (c : Code) (fr : Fr) (s : St) : ev P ro (n + 1) c fr s = acode P ro (ev P ro n) c fr s := rfl
theorem wp_sound [Memo] : ∀ (c : Code) {t : Tr} {τ : Tau} {ds : List Deferred} {s : St} {Q : Ex → WK}, ltCode N c = true → Agr N t τ → wp P ro N rnd c τ ds s Q → Runs P ro N rnd c t ds s Q
  | .skip, t, τ, ds, s, Q, _, h, hw => ⟨1, .normal, t, ds, s, τ, rfl, h, hw⟩
  | .label _, t, τ, ds, s, Q, _, h, hw => ⟨1, .normal, t, ds, s, τ, rfl, h, hw⟩
  | .region i ops draw, t, τ, ds, s, Q, hl, h, hw => by
    simp only [ltCode, Bool.and_eq_true] at hl
    cases draw with
    | false =>
      obtain ⟨n, t', ds', s', τ', e, h1, hk⟩ := wops_sound hl.1 h (fun q => by rw [Nat.zero_add]) hl.1 (fun j hj => by cases hj) hw
      exact ⟨n + 1, .normal, t', ds', s', τ', by rw [ev_succ, acode, aregion, e]; rfl, h1, hk⟩
    | true =>
      obtain ⟨n, t', ds', s', τ', e, h1, hk⟩ := wdraw_sound hl.1 (by simpa using hl.2) h hw
      exact ⟨n + 1, .normal, t', ds', s', τ', by rw [ev_succ, acode, e]; rfl, h1, hk⟩
  | .seq a b, t, τ, ds, s, Q, hl, h, hw => by
    simp only [ltCode, Bool.and_eq_true] at hl
    obtain ⟨n, ex, t1, ds1, s1, τ1, e, h1, hk⟩ := wp_sound a hl.1 h hw
    cases ex with
    | normal =>
      obtain ⟨n2, ex2, t2, ds2, s2, τ2, e2, h2, hk2⟩ := wp_sound b hl.2 h1 hk
      refine ⟨max n n2 + 1, ex2, t2, ds2, s2, τ2, ?_, h2, hk2⟩
      rw [ev_succ, acode, ev_mono (Nat.le_max_left n n2) _ _ _ _ e]
      exact ev_mono (Nat.le_max_right n n2) _ _ _ _ e2
    | exit id => exact ⟨n + 1, .exit id, t1, ds1, s1, τ1, by rw [ev_succ, acode, e]; rfl, h1, hk⟩
    | ret => exact ⟨n + 1, .ret, t1, ds1, s1, τ1, by rw [ev_succ, acode, e]; rfl, h1, hk⟩
  | .cond x a b, t, τ, ds, s, Q, hl, h, hw => by
    simp only [ltCode, Bool.and_eq_true] at hl
    rcases wcond_eq hw with ⟨hx, hk⟩ | ⟨hx, hk⟩
    · obtain ⟨n, ex, t1, ds1, s1, τ1, e, h1, hk⟩ := wp_sound a hl.2.1 h hk
      exact ⟨n + 1, ex, t1, ds1, s1, τ1, by rw [ev_succ, acode, aval_oval h hl.1, hx]; exact e, h1, hk⟩
    · obtain ⟨n, ex, t1, ds1, s1, τ1, e, h1, hk⟩ := wp_sound b hl.2.2 h hk
      exact ⟨n + 1, ex, t1, ds1, s1, τ1, by rw [ev_succ, acode, aval_oval h hl.1, hx]; exact e, h1, hk⟩
  | .block id a, t, τ, ds, s, Q, hl, h, hw => by
    obtain ⟨n, ex, t1, ds1, s1, τ1, e, h1, hk⟩ := wp_sound a (by simpa only [ltCode] using hl) h hw
    cases ex with
    | normal => exact ⟨n + 1, .normal, t1, ds1, s1, τ1, by rw [ev_succ, acode, e]; rfl, h1, hk⟩
    | ret => exact ⟨n + 1, .ret, t1, ds1, s1, τ1, by rw [ev_succ, acode, e]; rfl, h1, hk⟩
    | exit j =>
      simp only [blkW] at hk
      cases hb : Nat.beq j id with
      | true => rw [hb] at hk; exact ⟨n + 1, .normal, t1, ds1, s1, τ1, by rw [ev_succ, acode, e]; simp only [blockE, hb, cond_true], h1, hk⟩
      | false => rw [hb] at hk; exact ⟨n + 1, .exit j, t1, ds1, s1, τ1, by rw [ev_succ, acode, e]; simp only [blockE, hb, cond_false], h1, hk⟩
  | .loop a, t, τ, ds, s, Q, hl, h, hw => by
    obtain ⟨n, ex, t1, ds1, s1, τ1, e, h1, hk⟩ := hw t h
    exact ⟨n, ex, t1, ds1, s1, τ1, e, h1, outs_Q hk⟩
  | .rangeFunc g ps assign body, t, τ, ds, s, Q, hl, h, hw => by
    simp only [ltCode, Bool.and_eq_true] at hl
    obtain ⟨n, ex, ds1, s1, e, hk⟩ := hw t h
    refine ⟨n + 1, ex, t, ds1, s1, τ, by rw [ev_succ, acode, aval_oval h hl.1]; exact e, h, ?_⟩
    cases ex with
    | normal => exact hk
    | ret => exact hk
    | exit id => exact kOf_map hk
  | .exit id, t, τ, ds, s, Q, _, h, hw => ⟨1, .exit id, t, ds, s, τ, rfl, h, hw⟩
  | .scope a, t, τ, ds, s, Q, hl, h, hw => by
    obtain ⟨n, ex, t1, ds1, s1, τ1, e, h1, hk⟩ := wp_sound a (by simpa only [ltCode] using hl) h hw
    exact ⟨n + 1, ex, t1, ds1, s1, τ1, e, h1, hk⟩
  | .goto _, _, _, _, _, _, _, _, hw => hw.elim
  | .ret, t, τ, ds, s, Q, _, h, hw => ⟨1, .ret, t, ds, s, τ, rfl, h, hw⟩
  | .refuse _, _, _, _, _, _, _, _, hw => hw.elim
theorem wloop [Memo] {α : Sort _} {a : Code} {R : WK} {L : List (Nat × WK)} (hl : ltCode N a = true) (hm : notMap a = true) (I : α → Tau → List Deferred → St → Prop) (m : α → Nat)
    (step : ∀ x τ ds s, I x τ ds s → wp P ro N rnd a τ ds s (thenW (fun τ ds s => ∃ y, m y < m x ∧ I y τ ds s) (outs R L))) (x0 : α) {τ : Tau} {ds : List Deferred} {s : St} (h0 : I x0 τ ds s) : WLoop P ro N rnd a τ ds s R L := by
  intro t h
  generalize hk : m x0 = k
  induction k using Nat.strongRecOn generalizing x0 t τ ds s with
  | ind k ih =>
    obtain ⟨n, ex, t1, ds1, s1, τ1, e, h1, hq⟩ := wp_sound a hl h (step x0 τ ds s h0)
    cases ex with
    | normal =>
      obtain ⟨y, hy, hI⟩ := hq
      obtain ⟨n2, ex2, t2, ds2, s2, τ2, e2, h2, hq2⟩ := ih (m y) (hk ▸ hy) y hI t1 h1 rfl
      refine ⟨max n n2 + 1, ex2, t2, ds2, s2, τ2, ?_, h2, hq2⟩
      rw [ev_succ, acode, mapHead_none hm, aloop, ev_mono (Nat.le_max_left n n2) _ _ _ _ e]
      exact ev_mono (Nat.le_max_right n n2) _ _ _ _ e2
    | exit id => exact ⟨n + 1, .exit id, t1, ds1, s1, τ1, by rw [ev_succ, acode, mapHead_none hm, aloop, e]; rfl, h1, hq⟩
    | ret => exact ⟨n + 1, .ret, t1, ds1, s1, τ1, by rw [ev_succ, acode, mapHead_none hm, aloop, e]; rfl, h1, hq⟩
end
def tau0 (args : List Value) : Tau := fun i => match nth0 args i with | some v => v | none => undef
where nth0 : List Value → Nat → Option Value
  | [], _ => none
  | v :: r, i => match i with
    | 0 => some v
    | j + 1 => nth0 r j
theorem nth0_eq : ∀ (l : List Value) (i : Nat), tau0.nth0 l i = l[i]?
  | [], i => by simp [tau0.nth0]
  | v :: r, 0 => by simp [tau0.nth0]
  | v :: r, i + 1 => by simp [tau0.nth0, nth0_eq r i]
section
variable [Memo] (P : Program) (ro : Nat)
def wresL (τ : Tau) (s : St) (K : List Value → Prop) : List ResultVar → List Value → Prop
  | [], acc => K acc.reverse
  | .tmp i :: r, acc => wresL τ s K r (τ i :: acc)
  | .cell a ty :: r, acc => wop P ro (.load ty (.const (τ a))) ty s fun v _ => wresL τ s K r (v :: acc)
def DeferWP (k : FuncId) (args : List Value) (s : St) (K : St → Prop) : Prop := ∃ n s', adefer1 P (abody P (ev P ro n) k args s) = some s' ∧ K s'
def wdefers : List Deferred → St → (St → Prop) → Prop
  | [], s, K => K s
  | d :: ds, s, K =>
    match d.target with
    | .fn (.func k) cap => DeferWP P ro k (d.args.toList ++ cap.toList) s fun s' => wdefers ds s' K
    | .collected r => s.at r = some (.defd (some [])) ∧ ro ≤ r ∧ wdefers ds (s.put r (.defd none)) K
    | _ => False
def wfin (s0 : St) (K : Value → St → Prop) (v : Value) (s : St) : Prop := K (afinish s0 v s).1 (afinish s0 v s).2
def wleave (s0 : St) (rs : List ResultVar) (K : Value → St → Prop) : Ex → WK
  | .exit _ => fun _ _ _ => False
  | _ => fun τ ds s => wdefers P ro ds s fun s => wresL P ro τ s (fun vs => wfin s0 K (tupled vs) s) rs []
def wbody (N : Nat) (fn : Func) (c : Code) (args : List Value) (s : St) (K : Value → St → Prop) : Prop :=
  wp P ro N none c (tau0 args) [] { h := s.h, n := s.n, lo := s.n } (wleave P ro s fn.results.toList K)
end
section
variable {P : Program} {ro N : Nat}
theorem tree_agr (n : Nat) (args : List Value) : Agr (max n args.length) (tree (max n args.length) args) (tau0 args) :=
  ⟨fun i hi => by rw [tree_has]; exact decide_eq_true hi, fun i hi => by
    unfold tau0
    rw [nth0_eq]
    unfold tree
    rw [Tr.fill_get _ _ _ _ (fun k hk => by rw [Tr.mk_has _ _ (Nat.le_refl _)]; simp; omega), Tr.mk_get]
    simp only [Nat.zero_le, if_true, Nat.sub_zero]
    cases args[i]? <;> rfl⟩
theorem load_some [Memo] {ty ty' : TypeId} {v : Value} {s : St} {K : Value → St → Prop} (h : wop P ro (.load ty (.const v)) ty' s K) : ∃ u, aload P s ty v = some u ∧ K u s := by
  simp only [wop, nilOk, cond_true, aop, mkO, aval] at h
  cases e : aload P s ty v with
  | none => rw [e] at h; exact h.elim
  | some u => rw [e] at h; exact ⟨u, rfl, h⟩
theorem wresL_sound [Memo] {t : Tr} {τ : Tau} {s : St} (h : Agr N t τ) {K : List Value → Prop} : ∀ {rs : List ResultVar} {acc : List Value}, (rs.all fun r => match r with | .tmp i => Nat.blt i N | .cell a _ => Nat.blt a N) = true → wresL P ro τ s K rs acc →
    ∃ vs, aresultL P t s rs = some vs ∧ K (acc.reverse ++ vs)
  | [], acc, _, hw => ⟨[], rfl, by rw [List.append_nil]; exact hw⟩
  | .tmp i :: r, acc, hr, hw => by
    simp only [List.all_cons, Bool.and_eq_true] at hr
    obtain ⟨vs, e, hk⟩ := wresL_sound h hr.2 hw
    refine ⟨τ i :: vs, ?_, by simpa using hk⟩
    rw [aresultL, aresult, h.get i (blt_lt hr.1)]
    simp only [e, Option.map_some]
  | .cell a ty :: r, acc, hr, hw => by
    simp only [List.all_cons, Bool.and_eq_true] at hr
    obtain ⟨u, e1, hw⟩ := load_some hw
    obtain ⟨vs, e, hk⟩ := wresL_sound h hr.2 hw
    refine ⟨u :: vs, ?_, by simpa using hk⟩
    rw [aresultL, aresult, h.get a (blt_lt hr.1), e1]
    simp only [e, Option.map_some]
theorem adefers_sound [Memo] : ∀ {ds : List Deferred} {s : St} {K : St → Prop}, wdefers P ro ds s K → ∃ n s', adefers P ro (ev P ro n) ds s = some s' ∧ K s'
  | [], s, K, h => ⟨0, s, rfl, h⟩
  | d :: ds, s, K, h => by
    unfold wdefers at h
    split at h
    · rename_i k cap ht
      obtain ⟨n, s1, e, h⟩ := h
      obtain ⟨n2, s2, e2, h2⟩ := adefers_sound h
      refine ⟨max n n2, s2, ?_, h2⟩
      rw [adefers]
      simp only [ht]
      cases hb : abody P (ev P ro n) k (d.args.toList ++ cap.toList) s with
      | none => rw [hb] at e; cases e
      | some x =>
        rw [hb] at e
        rw [abody_mono (ev_mono (Nat.le_max_left n n2)) hb, e]
        exact adefers_mono (ev_mono (Nat.le_max_right n n2)) _ e2
    · rename_i r ht
      obtain ⟨hs, hr, h⟩ := h
      obtain ⟨n2, s2, e2, h2⟩ := adefers_sound h
      refine ⟨n2, s2, ?_, h2⟩
      rw [adefers]
      simp only [ht, acollect, hs, Nat.ble_eq_true_of_le hr, cond_true]
      exact e2
    · exact h.elim
def ltRes (N : Nat) (rs : List ResultVar) : Bool := rs.all fun r => match r with | .tmp i => Nat.blt i N | .cell a _ => Nat.blt a N
structure BodyOk (P : Program) (N k : Nat) (f : FuncId) (fn : Func) (c : Code) : Prop where
  func : P.funcs[f]? = some fn
  ok : okFunc P fn = true
  body : fn.body = some c
  n : max fn.ntmps k = N
  lt : ltCode N c = true
  res : ltRes N fn.results.toList = true
theorem call_wp [Memo] {f : FuncId} {fn : Func} {c : Code} {args : List Value} {s : St} {K : Value → St → Prop} (hb : BodyOk P N args.length f fn c) (hm : mlook s f args = none) (hw : wbody P ro N fn c args s K) : CallWP P ro f args s K := by
  have ha := tree_agr fn.ntmps args
  rw [hb.n] at ha
  obtain ⟨n, ex, t', ds', s', τ', e, h1, hk⟩ := wp_sound c hb.lt ha hw
  have hleave : ∃ n2 s2 vs, adefers P ro (ev P ro n2) ds' s' = some s2 ∧ aresultL P t' s2 fn.results.toList = some vs ∧ wfin s K (tupled vs) s2 ∧ (ex = .normal ∨ ex = .ret) := by
    have key : wdefers P ro ds' s' (fun s2 => wresL P ro τ' s2 (fun vs => wfin s K (tupled vs) s2) fn.results.toList []) → ∃ n2 s2 vs, adefers P ro (ev P ro n2) ds' s' = some s2 ∧ aresultL P t' s2 fn.results.toList = some vs ∧ wfin s K (tupled vs) s2 := fun hk => by
      obtain ⟨n2, s2, e2, hr⟩ := adefers_sound hk
      obtain ⟨vs, e3, hf⟩ := wresL_sound h1 hb.res hr
      exact ⟨n2, s2, vs, e2, e3, by simpa using hf⟩
    cases ex with
    | exit id => exact hk.elim
    | normal => obtain ⟨n2, s2, vs, a, b, c⟩ := key hk; exact ⟨n2, s2, vs, a, b, c, .inl rfl⟩
    | ret => obtain ⟨n2, s2, vs, a, b, c⟩ := key hk; exact ⟨n2, s2, vs, a, b, c, .inr rfl⟩
  obtain ⟨n2, s2, vs, e2, e3, hf, hex⟩ := hleave
  refine ⟨max n n2, (afinish s (tupled vs) s2).1, (afinish s (tupled vs) s2).2, ?_, hf⟩
  unfold acall
  rw [hm]
  simp only [amemo, acall0, abody, hb.func, hb.ok, hb.body, hb.n, cond_true]
  rw [ev_mono (Nat.le_max_left n n2) _ _ _ _ e]
  have hlv : leaves fn (some (ex, (⟨t', ds', none⟩ : Fr), s')) = some (fn, ⟨t', ds', none⟩, s') := by rcases hex with rfl | rfl <;> rfl
  rw [hlv]
  simp only [acall1]
  rw [adefers_mono (ev_mono (Nat.le_max_right n n2)) _ e2]
  simp only [aresults, e3, Option.map_some]
theorem call_known [Memo] {f : FuncId} {args : List Value} {s : St} {K : Value → St → Prop} {v : Value} (hm : mlook s f args = some v) (hk : K v s) : CallWP P ro f args s K :=
  ⟨0, v, s, by unfold acall; rw [hm]; rfl, hk⟩
theorem CallWP.mono [Memo] {f : FuncId} {args : List Value} {s : St} {K K' : Value → St → Prop} (h : CallWP P ro f args s K) (hk : ∀ v s', K v s' → K' v s') : CallWP P ro f args s K' := by
  obtain ⟨n, v, s', e, h⟩ := h
  exact ⟨n, v, s', e, hk v s' h⟩
theorem round_wp [Memo] {l : Nat} {t : Tr} {τ : Tau} {assign body : Code} {s : St} {K : Value → St → Prop} (ht : Agr N t τ) (ha : ltCode N assign = true) (hb : ltCode N body = true) (hl : ro ≤ l)
    (hw : wp P ro N (some l) assign τ [] s (thenW (fun τ ds s => ∃ r, s.at l = some (.loop r) ∧ r.state = .ready ∧ wp P ro N (some l) body τ ds (s.put l (.loop { r with state := .busy })) fun ex _ _ s =>
      ∃ r, s.at l = some (.loop r) ∧ K (.bool (jumpOf ex).isNone) (s.put l (.loop { r with state := if (jumpOf ex).isNone then .ready else .done, pending := jumpOf ex }))) fun _ _ _ _ => False)) : RoundWP P ro l t assign body s K := by
  obtain ⟨n, ex, t1, ds1, s1, τ1, e, h1, hk⟩ := wp_sound assign ha ht hw
  cases ex with
  | exit id => exact hk.elim
  | ret => exact hk.elim
  | normal =>
    obtain ⟨r, hr, hst, hw⟩ := hk
    obtain ⟨n2, ex2, t2, ds2, s2, τ2, e2, h2, r2, hr2, hk⟩ := wp_sound body hb h1 hw
    refine ⟨max n n2, _, _, ?_, hk⟩
    unfold around
    rw [ev_mono (Nat.le_max_left n n2) _ _ _ _ e]
    simp only [hr, around2, hst, Nat.ble_eq_true_of_le hl, cond_true]
    rw [ev_mono (Nat.le_max_right n n2) _ _ _ _ e2]
    simp only [around3, hr2, Nat.ble_eq_true_of_le hl, cond_true]
theorem wrange [Memo] {k : FuncId} {first cap : Array Value} {ps : Array Tmp} {assign body : Code} {τ : Tau} {ds : List Deferred} {s : St} {K R : WK} {L : List (Nat × WK)} (hro : ro ≤ s.n + 1)
    (hw : ∀ t, Agr N t τ → CallWP P ro k (first.toList ++ (Value.func (.yield (s.n + 1)) (.mk []) (.mk []) :: cap.toList)) ((s.new (.defd (some []))).new (.loop { state := .ready, pending := none, t := t, params := ps.toList, assign := assign, body := body, defers := s.n }))
      fun _ s' => ∃ r ex, s'.at (s.n + 1) = some (.loop r) ∧ (r.state = .ready ∨ r.state = .done) ∧ pendEx r.pending = some ex ∧ thenW K (outs R L) ex τ ({ target := .collected s.n, args := #[] } :: ds) (s'.put (s.n + 1) (.loop { r with state := .exhausted }))) :
    WRange P ro N none (.func (.func k) first cap) ps assign body τ ds s K R L := by
  intro t ht
  obtain ⟨n, v, s', e, r, ex, hr, hst, hp, hk⟩ := hw t ht
  refine ⟨n, ex, _, _, ?_, hk⟩
  unfold arange
  simp only [arange1, e, arange2, arange3, hr]
  rcases hst with hst | hst <;> simp only [hst, hp, Nat.ble_eq_true_of_le hro, cond_true]
end
end Go.VE
/- Weakest preconditions of the evaluator: names for what a program prints. -/
namespace Go.VE
open Go
def T (τ : Tau) : List (Nat × Value) → Tau
  | [] => τ
  | p :: r => T (tset τ p.1 p.2) r
def bodyOf (f : Func) : Code :=
  match f.body with
  | some c => c
  | none => .skip
def subCode : List Nat → Code → Code
  | [], c => c
  | i :: p, c =>
    match c, i with
    | .seq a _, 0 => subCode p a
    | .seq _ b, _ => subCode p b
    | .cond _ a _, 0 => subCode p a
    | .cond _ _ b, _ => subCode p b
    | .block _ a, _ => subCode p a
    | .loop a, _ => subCode p a
    | .scope a, _ => subCode p a
    | .rangeFunc _ _ a _, 0 => subCode p a
    | .rangeFunc _ _ _ b, _ => subCode p b
    | _, _ => .skip
def ent (s : St) : St := { h := s.h, n := s.n, lo := s.n }
end Go.VE
/- Weakest preconditions of the evaluator, so written that the kernel carries them out fast: frames are lists. -/
namespace Go.VE
open Go
abbrev AL := List (Nat × Value)
abbrev XK := Tau → AL → List Deferred → St → Prop
def U (τ : Tau) : AL → Tau
  | [] => τ
  | p :: r => tset (U τ r) p.1 p.2
def rd (τ : Tau) (i : Nat) (K : Value → Prop) : AL → Prop
  | [] => K (τ i)
  | p :: r => bif Nat.beq i p.1 then K p.2 else rd τ i K r
theorem rd_eq {τ : Tau} {i : Nat} {K : Value → Prop} : ∀ {l : AL}, rd τ i K l = K (U τ l i)
  | [] => rfl
  | p :: r => by
    simp only [rd, U, tset]
    cases Nat.beq i p.1 with
    | true => rfl
    | false => exact rd_eq
def rdO (τ : Tau) (l : AL) (x : Operand) (K : Value → Prop) : Prop :=
  match x with
  | .tmp i => rd τ i K l
  | .const v => K v
  | .global g => K (.pointer (some ⟨g, 0, none⟩))
  | .func f => K (.func (.func f) (.mk []) (.mk []))
theorem rdO_eq {τ : Tau} {l : AL} {x : Operand} {K : Value → Prop} : rdO τ l x K = K (oval (U τ l) x) := by
  cases x with
  | tmp i => exact rd_eq
  | _ => rfl
def rdV (τ : Tau) (l : AL) : List Operand → (List Value → Prop) → Prop
  | [], K => K []
  | x :: r, K => rdO τ l x fun v => rdV τ l r fun vs => K (v :: vs)
theorem rdV_eq {τ : Tau} {l : AL} : ∀ {xs : List Operand} {K : List Value → Prop}, rdV τ l xs K = K (ovals (U τ l) xs)
  | [], K => rfl
  | x :: r, K => by simp only [rdV, rdO_eq, rdV_eq, ovals]
def rdC (τ : Tau) (l : AL) : List Operand → (List Operand → Prop) → Prop
  | [], K => K []
  | x :: r, K => rdO τ l x fun v => rdC τ l r fun vs => K (.const v :: vs)
theorem rdC_eq {τ : Tau} {l : AL} : ∀ {xs : List Operand} {K : List Operand → Prop}, rdC τ l xs K = K (xs.map (osub (U τ l)))
  | [], K => rfl
  | x :: r, K => by simp only [rdC, rdO_eq, rdC_eq, List.map_cons, osub]
def rdP (τ : Tau) (l : AL) : List (Nat × Operand) → (List (Nat × Operand) → Prop) → Prop
  | [], K => K []
  | p :: r, K => rdO τ l p.2 fun v => rdP τ l r fun vs => K ((p.1, .const v) :: vs)
theorem rdP_eq {τ : Tau} {l : AL} : ∀ {xs : List (Nat × Operand)} {K : List (Nat × Operand) → Prop}, rdP τ l xs K = K (subParts (U τ l) xs)
  | [], K => rfl
  | x :: r, K => by simp only [rdP, rdO_eq, rdP_eq, subParts, List.map_cons, osub]
def rdM (τ : Tau) (l : AL) : Option Operand → (Option Operand → Prop) → Prop
  | none, K => K none
  | some x, K => rdO τ l x fun v => K (some (.const v))
theorem rdM_eq {τ : Tau} {l : AL} {x : Option Operand} {K : Option Operand → Prop} : rdM τ l x K = K (x.map (osub (U τ l))) := by
  cases x with
  | none => rfl
  | some y => simp only [rdM, rdO_eq, Option.map_some, osub]
def xcall (τ : Tau) (l : AL) (c : Call) (K : Call → Prop) : Prop :=
  match c.callee with
  | .value f => rdO τ l f fun v => rdC τ l c.args.toList fun as => K ⟨.value (.const v), ⟨as⟩, c.argTypes⟩
  | .invoke r m => rdO τ l r fun v => rdC τ l c.args.toList fun as => K ⟨.invoke (.const v) m, ⟨as⟩, c.argTypes⟩
  | .builtin b => rdC τ l c.args.toList fun as => K ⟨.builtin b, ⟨as⟩, c.argTypes⟩
theorem xcall_eq {τ : Tau} {l : AL} {c : Call} {K : Call → Prop} : xcall τ l c K = K (callSub (U τ l) c) := by
  obtain ⟨callee, args, tys⟩ := c
  cases callee <;> simp only [xcall, rdO_eq, rdC_eq, callSub, calleeSub, osub]
def xsub (τ : Tau) (l : AL) (o : Op) (K : Op → Prop) : Prop :=
  match o with
  | .move x => rdO τ l x fun x => K (.move (.const x))
  | .assign x => rdO τ l x fun x => K (.assign (.const x))
  | .pick c a b => rdO τ l c fun c => rdO τ l a fun a => rdO τ l b fun b => K (.pick (.const c) (.const a) (.const b))
  | .box e x => rdO τ l x fun x => K (.box e (.const x))
  | .build t ps => rdP τ l ps.toList fun ps => K (.build t ⟨ps⟩)
  | .buildSlice t n ps => rdP τ l ps.toList fun ps => K (.buildSlice t n ⟨ps⟩)
  | .insert t m k v => rdO τ l m fun m => rdO τ l k fun k => rdO τ l v fun v => K (.insert t (.const m) (.const k) (.const v))
  | .load t a => rdO τ l a fun a => K (.load t (.const a))
  | .store t a x => rdO τ l a fun a => rdO τ l x fun x => K (.store t (.const a) (.const x))
  | .nilCheck x => rdO τ l x fun x => K (.nilCheck (.const x))
  | .binOp o t x y r => rdO τ l x fun x => rdO τ l y fun y => K (.binOp o t (.const x) (.const y) r)
  | .unOp o t x => rdO τ l x fun x => K (.unOp o t (.const x))
  | .convert s d x => rdO τ l x fun x => K (.convert s d (.const x))
  | .sliceToArrayPointer d x => rdO τ l x fun x => K (.sliceToArrayPointer d (.const x))
  | .makeFunc f a c => rdC τ l a.toList fun a => rdC τ l c.toList fun c => K (.makeFunc f ⟨a⟩ ⟨c⟩)
  | .makeSlice t n c => rdO τ l n fun n => rdO τ l c fun c => K (.makeSlice t (.const n) (.const c))
  | .slice t x lo hi mx => rdO τ l x fun x => rdM τ l lo fun lo => rdM τ l hi fun hi => rdM τ l mx fun mx => K (.slice t (.const x) lo hi mx)
  | .fieldAddr t x f => rdO τ l x fun x => K (.fieldAddr t (.const x) f)
  | .field t x f => rdO τ l x fun x => K (.field t (.const x) f)
  | .indexAddr t x i => rdO τ l x fun x => rdO τ l i fun i => K (.indexAddr t (.const x) (.const i))
  | .index t x i => rdO τ l x fun x => rdO τ l i fun i => K (.index t (.const x) (.const i))
  | .lookup t x i ok => rdO τ l x fun x => rdO τ l i fun i => K (.lookup t (.const x) (.const i) ok)
  | .mapUpdate t m k v => rdO τ l m fun m => rdO τ l k fun k => rdO τ l v fun v => K (.mapUpdate t (.const m) (.const k) (.const v))
  | .range t x => rdO τ l x fun x => K (.range t (.const x))
  | .entry x => rdO τ l x fun x => K (.entry (.const x))
  | .extract x i => rdO τ l x fun x => K (.extract (.const x) i)
  | .call c => xcall τ l c fun c => K (.call c)
  | .defer c => xcall τ l c fun c => K (.defer c)
  | o => K o
theorem xsub_eq {τ : Tau} {l : AL} {o : Op} {K : Op → Prop} : xsub τ l o K = K (opSub (U τ l) o) := by
  cases o <;> simp only [xsub, rdO_eq, rdP_eq, rdC_eq, rdM_eq, xcall_eq, opSub, osub]
def xput (l : AL) (dst : Option Tmp) (v : Value) (K : AL → Prop) : Prop :=
  match dst with
  | some d => K ((d, v) :: l)
  | none => K l
theorem xput_eq {τ : Tau} {l : AL} {dst : Option Tmp} {v : Value} {K : AL → Prop} {K' : Tau → Prop} (h : ∀ l, K l = K' (U τ l)) : xput l dst v K = K' (tput (U τ l) dst v) := by
  cases dst with
  | none => exact h l
  | some d => exact h _
def xcond (τ : Tau) (l : AL) (x : Operand) (A B : AL → Prop) : Prop :=
  match x with
  | .tmp i => rd τ i (fun v => wdec v (A ((i, .bool true) :: l)) (B ((i, .bool false) :: l))) l
  | x => rdO τ l x fun v => wdec v (A l) (B l)
theorem xcond_eq {τ : Tau} {l : AL} {x : Operand} {A B : AL → Prop} {A' B' : Tau → Prop} (hA : ∀ l, A l = A' (U τ l)) (hB : ∀ l, B l = B' (U τ l)) : xcond τ l x A B = wcond (U τ l) x A' B' := by
  cases x with
  | tmp i => simp only [xcond, wcond, rd_eq, hA, hB, U]
  | _ => simp only [xcond, wcond, rdO_eq, hA, hB]
def forceN {α : Sort _} (n : Nat) (K : Nat → α) : α :=
  match n with
  | 0 => K 0
  | m + 1 => K (m + 1)
def forceL {α : Sort _} : List Nat → (List Nat → α) → α
  | [], K => K []
  | x :: r, K => forceN x fun x => forceL r fun r => K (x :: r)
def forceR {α : Sort _} : List (Nat × Rng) → (List (Nat × Rng) → α) → α
  | [], K => K []
  | (x, g) :: r, K => forceN x fun x => forceR r fun r => K ((x, g) :: r)
theorem forceN_eq {α : Sort _} (n : Nat) (K : Nat → α) : forceN n K = K n := by cases n <;> rfl
theorem forceL_eq {α : Sort _} : ∀ (l : List Nat) (K : List Nat → α), forceL l K = K l
  | [], K => rfl
  | x :: r, K => by simp only [forceL, forceN_eq, forceL_eq]
theorem forceR_eq {α : Sort _} : ∀ (l : List (Nat × Rng)) (K : List (Nat × Rng) → α), forceR l K = K l
  | [], K => rfl
  | (x, g) :: r, K => by simp only [forceR, forceN_eq, forceR_eq]
def xguard (all : List Oper) (sk : List Nat) (o : Oper) (τ : Tau) (l : AL) (A B : AL → Prop) : Prop :=
  match o.guard with
  | none => A l
  | some (j, want) => bif sk.any (Nat.beq j) then B l else
    match gdst all j with
    | some d => rd τ d (fun v => wdec v (bif want then A ((d, .bool true) :: l) else B ((d, .bool true) :: l)) (bif want then B ((d, .bool false) :: l) else A ((d, .bool false) :: l))) l
    | none => B l
theorem xguard_eq {all : List Oper} {sk : List Nat} {o : Oper} {τ : Tau} {l : AL} {A B : AL → Prop} {A' B' : Tau → Prop} (hA : ∀ l, A l = A' (U τ l)) (hB : ∀ l, B l = B' (U τ l)) : xguard all sk o τ l A B = wguard all sk o (U τ l) A' B' := by
  unfold xguard wguard
  cases o.guard with
  | none => exact hA l
  | some jw =>
    obtain ⟨j, want⟩ := jw
    simp only
    cases sk.any (Nat.beq j) with
    | true => exact hB l
    | false =>
      simp only [cond_false]
      cases gdst all j with
      | none => exact hB l
      | some d => simp only [rd_eq, hA, hB, U]
theorem avals_const (τ : Tau) : ∀ l : List Operand, avals .e (l.map (osub τ)) = ovals τ l
  | [] => rfl
  | x :: r => by simp only [List.map_cons, avals, ovals, avals_const τ r]; rfl
def xskPut (all : List Oper) (sk : List Nat) (dst : Option Tmp) (K : List Nat → Prop) : Prop :=
  match sk with
  | [] => K []
  | sk => forceL (skPut all sk dst) K
theorem xskPut_eq {all : List Oper} {sk : List Nat} {dst : Option Tmp} {K : List Nat → Prop} : xskPut all sk dst K = K (skPut all sk dst) := by
  unfold xskPut
  split
  · cases dst <;> rfl
  · exact forceL_eq _ _
def forceO {α : Sort _} (all : List Oper) : List (Nat × Oper) → (List (Nat × Oper) → α) → α
  | [], K => K []
  | p :: r, K => forceN p.1 fun i => forceO all r fun r => K ((i, p.2) :: r)
theorem forceO_eq {α : Sort _} {all : List Oper} : ∀ (l : List (Nat × Oper)) (K : List (Nat × Oper) → α), forceO all l K = K l
  | [], K => rfl
  | p :: r, K => by simp only [forceO, forceN_eq, forceO_eq]
def argL : List Value → Nat → AL
  | [], _ => []
  | v :: r, i => (i, v) :: argL r (i + 1)
def undefT : Tau := fun _ => undef
theorem argL_get : ∀ (args : List Value) (i j : Nat), U undefT (argL args i) j = if i ≤ j then (match args[j - i]? with | some v => v | none => undef) else undef
  | [], i, j => by simp [argL, U, undefT]
  | v :: r, i, j => by
    simp only [argL, U]
    rw [tset_eq, argL_get r (i + 1) j]
    by_cases h : j = i
    · subst h; simp
    · rw [if_neg h]
      by_cases h2 : i + 1 ≤ j
      · rw [if_pos h2, if_pos (by omega), show j - i = (j - (i + 1)) + 1 by omega, List.getElem?_cons_succ]
      · rw [if_neg h2, if_neg (by omega)]
theorem tau0_eq (args : List Value) : U undefT (argL args 0) = tau0 args := by
  funext j
  rw [argL_get]
  simp only [Nat.zero_le, if_true, Nat.sub_zero, tau0, nth0_eq]
  all_goals (cases args[j]? <;> rfl)
def forceA {α : Sort _} : List Value → Nat → (AL → α) → α
  | [], _, K => K []
  | v :: r, i, K => forceN i fun i => forceA r (i + 1) fun l => K ((i, v) :: l)
theorem forceA_eq {α : Sort _} : ∀ (args : List Value) (i : Nat) (K : AL → α), forceA args i K = K (argL args i)
  | [], i, K => rfl
  | v :: r, i, K => by simp only [forceA, forceN_eq, forceA_eq, argL]
structure Prims where
  wop : Op → TypeId → St → (Value → St → Prop) → Prop
  call : FuncId → List Value → St → (Value → St → Prop) → Prop
  wcall : Value → List Value → St → (Value → St → Prop) → Prop
  wdefer : Op → TypeId → St → (Deferred → St → Prop) → Prop
  defers : List Deferred → St → (St → Prop) → Prop
  loop : Nat → Option Nat → Code → Tau → List Deferred → St → WK → List (Nat × WK) → Prop
  range : Nat → Option Nat → Value → Array Tmp → Code → Code → Tau → List Deferred → St → WK → WK → List (Nat × WK) → Prop
  fin : St → (Value → St → Prop) → Value → St → Prop
  hold : Prop → Prop
def prims [Memo] (P : Program) (ro : Nat) : Prims where
  wop := wop P ro
  call := CallWP P ro
  wcall := wcall P ro
  wdefer := wdefer P ro
  defers := wdefers P ro
  loop N rnd := WLoop P ro N rnd
  range N rnd := WRange P ro N rnd
  fin := wfin
  hold X := X
section
variable [Memo] {P : Program} {ro : Nat}
theorem pr_wop : (prims P ro).wop = wop P ro := rfl
theorem pr_call : (prims P ro).call = CallWP P ro := rfl
theorem pr_wcall : (prims P ro).wcall = wcall P ro := rfl
theorem pr_wdefer : (prims P ro).wdefer = wdefer P ro := rfl
theorem pr_defers : (prims P ro).defers = wdefers P ro := rfl
theorem pr_loop {N : Nat} {rnd : Option Nat} : (prims P ro).loop N rnd = WLoop P ro N rnd := rfl
theorem pr_range {N : Nat} {rnd : Option Nat} : (prims P ro).range N rnd = WRange P ro N rnd := rfl
theorem pr_fin : (prims P ro).fin = wfin := rfl
theorem pr_hold (X : Prop) : (prims P ro).hold X = X := propext Iff.rfl
end
section
variable (I : Prims) (rnd : Option Nat)
def xcallv (v : Value) (args : List Value) (s : St) (K : Value → St → Prop) : Prop :=
  match v with
  | .func (.func k) first cap => I.call k (first.toList ++ (args ++ cap.toList)) s K
  | v => I.wcall v args s K
theorem xcallv_eq [Memo] {P : Program} {ro : Nat} {v : Value} {args : List Value} {s : St} {K : Value → St → Prop} : xcallv (prims P ro) v args s K = wcall P ro v args s K := by
  unfold xcallv
  split <;> rfl
def xdefers (ds : List Deferred) (s : St) (K : St → Prop) : Prop :=
  match ds with
  | [] => K s
  | ds => I.defers ds s K
theorem xdefers_eq [Memo] {P : Program} {ro : Nat} {ds : List Deferred} {s : St} {K : St → Prop} : xdefers (prims P ro) ds s K = wdefers P ro ds s K := by
  unfold xdefers
  split <;> rfl
def x1 (o : Oper) (τ : Tau) (l : AL) (ds : List Deferred) (s : St) (K : AL → List Deferred → St → Prop) : Prop :=
  match o.op with
  | .move x => rdO τ l x fun v => xput l o.dst v fun l => K l ds s
  | .assign x => rdO τ l x fun v => xput l o.dst v fun l => K l ds s
  | .pick c a b => xcond τ l c (fun l => rdO τ l a fun v => xput l o.dst v fun l => K l ds s) (fun l => rdO τ l b fun v => xput l o.dst v fun l => K l ds s)
  | .defer c => rnd = none ∧ xcall τ l c fun c => I.wdefer (.defer c) o.type s fun d s' => xput l o.dst undef fun l => K l (d :: ds) s'
  | .makeFunc (.func f) a c => rdV τ l a.toList fun a => rdV τ l c.toList fun c => xput l o.dst (.func (.func f) ⟨a⟩ ⟨c⟩) fun l => K l ds s
  | .call c => (match c.callee with
    | .value f => rdO τ l f fun f => rdV τ l c.args.toList fun as => xcallv I f as s fun v s' => xput l o.dst v fun l => K l ds s'
    | _ => xcall τ l c fun c => I.wop (.call c) o.type s fun v s' => xput l o.dst v fun l => K l ds s')
  | op => xsub τ l op fun op => I.wop op o.type s fun v s' => xput l o.dst v fun l => K l ds s'
theorem x1_eq [Memo] {P : Program} {ro : Nat} {o : Oper} {τ : Tau} {l : AL} {ds : List Deferred} {s : St} {K : AL → List Deferred → St → Prop} {K' : WK} (h : ∀ l ds s, K l ds s = K' (U τ l) ds s) : x1 (prims P ro) rnd o τ l ds s K = w1 P ro rnd o (U τ l) ds s K' := by
  have hp : ∀ (v : Value) (ds : List Deferred) (s : St), xput l o.dst v (fun l => K l ds s) = K' (tput (U τ l) o.dst v) ds s := fun v ds s => xput_eq (K' := fun τ => K' τ ds s) fun l => h l ds s
  have hq : ∀ (l : AL) (v : Value) (ds : List Deferred) (s : St), xput l o.dst v (fun l => K l ds s) = K' (tput (U τ l) o.dst v) ds s := fun l v ds s => xput_eq (K' := fun τ => K' τ ds s) fun l => h l ds s
  cases hop : o.op with
  | move x => simp only [x1, w1, hop, rdO_eq, hp]
  | assign x => simp only [x1, w1, hop, rdO_eq, hp]
  | pick c a b => simp only [x1, w1, hop]; exact xcond_eq (fun l => by rw [rdO_eq, hq]) (fun l => by rw [rdO_eq, hq])
  | «defer» c => simp only [x1, w1, hop, xcall_eq, hp, prims]
  | makeFunc fn a c =>
    cases fn with
    | func f =>
      simp only [x1, w1, hop, rdV_eq, hp, wop, opSub, nilOk, cond_true, aop, mkO, amk, fnOk, wfol, avals_const]
    | _ => simp only [x1, w1, hop, xsub_eq, hp, prims]
  | call c =>
    simp only [x1, w1, hop]
    cases c.callee with
    | value f => simp only [rdO_eq, rdV_eq, hp, xcallv_eq]
    | _ => simp only [xcall_eq, hp, prims]
  | _ => simp only [x1, w1, hop, xsub_eq, hp, prims]
def xops (all : List Oper) : List Oper → Nat → List Nat → Tau → AL → List Deferred → St → (AL → List Deferred → St → Prop) → Prop
  | [], _, _, _, l, ds, s, K => K l ds s
  | o :: r, i, sk, τ, l, ds, s, K => xskPut all sk o.dst fun sk' => xguard all sk o τ l (fun l => x1 I rnd o τ l ds s fun l ds s => forceN (i + 1) fun j => xops all r j sk' τ l ds s K)
      (fun l => xput l o.dst undef fun l => forceN i fun i => forceN (i + 1) fun j => xops all r j (i :: sk') τ l ds s K)
theorem xops_eq [Memo] {P : Program} {ro : Nat} {all : List Oper} {τ : Tau} {K : AL → List Deferred → St → Prop} {K' : WK} (h : ∀ l ds s, K l ds s = K' (U τ l) ds s) : ∀ {r : List Oper} {i : Nat} {sk : List Nat} {l : AL} {ds : List Deferred} {s : St},
    xops (prims P ro) rnd all r i sk τ l ds s K = wops P ro rnd all r i sk (U τ l) ds s K'
  | [], _, _, l, ds, s => h l ds s
  | o :: r, i, sk, l, ds, s => by
    simp only [xops, wops, xskPut_eq, forceN_eq]
    refine xguard_eq (fun l => x1_eq rnd fun l ds s => xops_eq h) fun l => ?_
    exact xput_eq (K' := fun τ => wops P ro rnd all r (i + 1) (i :: skPut all sk o.dst) τ ds s K') fun l => xops_eq h
def xrng (o : Oper) (τ : Tau) (l : AL) (s : St) (K : Rng → Prop) : Prop :=
  match o.op with
  | .load _ x => rdO τ l x fun a => K (.ptr a)
  | _ => K (.below s.n)
theorem xrng_eq {o : Oper} {τ : Tau} {l : AL} {s : St} {K : Rng → Prop} : xrng o τ l s K = K (rngOf o (U τ l) s) := by
  unfold xrng rngOf
  cases o.op <;> first | rfl | exact rdO_eq
def xrun (all : List Oper) (ms : List Nat) (hasA hasF : Bool) : List (Nat × Oper) → List Nat → List Nat → List (Nat × Rng) → List Nat → Tau → AL → List Deferred → St → (AL → List Deferred → St → Prop) → Prop
  | [], _, _, _, _, _, l, ds, s, K => K l ds s
  | (i, o) :: r, sk, acts, opn, cls, τ, l, ds, s, K => xskPut all sk o.dst fun sk' =>
    xguard all sk o τ l
      (fun l => x1 I rnd o τ l ds s fun l' ds' s' =>
        bif isAct o then
          bif bitAll (nthN ms i) cls then
            forceR (opnOf (nthN ms i) opn) fun stay => forceL (cls ++ clsOf (nthN ms i) opn) fun cls' =>
              bimp (!stay.isEmpty) (Keeps stay s s') (bimp (hasF && stay.isEmpty) (s.n ≤ s'.n) (xrun all ms hasA hasF r sk' (i :: acts) stay cls' τ l' ds' s' K))
          else False
        else bif isLoad o then
          bif bitAll (nthN ms i) acts && dstFree o r then bimp (isConv o.op) (s' = s) (bimp hasA (match o.dst with | some d => rd τ d (fun v => veq v v = true) l' | none => True) (xrng o τ l s fun g => xrun all ms hasA hasF r sk' acts ((i, g) :: opn) cls τ l' ds' s' K)) else False
        else bif isFresh o then
          bif bitAll (nthN ms i) acts then FreshOk s s' ∧ xrun all ms hasA hasF r sk' acts ((i, .blk s.n) :: opn) cls τ l' ds' s' K else False
        else xrun all ms hasA hasF r sk' acts opn cls τ l' ds' s' K)
      (fun l => xput l o.dst undef fun l' => bif isAct o then
          bif bitAll (nthN ms i) cls then forceR (opnOf (nthN ms i) opn) fun stay => forceL (cls ++ clsOf (nthN ms i) opn) fun cls' => xrun all ms hasA hasF r (i :: sk') (i :: acts) stay cls' τ l' ds s K else False
        else xrun all ms hasA hasF r (i :: sk') acts opn cls τ l' ds s K)
theorem xrun_eq [Memo] {P : Program} {ro : Nat} {all : List Oper} {ms : List Nat} {hasA hasF : Bool} {τ : Tau} {K : AL → List Deferred → St → Prop} {K' : WK} (h : ∀ l ds s, K l ds s = K' (U τ l) ds s) : ∀ {r : List (Nat × Oper)} {sk acts : List Nat} {opn : List (Nat × Rng)} {cls : List Nat} {l : AL} {ds : List Deferred} {s : St},
    xrun (prims P ro) rnd all ms hasA hasF r sk acts opn cls τ l ds s K = wrun P ro rnd all ms hasA hasF r sk acts opn cls (U τ l) ds s K'
  | [], _, _, _, _, l, ds, s => h l ds s
  | (i, o) :: r, sk, acts, opn, cls, l, ds, s => by
    simp only [xrun, wrun, xskPut_eq, forceL_eq, forceR_eq]
    refine xguard_eq (fun l => x1_eq rnd fun l' ds' s' => ?_) fun l => ?_
    · have hv : (match o.dst with | some d => rd τ d (fun v => veq v v = true) l' | none => True) = veqD o (U τ l') := by
        unfold veqD
        cases o.dst with
        | none => rfl
        | some d => exact rd_eq
      simp only [wact, hv, xrng_eq]
      rw [xrun_eq h, xrun_eq h, xrun_eq h, xrun_eq h]
    · refine xput_eq (K' := fun τ => bif isAct o then wskip ms i opn cls fun opn cls => wrun P ro rnd all ms hasA hasF r (i :: skPut all sk o.dst) (i :: acts) opn cls τ ds s K'
        else wrun P ro rnd all ms hasA hasF r (i :: skPut all sk o.dst) acts opn cls τ ds s K') fun l => ?_
      simp only [wskip]
      rw [xrun_eq h, xrun_eq h]
def xdraw (all : List Oper) (τ : Tau) (l : AL) (ds : List Deferred) (s : St) (K : AL → List Deferred → St → Prop) : Prop :=
  forceL (masks all) fun ms => forceO all (orderOf all) fun ord => xrun I rnd all ms (anyAct ord) (anyFresh ord) ord [] [] [] [] τ l ds s K
theorem xdraw_eq [Memo] {P : Program} {ro : Nat} {all : List Oper} {τ : Tau} {l : AL} {ds : List Deferred} {s : St} {K : AL → List Deferred → St → Prop} {K' : WK} (h : ∀ l ds s, K l ds s = K' (U τ l) ds s) : xdraw (prims P ro) rnd all τ l ds s K = wdraw P ro rnd all (U τ l) ds s K' := by
  unfold xdraw wdraw
  rw [forceL_eq, forceO_eq, xrun_eq rnd h]
def thenX (K : XK) (Q : Ex → XK) : Ex → XK
  | .normal => K
  | ex => Q ex
def blkX (id : Nat) (Q : Ex → XK) : Ex → XK
  | .exit j => bif Nat.beq j id then Q .normal else Q (.exit j)
  | ex => Q ex
def cutAt (cuts : List (List Nat)) (p : List Nat) : Bool := cuts.any fun q => pathEq q p
where pathEq : List Nat → List Nat → Bool
  | [], [] => true
  | a :: r, b :: t => Nat.beq a b && pathEq r t
  | _, _ => false
variable (N : Nat)
def xp (cuts : List (List Nat)) : Code → List Nat → Tau → AL → List Deferred → St → (Ex → XK) → Prop
  | .skip, _, τ, l, ds, s, Q => Q .normal τ l ds s
  | .label _, _, τ, l, ds, s, Q => Q .normal τ l ds s
  | .region _ ops draw, _, τ, l, ds, s, Q => (match draw with
    | true => xdraw I rnd ops.toList τ l ds s (Q .normal τ)
    | false => xops I rnd ops.toList ops.toList 0 [] τ l ds s (Q .normal τ))
  | .seq a b, p, τ, l, ds, s, Q => xp cuts a (0 :: p) τ l ds s (thenX (fun τ l ds s => bif cutAt cuts (1 :: p) then I.hold (xp cuts b (1 :: p) (U τ l) [] ds s Q) else xp cuts b (1 :: p) τ l ds s Q) Q)
  | .cond x a b, p, τ, l, ds, s, Q => xcond τ l x (fun l => xp cuts a (0 :: p) τ l ds s Q) (fun l => xp cuts b (1 :: p) τ l ds s Q)
  | .block id a, p, τ, l, ds, s, Q => xp cuts a (0 :: p) τ l ds s (blkX id Q)
  | .loop a, _, τ, l, ds, s, Q => I.loop N rnd a (U τ l) ds s (fun τ ds s => Q .ret τ [] ds s) ((exitsOf a).map fun id => (id, fun τ ds s => Q (.exit id) τ [] ds s))
  | .rangeFunc g ps assign body, _, τ, l, ds, s, Q => rdO τ l g fun g => I.range N rnd g ps assign body (U τ l) ds s (fun τ ds s => Q .normal τ [] ds s) (fun τ ds s => Q .ret τ [] ds s) ((exitsOf (.seq assign body)).map fun id => (id, fun τ ds s => Q (.exit id) τ [] ds s))
  | .exit id, _, τ, l, ds, s, Q => Q (.exit id) τ l ds s
  | .scope a, p, τ, l, ds, s, Q => xp cuts a (0 :: p) τ l ds s Q
  | .goto _, _, _, _, _, _, _ => False
  | .ret, _, τ, l, ds, s, Q => Q .ret τ l ds s
  | .refuse _, _, _, _, _, _, _ => False
def sX (cuts : List (List Nat)) (b : Code) (p : List Nat) (Q : Ex → XK) : Ex → XK :=
  thenX (fun τ l ds s => bif cutAt cuts p then I.hold (xp I rnd N cuts b p (U τ l) [] ds s Q) else xp I rnd N cuts b p τ l ds s Q) Q
theorem xp_eq [Memo] {P : Program} {ro : Nat} (cuts : List (List Nat)) : ∀ (c : Code) {p : List Nat} {τ : Tau} {l : AL} {ds : List Deferred} {s : St} {Q : Ex → XK} {Q' : Ex → WK}, (∀ ex τ l ds s, Q ex τ l ds s = Q' ex (U τ l) ds s) →
    xp (prims P ro) rnd N cuts c p τ l ds s Q = wp P ro N rnd c (U τ l) ds s Q'
  | .skip, p, τ, l, ds, s, Q, Q', h => h _ _ _ _ _
  | .label _, p, τ, l, ds, s, Q, Q', h => h _ _ _ _ _
  | .region _ ops draw, p, τ, l, ds, s, Q, Q', h => by
    cases draw with
    | true => exact xdraw_eq rnd fun l ds s => h _ _ _ _ _
    | false => exact xops_eq rnd fun l ds s => h _ _ _ _ _
  | .seq a b, p, τ, l, ds, s, Q, Q', h => by
    refine xp_eq cuts a fun ex τ l ds s => ?_
    cases ex with
    | normal =>
      simp only [thenX, thenW]
      cases cutAt cuts (1 :: p) with
      | true => exact xp_eq cuts b h
      | false => exact xp_eq cuts b h
    | _ => exact h _ _ _ _ _
  | .cond x a b, p, τ, l, ds, s, Q, Q', h => xcond_eq (fun l => xp_eq cuts a h) (fun l => xp_eq cuts b h)
  | .block id a, p, τ, l, ds, s, Q, Q', h => by
    refine xp_eq cuts a fun ex τ l ds s => ?_
    cases ex with
    | exit j =>
      simp only [blkX, blkW]
      cases Nat.beq j id
      · exact h _ _ _ _ _
      · exact h _ _ _ _ _
    | _ => exact h _ _ _ _ _
  | .loop a, p, τ, l, ds, s, Q, Q', h => by
    have h1 : (fun τ ds s => Q .ret τ [] ds s) = Q' .ret := by funext τ ds s; exact h _ _ _ _ _
    have h2 : (fun id => (id, (fun τ ds s => Q (.exit id) τ [] ds s : WK))) = fun id => (id, Q' (.exit id)) := by
      funext id
      have : (fun τ ds s => Q (.exit id) τ [] ds s : WK) = Q' (.exit id) := by funext τ ds s; exact h _ _ _ _ _
      rw [this]
    simp only [xp, wp, h1, h2, prims]
  | .rangeFunc g ps assign body, p, τ, l, ds, s, Q, Q', h => by
    have h0 : (fun τ ds s => Q .normal τ [] ds s) = Q' .normal := by funext τ ds s; exact h _ _ _ _ _
    have h1 : (fun τ ds s => Q .ret τ [] ds s) = Q' .ret := by funext τ ds s; exact h _ _ _ _ _
    have h2 : (fun id => (id, (fun τ ds s => Q (.exit id) τ [] ds s : WK))) = fun id => (id, Q' (.exit id)) := by
      funext id
      have : (fun τ ds s => Q (.exit id) τ [] ds s : WK) = Q' (.exit id) := by funext τ ds s; exact h _ _ _ _ _
      rw [this]
    simp only [xp, wp, rdO_eq, h0, h1, h2, prims]
  | .exit id, p, τ, l, ds, s, Q, Q', h => h _ _ _ _ _
  | .scope a, p, τ, l, ds, s, Q, Q', h => xp_eq cuts a h
  | .goto _, p, τ, l, ds, s, Q, Q', h => rfl
  | .ret, p, τ, l, ds, s, Q, Q', h => h _ _ _ _ _
  | .refuse _, p, τ, l, ds, s, Q, Q', h => rfl
def lift (Q : Ex → WK) : Ex → XK := fun ex τ l ds s => Q ex (U τ l) ds s
theorem xp_wp [Memo] (P : Program) (ro : Nat) {cuts : List (List Nat)} {c : Code} {p : List Nat} {τ : Tau} {ds : List Deferred} {s : St} {Q : Ex → WK} {X : Prop} (h : xp (prims P ro) rnd N cuts c p τ [] ds s (lift Q) = X) : wp P ro N rnd c τ ds s Q = X :=
  (xp_eq rnd N cuts c (l := []) fun _ _ _ _ _ => rfl).symm.trans h
def xresL (τ : Tau) (l : AL) (s : St) (K : List Value → Prop) : List ResultVar → List Value → Prop
  | [], acc => K acc.reverse
  | .tmp i :: r, acc => rd τ i (fun v => xresL τ l s K r (v :: acc)) l
  | .cell a ty :: r, acc => rd τ a (fun v => I.wop (.load ty (.const v)) ty s fun v _ => xresL τ l s K r (v :: acc)) l
theorem xresL_eq [Memo] {P : Program} {ro : Nat} {τ : Tau} {l : AL} {s : St} {K : List Value → Prop} : ∀ {rs : List ResultVar} {acc : List Value}, xresL (prims P ro) τ l s K rs acc = wresL P ro (U τ l) s K rs acc
  | [], acc => rfl
  | .tmp i :: r, acc => by simp only [xresL, wresL, rd_eq, xresL_eq]
  | .cell a ty :: r, acc => by simp only [xresL, wresL, rd_eq, xresL_eq, pr_wop]
def xleave (s0 : St) (rs : List ResultVar) (K : Value → St → Prop) : Ex → XK
  | .exit _ => fun _ _ _ _ => False
  | _ => fun τ l ds s => xdefers I ds s fun s => xresL I τ l s (fun vs => I.fin s0 K (tupled vs) s) rs []
def xbody (cuts : List (List Nat)) (fn : Func) (c : Code) (args : List Value) (s : St) (K : Value → St → Prop) : Prop :=
  forceA args 0 fun l => xp I none N cuts c [] undefT l [] (ent s) (xleave I s fn.results.toList K)
theorem xbody_eq [Memo] (P : Program) (ro : Nat) {cuts : List (List Nat)} {fn : Func} {c : Code} {args : List Value} {s : St} {K : Value → St → Prop} {X : Prop} (h : xbody (prims P ro) N cuts fn c args s K = X) : wbody P ro N fn c args s K = X := by
  rw [← h]
  unfold xbody wbody
  rw [forceA_eq, ← tau0_eq]
  refine (xp_eq none N cuts c fun ex τ l ds s => ?_).symm
  cases ex with
  | exit id => rfl
  | _ => simp only [xleave, wleave, xresL_eq, xdefers_eq, pr_fin]
end
end Go.VE
