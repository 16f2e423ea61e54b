/-
 What code does, as a predicate over the evaluator's runs.
-/
import Derived.Test.YtonfahekhieobaaDoorVe4
import Derived.KernelRfl
set_option linter.unusedSimpArgs false
set_option linter.unusedVariables false
namespace Go.VE
open Go
def Ev.le (E E' : Ev) : Prop := ∀ c fr s r, E c fr s = some r → E' c fr s = some r
section
variable {P : Program} {ro : Nat} {E E' : Ev}
theorem Zpt (h : Ev.le E E') {f : FuncId} {args : List Value} {s : St} {r : Func × Fr × St} (e : Zpu P E f args s = some r) : Zpu P E' f args s = some r := by
 unfold Zpu at e ⊢
 cases hf : P.funcs[f]? with
 | none => rw [hf] at e; cases e
 | some fn =>
  rw [hf] at e
  simp only at e ⊢
  cases hk : okFunc P fn with
  | false => rw [hk] at e; cases e
  | true =>
   rw [hk] at e
   simp only [cond_true] at e ⊢
   cases hb : fn.body with
   | none => rw [hb] at e; cases e
   | some c =>
    rw [hb] at e
    simp only at e ⊢
    cases hE : E c { t := tree (max fn.ntmps args.length) args, ds := [], rnd := none } s with
    | none => rw [hE] at e; cases e
    | some x => rw [hE] at e; rw [h _ _ _ _ hE]; exact e
theorem Zgh (h : Ev.le E E') : ∀ (ds : List Deferred) {s s' : St}, Zfd P ro E ds s = some s' → Zfd P ro E' ds s = some s'
 | [], _, _, e => e
 | d :: ds, s, s', e => by
  unfold Zfd at e ⊢
  split at e
  ·cases hb : Zpu P E _ (d.args.toList ++ _) s with
   | none => rw [hb] at e; simp only [Ztl] at e; cases e
   | some x =>
    rw [hb] at e
    rw [Zpt h hb]
    revert e
    cases Ztl P (some x) with
    | none => exact fun e => e
    | some s1 => exact fun e => Zgh h ds e
  ·revert e
   split
   ·exact fun e => Zgh h ds e
   ·exact fun e => e
  ·cases e
theorem Z2p (h : Ev.le E E') {f : FuncId} {args : List Value} {s : St} {r : Value × St} (e : Zou P ro E f args s = some r) : Zou P ro E' f args s = some r := by
 unfold Zou at e ⊢
 cases hb : Zpu P E f args { h := s.h, n := s.n, lo := s.n } with
 | none => rw [hb] at e; cases e
 | some x =>
  rw [hb] at e; rw [Zpt h hb]
  obtain ⟨fn, fr, s1⟩ := x
  simp only [Zzj] at e ⊢
  cases hd : Zfd P ro E fr.ds s1 with
  | none => rw [hd] at e; cases e
  | some s2 => rw [hd] at e; rw [Zgh h _ hd]; exact e
theorem Zmh [Memo] (h : Ev.le E E') {f : FuncId} {args : List Value} {s : St} {r : Value × St} (e : Znx P ro E f args s = some r) : Znx P ro E' f args s = some r := by
 unfold Znx at e ⊢
 cases hm : Memo.look f args with
 | none => rw [hm] at e; exact Z2p h e
 | some v => rw [hm] at e; exact e
theorem Z2f (h : Ev.le E E') {l : Nat} {t : Tr} {a b : Code} {s : St} {r : Value × St} (e : Zon ro E l t a b s = some r) : Zon ro E' l t a b s = some r := by
 unfold Zon at e ⊢
 cases hE : E a { t := t, ds := [], rnd := some l } s with
 | none => rw [hE] at e; cases e
 | some x =>
  rw [hE] at e; rw [h _ _ _ _ hE]
  obtain ⟨ex, fr, s1⟩ := x
  cases ex with
  | normal =>
   simp only at e ⊢
   revert e
   cases s1.at l with
   | none => exact fun e => e
   | some o =>
    cases o with
    | loop q =>
     simp only [Zwl]
     cases q.state <;> try exact fun e => e
     cases Nat.ble ro l with
     | false => exact fun e => e
     | true =>
      simp only [cond_true]
      intro e
      cases hb : E b fr (s1.put l (.loop { q with state := .busy })) with
      | none => rw [hb] at e; cases e
      | some y => rw [hb] at e; rw [h _ _ _ _ hb]; exact e
    | _ => exact fun e => e
  | _ => exact e
theorem Zzf [Memo] (h : Ev.le E E') {dst : Option Tmp} {fr : Fr} {x : Option (AR × St)} {r : Fr × St} (e : Zcp P ro E dst fr x = some r) : Zcp P ro E' dst fr x = some r := by
 cases x with
 | none => exact e
 | some y =>
  obtain ⟨a, s⟩ := y
  cases a with
  | enter f args =>
   simp only [Zcp] at e ⊢
   cases hc : Znx P ro E f args s with
   | none => rw [hc] at e; cases e
   | some z => rw [hc] at e; rw [Zmh h hc]; exact e
  | round l t assign body =>
   simp only [Zcp] at e ⊢
   cases hc : Zon ro E l t assign body s with
   | none => rw [hc] at e; cases e
   | some z => rw [hc] at e; rw [Z2f h hc]; exact e
  | _ => exact e
theorem Zme [Memo] (h : Ev.le E E') {o : Oper} {fr : Fr} {s : St} {r : Fr × St} (e : Zdu P ro E o fr s = some r) : Zdu P ro E' o fr s = some r := Zzf h e
theorem Zlu [Memo] (h : Ev.le E E') {all : List Oper} : ∀ {l : List Oper} {fr : Fr} {s : St} {r : Fr × St}, aops P ro E all l fr s = some r → aops P ro E' all l fr s = some r
 | [], _, _, _, e => e
 | o :: l, fr, s, r, e => by
  rw [Zor] at e ⊢
  cases hw : Zce all o fr.t with
  | false => rw [hw] at e; simp only [cond_false] at e ⊢; exact Zlu h e
  | true =>
   rw [hw] at e
   simp only [cond_true] at e ⊢
   cases hs : Zdu P ro E o fr s with
   | none => rw [hs] at e; cases e
   | some x => rw [hs] at e; rw [Zme h hs]; exact Zlu h e
theorem Zom [Memo] (h : Ev.le E E') {all : List Oper} : ∀ {l : List (Nat × Oper)} {fr : Fr} {s : St} {r : Run}, arun P ro E all l fr s = some r → arun P ro E' all l fr s = some r
 | [], _, _, _, e => e
 | (i, o) :: l, fr, s, r, e => by
  unfold arun at e ⊢
  cases hw : Zce all o fr.t with
  | false =>
   rw [hw] at e
   simp only [cond_false] at e ⊢
   obtain ⟨y, hy, _⟩ := Zg7 e
   rw [hy] at e; rw [Zom h hy]; exact e
  | true =>
   rw [hw] at e
   simp only [cond_true] at e ⊢
   cases hs : Zdu P ro E o fr s with
   | none => rw [hs] at e; cases e
   | some x =>
    rw [hs] at e; rw [Zme h hs]
    obtain ⟨fr1, s1⟩ := x
    simp only [Z9e] at e ⊢
    cases hq : Zts o s s1 with
    | false => rw [hq] at e; cases e
    | true =>
     rw [hq] at e
     simp only [cond_true] at e ⊢
     obtain ⟨y, hy, _⟩ := Zg7 e
     rw [hy] at e; rw [Zom h hy]; exact e
theorem Zy6 [Memo] (h : Ev.le E E') {ops : Array Oper} {draw : Bool} {fr : Fr} {s : St} {r : Fr × St} (e : Zil P ro E ops draw fr s = some r) : Zil P ro E' ops draw fr s = some r := by
 cases draw with
 | false => exact Zlu h e
 | true =>
  simp only [Zil] at e ⊢
  cases hr : arun P ro E ops.toList (Zek ops.toList) fr s with
  | none => rw [hr] at e; cases e
  | some x => rw [hr] at e; rw [Zom h hr]; exact e
theorem Zqc [Memo] (h : Ev.le E E') {l : Nat} {fr : Fr} {s : St} {v : Value} {r : Ex × Fr × St} (e : Zlt P ro E l fr s v = some r) : Zlt P ro E' l fr s v = some r := by
 unfold Zlt at e ⊢
 split at e
 ·rename_i k first cap
  cases hc : Znx P ro E k (first.toList ++ (Value.func (.yield l) (.mk []) (.mk []) :: cap.toList)) s with
  | none => rw [hc] at e; cases e
  | some x => rw [hc] at e; rw [Zmh h hc]; exact e
 ·cases e
theorem Z2h [Memo] (h : Ev.le E E') {g : Value} {ps : Array Tmp} {a b : Code} {fr : Fr} {s : St} {r : Ex × Fr × St} (e : Zqd P ro E g ps a b fr s = some r) : Zqd P ro E' g ps a b fr s = some r := by
 unfold Zqd at e ⊢
 cases hr : fr.rnd with
 | none => rw [hr] at e; exact Zqc h e
 | some l =>
  rw [hr] at e
  simp only at e ⊢
  revert e
  cases s.at l with
  | none => exact fun e => e
  | some o =>
   cases o with
   | loop q => exact fun e => Zqc h e
   | _ => exact fun e => e
theorem Zo6 {k k' : Fr → St → Option (Ex × Fr × St)} (hk : ∀ fr s r, k fr s = some r → k' fr s = some r) {x : Option (Ex × Fr × St)} {r : Ex × Fr × St} (e : Zxh k x = some r) : Zxh k' x = some r := by
 cases x with
 | none => cases e
 | some y =>
  obtain ⟨ex, fr, s⟩ := y
  cases ex with
  | normal => exact hk _ _ _ e
  | _ => exact e
theorem Zx4 [Memo] (h : Ev.le E E') {x : ML} {s : St} {seen : List Nat} {en : Option MapEntry} {fr : Fr} {r : Ex × Fr} (e : mrun P ro E x s seen en fr = some r) : mrun P ro E' x s seen en fr = some r := by
 unfold mrun at e ⊢
 cases ho : aops P ro E x.all x.os (fr.put x.d (Zsh en)) (sI x s seen) with
 | none => rw [ho] at e; cases e
 | some y =>
  rw [ho] at e; rw [Zlu h ho]
  simp only [Zl6] at e ⊢
  cases hE : Zxh (E x.rest) (some (.normal, y.1, y.2)) with
  | none => rw [hE] at e; cases e
  | some z => rw [hE] at e; rw [Zo6 (fun fr s r => h _ fr s r) hE]; exact e
theorem Zx7 : ∀ {l l' : List (Option (Ex × Fr))}, l.length = l'.length → (∀ (i : Nat) (x : Ex × Fr), l[i]? = some (some x) → l'[i]? = some (some x)) → ∀ {r}, mall l = some r → mall l' = some r
 | [], _, _, _, _, e => by cases e
 | [a], l', hl, h, r, e => by
  match l', hl with
  | [b], _ =>
   have e' : a = some r := e
   subst e'
   have h0 := h 0 r rfl
   simp only [List.getElem?_cons_zero, Option.some.injEq] at h0
   show b = some r
   exact h0
 | a :: a2 :: as, l', hl, h, r, e => by
  match l', hl with
  | b :: b2 :: bs, hl =>
   have e' : Z3m a (mall (a2 :: as)) = some r := e
   show Z3m b (mall (b2 :: bs)) = some r
   cases ha : a with
   | none => rw [ha] at e'; cases e'
   | some x =>
    rw [ha] at e'
    cases hm : mall (a2 :: as) with
    | none => rw [hm] at e'; cases e'
    | some y =>
     rw [hm] at e'
     have h0 := h 0 x (by simp [ha])
     simp only [List.getElem?_cons_zero, Option.some.injEq] at h0
     rw [h0, Zx7 (l := a2 :: as) (l' := b2 :: bs) (by simpa using hl) (fun i z hz => by simpa using h (i + 1) z (by simpa using hz)) hm]
     exact e'
theorem Z5c {k k' : Fr → Option (Ex × Fr)} (hk : ∀ fr r, k fr = some r → k' fr = some r) {x x' : Option (Ex × Fr)} (hx : ∀ y, x = some y → x' = some y) {r : Ex × Fr} (e : Z5d k x = some r) : Z5d k' x' = some r := by
 cases x with
 | none => cases e
 | some y =>
  rw [hx y rfl]
  obtain ⟨ex, fr⟩ := y
  cases ex with
  | normal => exact hk _ _ e
  | _ => exact e
theorem Zuj [Memo] (h : Ev.le E E') {x : ML} {s : St} : ∀ (f : Nat) {seen : List Nat} {fr : Fr} {r : Ex × Fr}, Zvr P ro E x s f seen fr = some r → Zvr P ro E' x s f seen fr = some r
 | 0, _, _, _, e => by cases e
 | f + 1, seen, fr, r, e => by
  unfold Zvr at e ⊢
  cases hi : isIt (aval fr.t x.it) x.I with
  | false => rw [hi] at e; exact e
  | true =>
   rw [hi] at e
   simp only [cond_true] at e ⊢
   cases hl : Zye x.es seen with
   | nil =>
    rw [hl] at e
    simp only at e ⊢
    cases hr : mrun P ro E x s seen none fr with
    | none => rw [hr] at e; cases e
    | some y => rw [hr] at e; rw [Zx4 h hr]; exact e
   | cons a l =>
    rw [hl] at e
    simp only at e ⊢
    refine Zx7 (by simp) (fun i y hy => ?_) e
    rw [List.getElem?_map] at hy ⊢
    cases ha : (a :: l)[i]? with
    | none => rw [ha] at hy; cases hy
    | some en =>
     rw [ha] at hy
     simp only [Option.map_some, Option.some.injEq] at hy ⊢
     exact Z5c (fun fr r => Zuj h f) (fun y => Zx4 h) hy
theorem Z6d [Memo] (h : Ev.le E E') {a : Code} {fr : Fr} {s : St} {m : Option ML} {r : Ex × Fr × St} (e : Zwu P ro E a fr s m = some r) : Zwu P ro E' a fr s m = some r := by
 cases m with
 | none =>
  simp only [Zwu] at e ⊢
  cases hE : E a fr s with
  | none => rw [hE] at e; cases e
  | some y => rw [hE] at e; rw [h _ _ _ _ hE]; exact Zo6 (fun fr s r => h _ fr s r) e
 | some x =>
  simp only [Zwu] at e ⊢
  cases ht : Zvr P ro E x s (x.es.length + 1) [] fr with
  | none => rw [ht] at e; cases e
  | some y => rw [ht] at e; rw [Zuj h _ ht]; exact e
theorem Z6j [Memo] (h : Ev.le E E') : Ev.le (Ze6 P ro E) (Ze6 P ro E') := by
 intro c fr s r e
 cases c with
 | region i ops draw =>
  simp only [Ze6] at e ⊢
  cases hr : Zil P ro E ops draw fr s with
  | none => rw [hr] at e; cases e
  | some y => rw [hr] at e; rw [Zy6 h hr]; exact e
 | seq a b =>
  simp only [Ze6] at e ⊢
  cases hE : E a fr s with
  | none => rw [hE] at e; cases e
  | some y => rw [hE] at e; rw [h _ _ _ _ hE]; exact Zo6 (fun fr s r => h _ fr s r) e
 | cond x a b =>
  simp only [Ze6] at e ⊢
  revert e
  unfold Yc6
  split
  ·exact h _ _ _ _
  ·exact h _ _ _ _
  ·exact fun e => e
 | block id a =>
  simp only [Ze6] at e ⊢
  cases hE : E a fr s with
  | none => rw [hE] at e; cases e
  | some y => rw [hE] at e; rw [h _ _ _ _ hE]; exact e
 | loop a => exact Z6d h e
 | rangeFunc g ps assign body => exact Z2h h e
 | scope a => exact h _ _ _ _ e
 | _ => exact e
theorem Ye3 [Memo] : ∀ n, Ev.le (ev P ro n) (ev P ro (n + 1))
 | 0 => fun _ _ _ _ e => by cases e
 | n + 1 => Z6j (Ye3 n)
theorem Zem [Memo] {n m : Nat} (h : n ≤ m) : Ev.le (ev P ro n) (ev P ro m) := by
 induction h with
 | refl => exact fun _ _ _ _ e => e
 | step _ ih => exact fun c fr s r e => Ye3 _ c fr s r (ih c fr s r e)
end
end Go.VE
namespace Go.VE
open Go
abbrev Tau := Nat → Value
def tset (τ : Tau) (i : Tmp) (v : Value) : Tau := fun j => bif Nat.beq j i then v else τ j
theorem Zxe (τ : Tau) (i : Tmp) (v : Value) : tset τ i v i = v := by simp [tset]
theorem Yca (τ : Tau) {i j : Tmp} (v : Value) (h : Nat.beq j i = false) : tset τ i v j = τ j := by simp only [tset, h, cond_false]
theorem Zad (τ : Tau) (i j : Tmp) (v : Value) : tset τ i v j = if j = i then v else τ j := by
 by_cases h : j = i
 ·subst h; rw [Zxe, if_pos rfl]
 ·rw [Yca, if_neg h]
  cases hb : Nat.beq j i with
  | false => rfl
  | true => exact absurd (Nat.eq_of_beq_eq_true hb) h
structure Agr (N : Nat) (t : Tr) (τ : Tau) : Prop where
 has : ∀ i, i < N → t.has i = true
 get : ∀ i, i < N → t.get i = τ i
theorem Agr.set {N : Nat} {t : Tr} {τ : Tau} (h : Agr N t τ) (i : Tmp) (v : Value) (hi : i < N) : Agr N (t.set i v) (tset τ i v) :=
 ⟨fun j hj => by rw [Tr.has_set]; exact h.has j hj, fun j hj => by
  rw [Tr.get_set, Zad]
  by_cases e : j = i
  ·subst e; rw [if_pos ⟨rfl, h.has j hj⟩, if_pos rfl]
  ·rw [if_neg (fun h => e h.1), if_neg e]; exact h.get j hj⟩
theorem Agr.known {N : Nat} {t : Tr} {τ : Tau} (h : Agr N t τ) (i : Tmp) (v : Value) (hi : τ i = v) : Agr N t (tset τ i v) :=
 ⟨h.has, fun j hj => by
  rw [Zad]
  by_cases e : j = i
  ·subst e; rw [if_pos rfl, h.get j hj, hi]
  ·rw [if_neg e]; exact h.get j hj⟩
theorem Agr.refl {N : Nat} {t : Tr} (h : ∀ i, i < N → t.has i = true) : Agr N t t.get := ⟨h, fun _ _ => rfl⟩
def oval (τ : Tau) : Operand → Value
 | .tmp i => τ i
 | .const v => v
 | .global g => .pointer (some ⟨g, 0, none⟩)
 | .func f => .func (.func f) #[] #[]
def osub (τ : Tau) (x : Operand) : Operand := .const (oval τ x)
def ltT (N : Nat) : Operand → Bool
 | .tmp i => Nat.blt i N
 | _ => true
theorem Zta {i n : Nat} (h : Nat.blt i n = true) : i < n := by
 have : Nat.ble (i + 1) n = true := h
 exact Nat.le_of_ble_eq_true this
theorem Zar {N : Nat} {t : Tr} {τ : Tau} (h : Agr N t τ) {x : Operand} (hx : ltT N x = true) : aval t x = oval τ x := by
 cases x with
 | tmp i => exact h.get i (Zta hx)
 | _ => rfl
def Zi9 (τ : Tau) (l : List (Nat × Operand)) : List (Nat × Operand) := l.map fun p => (p.1, osub τ p.2)
def Zlm (τ : Tau) : Callee → Callee
 | .value f => .value (osub τ f)
 | .invoke r m => .invoke (osub τ r) m
 | .builtin b => .builtin b
def Zik (τ : Tau) (c : Call) : Call := { callee := Zlm τ c.callee, args := ⟨c.args.toList.map (osub τ)⟩, argTypes := c.argTypes }
def Zdo (τ : Tau) : Op → Op
 | .move x => .move (osub τ x)
 | .assign x => .assign (osub τ x)
 | .pick c a b => .pick (osub τ c) (osub τ a) (osub τ b)
 | .box e x => .box e (osub τ x)
 | .build t ps => .build t ⟨Zi9 τ ps.toList⟩
 | .buildSlice t n ps => .buildSlice t n ⟨Zi9 τ ps.toList⟩
 | .insert t m k v => .insert t (osub τ m) (osub τ k) (osub τ v)
 | .load t a => .load t (osub τ a)
 | .store t a x => .store t (osub τ a) (osub τ x)
 | .nilCheck x => .nilCheck (osub τ x)
 | .binOp o t x y r => .binOp o t (osub τ x) (osub τ y) r
 | .unOp o t x => .unOp o t (osub τ x)
 | .convert s d x => .convert s d (osub τ x)
 | .sliceToArrayPointer d x => .sliceToArrayPointer d (osub τ x)
 | .makeFunc f a c => .makeFunc f ⟨a.toList.map (osub τ)⟩ ⟨c.toList.map (osub τ)⟩
 | .makeSlice t l c => .makeSlice t (osub τ l) (osub τ c)
 | .slice t x lo hi mx => .slice t (osub τ x) (lo.map (osub τ)) (hi.map (osub τ)) (mx.map (osub τ))
 | .fieldAddr t x f => .fieldAddr t (osub τ x) f
 | .field t x f => .field t (osub τ x) f
 | .indexAddr t x i => .indexAddr t (osub τ x) (osub τ i)
 | .index t x i => .index t (osub τ x) (osub τ i)
 | .lookup t x i ok => .lookup t (osub τ x) (osub τ i) ok
 | .mapUpdate t m k v => .mapUpdate t (osub τ m) (osub τ k) (osub τ v)
 | .range t x => .range t (osub τ x)
 | .entry x => .entry (osub τ x)
 | .extract x i => .extract (osub τ x) i
 | .call c => .call (Zik τ c)
 | .defer c => .defer (Zik τ c)
 | o => o
def mkO (op : Op) (ty : TypeId) : Oper := { dst := none, op := op, type := ty, pos := "", after := #[], guard := none }
def Zvp : Op → Bool
 | .binOp _ _ (.const .nilIface) (.const .nilIface) _ => false
 | _ => true
def ltC (N : Nat) (c : Call) : Bool := c.args.toList.all (ltT N) && (match c.callee with | .value f => ltT N f | .invoke r _ => ltT N r | _ => true)
def ltOp (N : Nat) : Op → Bool
 | .move x => ltT N x
 | .assign x => ltT N x
 | .pick c a b => ltT N c && (ltT N a && ltT N b)
 | .box _ x => ltT N x
 | .build _ ps => ps.toList.all fun p => ltT N p.2
 | .buildSlice _ _ ps => ps.toList.all fun p => ltT N p.2
 | .insert _ m k v => ltT N m && (ltT N k && ltT N v)
 | .load _ a => ltT N a
 | .store _ a x => ltT N a && ltT N x
 | .nilCheck x => ltT N x
 | .binOp _ _ x y _ => ltT N x && ltT N y
 | .unOp _ _ x => ltT N x
 | .convert _ _ x => ltT N x
 | .sliceToArrayPointer _ x => ltT N x
 | .makeFunc _ a c => a.toList.all (ltT N) && c.toList.all (ltT N)
 | .makeSlice _ l c => ltT N l && ltT N c
 | .slice _ x lo hi mx => ltT N x && (lo.all (ltT N) && (hi.all (ltT N) && mx.all (ltT N)))
 | .fieldAddr _ x _ => ltT N x
 | .field _ x _ => ltT N x
 | .indexAddr _ x i => ltT N x && ltT N i
 | .index _ x i => ltT N x && ltT N i
 | .lookup _ x i _ => ltT N x && ltT N i
 | .mapUpdate _ m k v => ltT N m && (ltT N k && ltT N v)
 | .range _ x => ltT N x
 | .entry x => ltT N x
 | .extract x _ => ltT N x
 | .call c => ltC N c
 | .defer c => ltC N c
 | _ => true
section
variable {P : Program} {ro N : Nat} {t : Tr} {τ : Tau}
theorem Za9 (x : Operand) : aval .e (osub τ x) = oval τ x := rfl
theorem Zlr (h : Agr N t τ) : ∀ {l : List Operand}, l.all (ltT N) = true → Zer .e (l.map (osub τ)) = Zer t l
 | [], _ => rfl
 | x :: r, hl => by
  simp only [List.all_cons, Bool.and_eq_true] at hl
  simp only [List.map_cons, Zer, Za9, Zar h hl.1, Zlr h hl.2]
theorem Zk5 (h : Agr N t τ) : ∀ {l : List (Nat × Operand)}, (l.all fun p => ltT N p.2) = true → Zbf .e (Zi9 τ l) = Zbf t l
 | [], _ => rfl
 | (i, x) :: r, hl => by
  simp only [List.all_cons, Bool.and_eq_true] at hl
  have := Zk5 h hl.2
  simp only [Zi9] at this
  simp only [Zi9, List.map_cons, Zbf, Za9, Zar h hl.1, this]
theorem Zl5 (h : Agr N t τ) {x : Option Operand} (hx : x.all (ltT N) = true) : (x.map (osub τ)).map (aval .e) = x.map (aval t) := by
 cases x with
 | none => rfl
 | some y => simp only [Option.map_some, Za9, Zar h (by simpa using hx)]
theorem Zsz (h : Agr N t τ) {x : Option Operand} (hx : x.all (ltT N) = true) : Zs0 .e (x.map (osub τ)) = Zs0 t x := by
 cases x with
 | none => rfl
 | some y => simp only [Option.map_some, Zs0, Option.all_some, Za9, Zar h (by simpa using hx)]
theorem Z9i (h : Agr N t τ) {o : Oper} (ho : ltOp N o.op = true) {s : St} {r : AR × St} (hn : Zvp (Zdo τ o.op) = true) (e : aop P ro .e (mkO (Zdo τ o.op) o.type) s = some r) : aop P ro t o s = some r := by
 obtain ⟨dst, op, type, pos, after, guard⟩ := o
 simp only at ho hn e
 cases op with
 | move x => simpa only [aop, mkO, Zdo, Za9, Zar h ho] using e
 | assign x => simpa only [aop, mkO, Zdo, Za9, Zar h ho] using e
 | pick c a b =>
  simp only [ltOp, Bool.and_eq_true] at ho
  simpa only [aop, mkO, Zdo, Za9, Zar h ho.1, Zar h ho.2.1, Zar h ho.2.2] using e
 | alloc el => exact e
 | box el x => simpa only [aop, mkO, Zdo, Za9, Zar h ho] using e
 | build ty ps =>
  simp only [ltOp] at ho
  simpa only [aop, mkO, Zdo, Zk5 h ho] using e
 | buildSlice ty n ps =>
  simp only [ltOp] at ho
  simpa only [aop, mkO, Zdo, Zk5 h ho] using e
 | insert ty m k v =>
  simp only [ltOp, Bool.and_eq_true] at ho
  simpa only [aop, mkO, Zdo, Za9, Zar h ho.1, Zar h ho.2.1, Zar h ho.2.2] using e
 | load ty a => simpa only [aop, mkO, Zdo, Za9, Zar h ho] using e
 | store ty a x =>
  simp only [ltOp, Bool.and_eq_true] at ho
  simpa only [aop, mkO, Zdo, Za9, Zar h ho.1, Zar h ho.2] using e
 | nilCheck x => simpa only [aop, mkO, Zdo, Za9, Zar h ho] using e
 | binOp bo ty x y rt =>
  simp only [ltOp, Bool.and_eq_true] at ho
  have hx := Zar h ho.1
  have hy := Zar h ho.2
  simp only [aop, mkO, Zdo, Za9, hx, hy] at e ⊢
  revert e
  unfold abin
  split
  ·exact fun e => e
  ·intro e
   cases hf : (Zct (oval τ x) && Zct (oval τ y)) with
   | false => rw [hf] at e; exact e
   | true =>
    rw [hf] at e
    simp only [cond_true] at e ⊢
    have key : Zdk P t { dst := dst, op := .binOp bo ty x y rt, type := type, pos := pos, after := after, guard := guard } = Zdk P .e { dst := none, op := .binOp bo ty (osub τ x) (osub τ y) rt, type := type, pos := "", after := #[], guard := none } := by
     simp only [Zdk, execOp, Za9, hx, hy]
     have hg : eqGuard bo ty x y (oval τ x) (oval τ y) = eqGuard bo ty (osub τ x) (osub τ y) (oval τ x) (oval τ y) := by
      simp only [Zvp, Zdo, osub] at hn
      unfold eqGuard
      cases hx' : oval τ x <;> cases hy' : oval τ y <;> first | rfl | (rw [hx', hy'] at hn; simp at hn)
     rw [hg]
    rw [key]; exact e
 | unOp uo ty x =>
  have hx := Zar h ho
  have key : Zdk P t { dst := dst, op := .unOp uo ty x, type := type, pos := pos, after := after, guard := guard } = Zdk P .e { dst := none, op := .unOp uo ty (osub τ x), type := type, pos := "", after := #[], guard := none } := by
   simp only [Zdk, execOp, Za9, hx]
  simp only [aop, mkO, Zdo, Za9, hx] at e ⊢
  unfold anot at e ⊢
  split <;> simp_all [aun]
 | convert sr ds x =>
  have hx := Zar h ho
  have key : Zdk P t { dst := dst, op := .convert sr ds x, type := type, pos := pos, after := after, guard := guard } = Zdk P .e { dst := none, op := .convert sr ds (osub τ x), type := type, pos := "", after := #[], guard := none } := by
   simp only [Zdk, execOp, Za9, hx]
  simp only [aop, mkO, Zdo, Za9, hx] at e ⊢
  unfold Zq8 aun at e ⊢
  rw [key]; exact e
 | sliceToArrayPointer ty x => simpa only [aop, mkO, Zdo, Za9, Zar h ho] using e
 | makeFunc f a c =>
  simp only [ltOp, Bool.and_eq_true] at ho
  simpa only [aop, mkO, Zdo, amk, Zlr h ho.1, Zlr h ho.2] using e
 | makeMap ty rs => exact e
 | makeSlice ty l c =>
  simp only [ltOp, Bool.and_eq_true] at ho
  simpa only [aop, mkO, Zdo, Za9, Zar h ho.1, Zar h ho.2] using e
 | slice ty x lo hi mx =>
  simp only [ltOp, Bool.and_eq_true] at ho
  have hx := Zar h ho.1
  have key : Zdk P t { dst := dst, op := .slice ty x lo hi mx, type := type, pos := pos, after := after, guard := guard } = Zdk P .e { dst := none, op := .slice ty (osub τ x) (lo.map (osub τ)) (hi.map (osub τ)) (mx.map (osub τ)), type := type, pos := "", after := #[], guard := none } := by
   simp only [Zdk, execOp, Za9, hx, Zl5 h ho.2.1, Zl5 h ho.2.2.1, Zl5 h ho.2.2.2]
  simp only [aop, mkO, Zdo, Za9, hx, asl, Zsz h ho.2.1, Zsz h ho.2.2.1, Zsz h ho.2.2.2, Zl5 h ho.2.1, Zl5 h ho.2.2.1, Zl5 h ho.2.2.2] at e ⊢
  rw [key]; exact e
 | fieldAddr ty x f => simpa only [aop, mkO, Zdo, Za9, Zar h ho] using e
 | field ty x f => simpa only [aop, mkO, Zdo, Za9, Zar h ho] using e
 | indexAddr ty x i =>
  simp only [ltOp, Bool.and_eq_true] at ho
  simpa only [aop, mkO, Zdo, Za9, Zar h ho.1, Zar h ho.2] using e
 | index ty x i =>
  simp only [ltOp, Bool.and_eq_true] at ho
  have hx := Zar h ho.1
  have hy := Zar h ho.2
  have key : Zdk P t { dst := dst, op := .index ty x i, type := type, pos := pos, after := after, guard := guard } = Zdk P .e { dst := none, op := .index ty (osub τ x) (osub τ i), type := type, pos := "", after := #[], guard := none } := by
   simp only [Zdk, execOp, Za9, hx, hy]
  simp only [aop, mkO, Zdo, Za9, hx, hy, aix] at e ⊢
  rw [key]; exact e
 | lookup ty x i ok =>
  simp only [ltOp, Bool.and_eq_true] at ho
  simpa only [aop, mkO, Zdo, Za9, Zar h ho.1, Zar h ho.2] using e
 | mapUpdate ty m k v =>
  simp only [ltOp, Bool.and_eq_true] at ho
  simpa only [aop, mkO, Zdo, Za9, Zar h ho.1, Zar h ho.2.1, Zar h ho.2.2] using e
 | range ty x => simpa only [aop, mkO, Zdo, Za9, Zar h ho] using e
 | entry x => simpa only [aop, mkO, Zdo, Za9, Zar h ho] using e
 | extract x i => simpa only [aop, mkO, Zdo, Za9, Zar h ho] using e
 | call c =>
  obtain ⟨callee, args, tys⟩ := c
  simp only [ltOp, ltC, Bool.and_eq_true] at ho
  cases callee with
  | value f =>
   simp only [aop, mkO, Zdo, Zik, Zlm, Zin, Za9, Zlr h ho.1] at e ⊢
   rw [Zar h ho.2]; exact e
  | invoke rc m => exact e
  | builtin b =>
   have ha : (Array.mk (args.toList.map (osub τ))).map (aval .e) = args.map (aval t) := by
    apply Array.ext'
    simp only [Array.toList_map, List.map_map]
    refine List.map_congr_left fun x hx => ?_
    exact (Zar h (List.all_eq_true.1 ho.1 x hx)).symm
   have key : ∀ b', b = b' → (b' = .len ∨ b' = .min ∨ b' = .max) → Zdk P t { dst := dst, op := .call { callee := .builtin b, args := args, argTypes := tys }, type := type, pos := pos, after := after, guard := guard } = Zdk P .e { dst := none, op := .call { callee := .builtin b, args := ⟨args.toList.map (osub τ)⟩, argTypes := tys }, type := type, pos := "", after := #[], guard := none } := by
    intro b' hb hb'
    subst hb
    rcases hb' with rfl | rfl | rfl <;> (simp only [Zdk, execOp, resolve, ha]; rfl)
   simp only [aop, mkO, Zdo, Zik, Zlm, Zin, Zie, Zlr h ho.1, Zqh] at e ⊢
   cases b <;> first | exact e | (rw [key _ rfl (by simp)]; exact e)
 | «defer» c =>
  obtain ⟨callee, args, tys⟩ := c
  simp only [ltOp, ltC, Bool.and_eq_true] at ho
  have ha : (Array.mk (args.toList.map (osub τ))).map (aval .e) = args.map (aval t) := by
   apply Array.ext'
   simp only [Array.toList_map, List.map_map]
   refine List.map_congr_left fun x hx => ?_
   exact (Zar h (List.all_eq_true.1 ho.1 x hx)).symm
  cases callee with
  | value f =>
   simp only [aop, mkO, Zdo, Zik, Zlm, Zmg, Za9, ha] at e ⊢
   rw [Zar h ho.2]; exact e
  | invoke rc m => exact e
  | builtin b => exact e
 | _ => exact e
end
end Go.VE
namespace Go.VE
open Go
abbrev WK := Tau → List Deferred → St → Prop
section
variable [Memo] (P : Program) (ro : Nat)
def CallWP (f : FuncId) (args : List Value) (s : St) (K : Value → St → Prop) : Prop := ∃ n v s', Znx P ro (ev P ro n) f args s = some (v, s') ∧ K v s'
def Zlx (l : Nat) (t : Tr) (assign body : Code) (s : St) (K : Value → St → Prop) : Prop := ∃ n v s', Zon ro (ev P ro n) l t assign body s = some (v, s') ∧ K v s'
def wfol (K : Value → St → Prop) : Option (AR × St) → Prop
 | some (.val v, s) => K v s
 | some (.skip, s) => K undef s
 | some (.enter f args, s) => CallWP P ro f args s K
 | some (.round l t assign body, s) => Zlx P ro l t assign body s K
 | some (.dfr _, _) => False
 | none => False
def wop (op : Op) (ty : TypeId) (s : St) (K : Value → St → Prop) : Prop := wfol P ro K (bif Zvp op then aop P ro .e (mkO op ty) s else none)
def wcall (f : Value) (args : List Value) (s : St) (K : Value → St → Prop) : Prop :=
 match f with
 | .func (.func k) first cap => CallWP P ro k (first.toList ++ (args ++ cap.toList)) s K
 | .func (.yield l) (.mk []) (.mk []) => wfol P ro K (Ztb s l args (s.at l))
 | _ => False
def wdfr (K : Deferred → St → Prop) : Option (AR × St) → Prop
 | some (.dfr d, s) => K d s
 | _ => False
def wdefer (op : Op) (ty : TypeId) (s : St) (K : Deferred → St → Prop) : Prop := wdfr K (aop P ro .e (mkO op ty) s)
end
def Zvl (τ : Tau) : List Operand → List Value
 | [] => []
 | x :: r => oval τ x :: Zvl τ r
def tput (τ : Tau) (dst : Option Tmp) (v : Value) : Tau :=
 match dst with
 | some d => tset τ d v
 | none => τ
def wdec (v : Value) (A B : Prop) : Prop :=
 match v with
 | .bool true => A
 | .bool false => B
 | _ => False
def Zz0 (τ : Tau) (x : Operand) (A B : Tau → Prop) : Prop :=
 match x with
 | .tmp i => wdec (τ i) (A (tset τ i (.bool true))) (B (tset τ i (.bool false)))
 | x => wdec (oval τ x) (A τ) (B τ)
section
variable [Memo] (P : Program) (ro : Nat) (rnd : Option Nat)
def w1 (o : Oper) (τ : Tau) (ds : List Deferred) (s : St) (K : WK) : Prop :=
 match o.op with
 | .move x => K (tput τ o.dst (oval τ x)) ds s
 | .assign x => K (tput τ o.dst (oval τ x)) ds s
 | .pick c a b => Zz0 τ c (fun τ => K (tput τ o.dst (oval τ a)) ds s) (fun τ => K (tput τ o.dst (oval τ b)) ds s)
 | .defer c => rnd = none ∧ wdefer P ro (.defer (Zik τ c)) o.type s fun d s' => K (tput τ o.dst undef) (d :: ds) s'
 | .call c => (match c.callee with
  | .value f => wcall P ro (oval τ f) (Zvl τ c.args.toList) s fun v s' => K (tput τ o.dst v) ds s'
  | _ => wop P ro (.call (Zik τ c)) o.type s fun v s' => K (tput τ o.dst v) ds s')
 | op => wop P ro (Zdo τ op) o.type s fun v s' => K (tput τ o.dst v) ds s'
def gdst (all : List Oper) (j : Nat) : Option Tmp :=
 match all[j]? with
 | some g => g.dst
 | none => none
def Zj5 (all : List Oper) (sk : List Nat) (dst : Option Tmp) : List Nat :=
 match dst with
 | some d => sk.filter fun j => !((gdst all j).any (Nat.beq d))
 | none => sk
def Zt1 (all : List Oper) (sk : List Nat) (o : Oper) (τ : Tau) (A B : Tau → Prop) : Prop :=
 match o.guard with
 | none => A τ
 | some (j, want) => bif sk.any (Nat.beq j) then B τ else
  match gdst all j with
  | some d => wdec (τ d) (bif want then A (tset τ d (.bool true)) else B (tset τ d (.bool true))) (bif want then B (tset τ d (.bool false)) else A (tset τ d (.bool false)))
  | none => B τ
def wops (all : List Oper) : List Oper → Nat → List Nat → Tau → List Deferred → St → WK → Prop
 | [], _, _, τ, ds, s, K => K τ ds s
 | o :: r, i, sk, τ, ds, s, K => Zt1 all sk o τ (fun τ => w1 P ro rnd o τ ds s fun τ ds s => wops all r (i + 1) (Zj5 all sk o.dst) τ ds s K) (fun τ => wops all r (i + 1) (i :: Zj5 all sk o.dst) (tput τ o.dst undef) ds s K)
end
def Tr.put (t : Tr) (dst : Option Tmp) (v : Value) : Tr :=
 match dst with
 | some d => t.set d v
 | none => t
def ltD (N : Nat) : Option Tmp → Bool
 | some d => Nat.blt d N
 | none => true
def Zhm (N : Nat) (o : Oper) : Bool := ltOp N o.op && ltD N o.dst
section
variable {P : Program} {ro N : Nat} {rnd : Option Nat}
theorem Agr.put {t : Tr} {τ : Tau} (h : Agr N t τ) {dst : Option Tmp} (hd : ltD N dst = true) (v : Value) : Agr N (t.put dst v) (tput τ dst v) := by
 cases dst with
 | none => exact h
 | some d => exact h.set d v (Zta hd)
theorem Zjy (t : Tr) (ds : List Deferred) (rnd : Option Nat) (dst : Option Tmp) (v : Value) : (Fr.mk t ds rnd).put dst v = ⟨t.put dst v, ds, rnd⟩ := by
 cases dst <;> rfl
theorem Zoy {v : Value} {A B : Prop} (h : wdec v A B) : (v = .bool true ∧ A) ∨ (v = .bool false ∧ B) := by
 unfold wdec at h
 split at h
 ·exact .inl ⟨rfl, h⟩
 ·exact .inr ⟨rfl, h⟩
 ·exact h.elim
theorem Z2z {τ : Tau} {x : Operand} {A B : Tau → Prop} (h : Zz0 τ x A B) : (oval τ x = .bool true ∧ A τ) ∨ (oval τ x = .bool false ∧ B τ) := by
 unfold Zz0 at h
 have key : ∀ (i : Tmp) (v : Value), τ i = v → tset τ i v = τ := fun i v hv => by
  funext j
  rw [Zad]
  split
  ·rename_i hj; rw [hj, hv]
  ·rfl
 split at h
 ·rename_i i
  rcases Zoy h with ⟨h1, h2⟩ | ⟨h1, h2⟩
  ·rw [key i _ h1] at h2; exact .inl ⟨h1, h2⟩
  ·rw [key i _ h1] at h2; exact .inr ⟨h1, h2⟩
 ·exact Zoy h
def SkOk (all : List Oper) (sk : List Nat) (τ : Tau) : Prop := ∀ j ∈ sk, ∀ d, gdst all j = some d → τ d = undef
theorem SkOk.put {all : List Oper} {sk : List Nat} {τ : Tau} (h : SkOk all sk τ) (dst : Option Tmp) (v : Value) : SkOk all (Zj5 all sk dst) (tput τ dst v) := by
 intro j hj d hd
 unfold Zj5 at hj
 unfold tput
 cases dst with
 | none => exact h j hj d hd
 | some e =>
  obtain ⟨h1, h2⟩ := List.mem_filter.1 hj
  simp only
  rw [Zad]
  by_cases hde : d = e
  ·subst hde
   rw [hd] at h2
   simp [Nat.beq_refl] at h2
  ·rw [if_neg hde]; exact h j h1 d hd
theorem SkOk.skip {all : List Oper} {sk : List Nat} {τ : Tau} {i : Nat} {o : Oper} (h : SkOk all sk τ) (hi : all[i]? = some o) : SkOk all (i :: Zj5 all sk o.dst) (tput τ o.dst undef) := by
 intro j hj d hd
 rcases List.mem_cons.1 hj with rfl | hj
 ·unfold gdst at hd
  rw [hi] at hd
  simp only at hd
  rw [hd]
  exact Zxe _ _ _
 ·exact h.put o.dst undef j hj d hd
theorem Zw8 {all : List Oper} {sk : List Nat} {o : Oper} {τ : Tau} {A B : Tau → Prop} (h : Zt1 all sk o τ A B) {t : Tr} (ht : Agr N t τ) (hl : all.all (Zhm N) = true) (hsk : SkOk all sk τ) :
  (Zce all o t = true ∧ A τ) ∨ (Zce all o t = false ∧ B τ) := by
 unfold Zt1 gdst at h
 unfold Zce
 have key : ∀ (i : Tmp) (v : Value), τ i = v → tset τ i v = τ := fun i v hv => by
  funext j
  rw [Zad]
  split
  ·rename_i hj; rw [hj, hv]
  ·rfl
 cases hg : o.guard with
 | none => rw [hg] at h; exact .inl ⟨rfl, h⟩
 | some jw =>
  obtain ⟨j, want⟩ := jw
  rw [hg] at h
  simp only at h ⊢
  cases hs : sk.any (Nat.beq j) with
  | true =>
   rw [hs] at h
   obtain ⟨j', hj', hbq⟩ := List.any_eq_true.1 hs
   obtain rfl := Nat.eq_of_beq_eq_true hbq
   refine .inr ⟨?_, h⟩
   cases hj : all[j]? with
   | none => rfl
   | some g =>
    simp only
    cases hd : g.dst with
    | none => rfl
    | some d =>
     simp only
     have hlt : d < N := by
      have := List.all_eq_true.1 hl g (List.mem_of_getElem? hj)
      simp only [Zhm, Bool.and_eq_true, hd] at this
      exact Zta this.2
     rw [ht.get d hlt, hsk j hj' d (by unfold gdst; rw [hj]; exact hd)]
     rfl
  | false =>
  rw [hs] at h
  simp only [cond_false] at h
  cases hj : all[j]? with
  | none => rw [hj] at h; exact .inr ⟨rfl, h⟩
  | some g =>
   rw [hj] at h
   simp only at h ⊢
   cases hd : g.dst with
   | none => rw [hd] at h; exact .inr ⟨rfl, h⟩
   | some d =>
    rw [hd] at h
    simp only at h ⊢
    have hlt : d < N := by
     have := List.all_eq_true.1 hl g (List.mem_of_getElem? hj)
     simp only [Zhm, Bool.and_eq_true, hd] at this
     exact Zta this.2
    rw [ht.get d hlt]
    rcases Zoy h with ⟨h1, h2⟩ | ⟨h1, h2⟩
    ·rw [key d _ h1] at h2
     rw [h1]
     cases want
     ·exact .inr ⟨rfl, h2⟩
     ·exact .inl ⟨rfl, h2⟩
    ·rw [key d _ h1] at h2
     rw [h1]
     cases want
     ·exact .inl ⟨rfl, h2⟩
     ·exact .inr ⟨rfl, h2⟩
theorem Ztc {t : Tr} {τ : Tau} (h : Agr N t τ) : ∀ {l : List Operand}, l.all (ltT N) = true → Zer t l = Zvl τ l
 | [], _ => rfl
 | x :: r, hl => by
  simp only [List.all_cons, Bool.and_eq_true] at hl
  rw [Zer, Zvl, Zar h hl.1, Ztc h hl.2]
theorem Z23 [Memo] {o : Oper} {t : Tr} {τ : Tau} {ds : List Deferred} {s : St} {K : WK} (h : Agr N t τ) (ho : Zhm N o = true) (hw : w1 P ro rnd o τ ds s K) :
  ∃ n v τ' ds' s', Zdu P ro (ev P ro n) o ⟨t, ds, rnd⟩ s = some (⟨t.put o.dst v, ds', rnd⟩, s') ∧ Agr N (t.put o.dst v) τ' ∧ τ' = tput τ o.dst v ∧ K τ' ds' s' := by
 simp only [Zhm, Bool.and_eq_true] at ho
 obtain ⟨ho, hd⟩ := ho
 have fin : ∀ {r : Option (AR × St)}, aop P ro t o s = r → wfol P ro (fun v s' => K (tput τ o.dst v) ds s') r →
   ∃ n v τ' ds' s', Zdu P ro (ev P ro n) o ⟨t, ds, rnd⟩ s = some (⟨t.put o.dst v, ds', rnd⟩, s') ∧ Agr N (t.put o.dst v) τ' ∧ τ' = tput τ o.dst v ∧ K τ' ds' s' := by
  intro r e' hw
  unfold Zdu
  simp only [e']
  cases r with
  | none => exact hw.elim
  | some x =>
  obtain ⟨a, s1⟩ := x
  cases a with
  | val v => exact ⟨0, v, _, ds, s1, by rw [Zcp, Zjy], h.put hd v, rfl, hw⟩
  | skip => exact ⟨0, undef, _, ds, s1, by rw [Zcp, Zjy], h.put hd undef, rfl, hw⟩
  | enter f args =>
   obtain ⟨n, v, s', e1, hk⟩ := hw
   exact ⟨n, v, _, ds, s', by rw [Zcp, e1]; simp only [putV, Zjy], h.put hd v, rfl, hk⟩
  | round l t' assign body =>
   obtain ⟨n, v, s', e1, hk⟩ := hw
   exact ⟨n, v, _, ds, s', by rw [Zcp, e1]; simp only [putV, Zjy], h.put hd v, rfl, hk⟩
  | dfr d => exact hw.elim
 have gen : wop P ro (Zdo τ o.op) o.type s (fun v s' => K (tput τ o.dst v) ds s') →
   ∃ n v τ' ds' s', Zdu P ro (ev P ro n) o ⟨t, ds, rnd⟩ s = some (⟨t.put o.dst v, ds', rnd⟩, s') ∧ Agr N (t.put o.dst v) τ' ∧ τ' = tput τ o.dst v ∧ K τ' ds' s' := by
  intro hw
  unfold wop at hw
  cases hn : Zvp (Zdo τ o.op) with
  | false => rw [hn] at hw; exact hw.elim
  | true =>
   rw [hn, cond_true] at hw
   cases e : aop P ro .e (mkO (Zdo τ o.op) o.type) s with
   | none => rw [e] at hw; exact hw.elim
   | some r => rw [e] at hw; exact fin (Z9i h ho hn e) hw
 unfold w1 at hw
 split at hw
 ·rename_i x hop
  rw [hop] at ho
  refine ⟨0, oval τ x, _, ds, s, ?_, h.put hd _, rfl, hw⟩
  unfold Zdu
  simp only [aop, hop, Zcp, Zjy, Zar h ho]
 ·rename_i x hop
  rw [hop] at ho
  refine ⟨0, oval τ x, _, ds, s, ?_, h.put hd _, rfl, hw⟩
  unfold Zdu
  simp only [aop, hop, Zcp, Zjy, Zar h ho]
 ·rename_i c a b hop
  rw [hop] at ho
  simp only [ltOp, Bool.and_eq_true] at ho
  rcases Z2z hw with ⟨h1, h2⟩ | ⟨h1, h2⟩
  ·refine ⟨0, oval τ a, _, ds, s, ?_, h.put hd _, rfl, h2⟩
   unfold Zdu
   simp only [aop, hop, Zar h ho.1, h1, Z2k, Zcp, Zjy, Zar h ho.2.1]
  ·refine ⟨0, oval τ b, _, ds, s, ?_, h.put hd _, rfl, h2⟩
   unfold Zdu
   simp only [aop, hop, Zar h ho.1, h1, Z2k, Zcp, Zjy, Zar h ho.2.2]
 ·rename_i c hop
  obtain ⟨hr, hw⟩ := hw
  subst hr
  unfold wdefer at hw
  cases e : aop P ro .e (mkO (.defer (Zik τ c)) o.type) s with
  | none => rw [e] at hw; exact hw.elim
  | some r =>
   have e' := Z9i (o := o) h (r := r) (s := s) (P := P) (ro := ro) ho (by rw [hop]; rfl) (by rw [hop]; exact e)
   rw [e] at hw
   obtain ⟨a, s1⟩ := r
   cases a with
   | dfr d =>
    refine ⟨0, undef, _, d :: ds, s1, ?_, h.put hd undef, rfl, hw⟩
    unfold Zdu
    simp only [e', Zcp, Zrl, Zjy]
   | _ => exact hw.elim
 ·rename_i c hop
  split at hw
  ·rename_i f hf
   have ho' : ltC N c = true := by rw [hop] at ho; exact ho
   simp only [ltC, hf, Bool.and_eq_true] at ho'
   refine fin (r := Zps (oval τ f) (Zvl τ c.args.toList) s) ?_ ?_
   ·unfold aop
    simp only [hop, Zin, hf, Zar h ho'.2, Ztc h ho'.1]
   ·revert hw
    unfold wcall
    split
    ·rename_i h1; rw [h1]; exact fun h => h
    ·rename_i h1; rw [h1]; exact fun h => h
    ·exact fun h => h.elim
  ·exact gen (by rw [hop]; exact hw)
 ·exact gen hw
theorem Zow [Memo] {all : List Oper} (hall : all.all (Zhm N) = true) : ∀ {l : List Oper} {i : Nat} {sk : List Nat} {t : Tr} {τ : Tau} {ds : List Deferred} {s : St} {K : WK}, Agr N t τ → (∀ q, l[q]? = all[i + q]?) → l.all (Zhm N) = true → SkOk all sk τ → wops P ro rnd all l i sk τ ds s K →
  ∃ n t' ds' s' τ', aops P ro (ev P ro n) all l ⟨t, ds, rnd⟩ s = some (⟨t', ds', rnd⟩, s') ∧ Agr N t' τ' ∧ K τ' ds' s'
 | [], _, _, t, τ, ds, s, K, h, _, _, _, hw => ⟨0, t, ds, s, τ, rfl, h, hw⟩
 | o :: r, i, sk, t, τ, ds, s, K, h, hi, hl, hsk, hw => by
  simp only [List.all_cons, Bool.and_eq_true] at hl
  have hi' : ∀ q, r[q]? = all[i + 1 + q]? := fun q => by have := hi (q + 1); rw [List.getElem?_cons_succ] at this; rw [this]; congr 1; omega
  rcases Zw8 hw h hall hsk with ⟨ha, hw⟩ | ⟨ha, hw⟩
  ·obtain ⟨n1, v, τ1, ds1, s1, e1, h1, hτ, hk⟩ := Z23 h hl.1 hw
   have hsk1 : SkOk all (Zj5 all sk o.dst) τ1 := by
    rcases hτ with rfl
    exact hsk.put _ _
   obtain ⟨n2, t2, ds2, s2, τ2, e2, h2, hk2⟩ := Zow hall h1 hi' hl.2 hsk1 hk
   refine ⟨max n1 n2, t2, ds2, s2, τ2, ?_, h2, hk2⟩
   rw [Zor, ha]
   simp only [cond_true]
   rw [Zme (Zem (Nat.le_max_left n1 n2)) e1]
   exact Zlu (Zem (Nat.le_max_right n1 n2)) e2
  ·have hd : ltD N o.dst = true := by
    have := hl.1
    simp only [Zhm, Bool.and_eq_true] at this
    exact this.2
   obtain ⟨n2, t2, ds2, s2, τ2, e2, h2, hk2⟩ := Zow hall (h.put hd undef) hi' hl.2 (hsk.skip (by have := hi 0; simpa using this.symm)) hw
   refine ⟨n2, t2, ds2, s2, τ2, ?_, h2, hk2⟩
   rw [Zor, ha]
   simp only [cond_false, Zjy]
   exact e2
end
end Go.VE
namespace Go.VE
open Go
def Zfn (m : Nat) : List Nat → Bool
 | [] => true
 | j :: r => m.testBit j && Zfn m r
theorem Zjo {m : Nat} : ∀ {l : List Nat}, Zfn m l = true → ∀ j ∈ l, m.testBit j = true
 | [], _, j, h => by cases h
 | a :: r, e, j, h => by
  simp only [Zfn, Bool.and_eq_true] at e
  rcases List.mem_cons.1 h with rfl | h
  ·exact e.1
  ·exact Zjo e.2 j h
def Z8s : Op → Bool
 | .convert _ _ _ => true
 | _ => false
def Zcm (s s' : St) : Prop := ∃ c t, s' = s.new (.cells c t false) ∧ veqL c c = true
def veqD (o : Oper) (τ : Tau) : Prop :=
 match o.dst with
 | some d => veq (τ d) (τ d) = true
 | none => True
def Znr (o : Oper) : List (Nat × Oper) → Bool
 | [] => true
 | x :: r => Yay o x.2 && Znr o r
theorem Zp9 {o : Oper} : ∀ {l : List (Nat × Oper)}, Znr o l = true → ∀ d, o.dst = some d → ∀ x ∈ l, x.2.dst ≠ some d
 | [], _, _, _, x, h => by cases h
 | y :: r, e, d, hd, x, h => by
  simp only [Znr, Bool.and_eq_true] at e
  rcases List.mem_cons.1 h with rfl | h
  ·exact fun h2 => Zut e.1 hd h2
  ·exact Zp9 e.2 d hd x h
theorem Z6e {P : Program} {s s' : St} (h : ∀ A, A < s.n → s'.at A = s.at A) {t : TypeId} {a v : Value} (e : Za4 P s t a = some v) : Za4 P s' t a = some v := by
 unfold Za4 at e ⊢
 split at e
 case h_2 => cases e
 case h_1 A o =>
  cases hs : s.at A with
  | none => rw [hs] at e; cases e
  | some u => rw [h A (St.at_lt hs)]; exact e
theorem Z2m {s s' : St} (h : ∀ A, A < s.n → s'.at A = s.at A) {size n : Nat} {x : Value} {c : List Value} (e : Zet s size n x = some c) : Zet s' size n x = some c := by
 unfold Zet at e ⊢
 split at e
 ·exact e
 ·rename_i A o m l cp
  split at e
  ·exact e
  ·rename_i k hk
   obtain ⟨hm, e⟩ := Zav e
   cases hs : s.at A with
   | none => rw [hs] at e; cases e
   | some u =>
    rw [hm, cond_true, h A (St.at_lt hs)]
    exact e
 ·exact e
 ·cases e
theorem Z6b {s s' : St} (h : ∀ A, A < s.n → s'.at A = s.at A) {m : Value} {es : List MapEntry} (e : Zzc s m = some es) : Zzc s' m = some es := by
 unfold Zzc at e ⊢
 split at e
 ·exact e
 ·rename_i A
  cases hs : s.at A with
  | none => rw [hs] at e; cases e
  | some u =>
   rw [hs] at e
   rw [h A (St.at_lt hs), hs]
   exact e
 ·cases e
theorem Zzd {P : Program} {s s' : St} (h : ∀ A, A < s.n → s'.at A = s.at A) {ty : TypeId} {m k v : Value} {ok : Bool} (e : Zjs P s ty m k ok = some v) : Zjs P s' ty m k ok = some v := by
 unfold Zjs at e ⊢
 split at e
 case h_2 => cases e
 case h_1 kd kt et hty =>
  obtain ⟨i, hi, e1⟩ := bind_some e
  obtain ⟨z, hz, e2⟩ := bind_some e1
  obtain ⟨es, hes, e3⟩ := bind_some e2
  simp only [hi, hz, Option.bind_some, Z6b h hes]
  exact e3
theorem Zwq {P : Program} {ro : Nat} {t : Tr} {o : Oper} {s s' : St} (h : ∀ A, A < s.n → s'.at A = s.at A) {v : Value} (hk : Zde o = .load) (e : aop P ro t o s = some (.val v, s)) : aop P ro t o s' = some (.val v, s') := by
 unfold Zde at hk
 split at hk
 case h_1 => cases hg : o.guard.isNone <;> rw [hg] at hk <;> cases hk
 case h_2 =>
 cases hop : o.op <;> simp only [hop, Zqu] at hk <;> (try cases hk) <;> simp only [aop, hop] at e ⊢
 case load ty a =>
  obtain ⟨v', h1, h2, _⟩ := Zay e
  cases h2
  rw [Z6e h h1]
  rfl
 case lookup ty x i ok =>
  obtain ⟨v', h1, h2, _⟩ := Zay e
  cases h2
  rw [Zzd h h1]
  rfl
 case convert src dst x =>
  unfold Zq8 at e ⊢
  split at e
  ·split at e
   ·obtain ⟨hu, e⟩ := Zav e
    obtain ⟨v', h1, h2, _⟩ := Zay e
    cases h2
    unfold astr at h1
    obtain ⟨c, hc, h1⟩ := bind_some h1
    rw [hu]
    simp only [cond_true, astr, Z2m h hc, Option.bind_some, h1]
    rfl
   ·cases e
  ·split at e
   ·unfold Zgu at e
    split at e
    ·have := congrArg (fun x => (x.map fun y => y.2.n).getD 0) e
     simp [St.new] at this
    ·cases e
   ·exact (Zf9 e).2.2 s'
  ·exact (Zf9 e).2.2 s'
 case call c => split at hk <;> cases hk
inductive Rng where
 | below (n : Nat)
 | blk (p : Nat)
 | ptr (a : Value)
def Keep1 : Rng → St → St → Prop
 | .below n, s, s' => ∀ A, A < n → A < s.n → s'.at A = s.at A
 | .blk p, s, s' => ∀ x, s.at p = some x → s'.at p = some x
 | .ptr a, s, s' => ∀ x y, a = .pointer (some x) → s.at x.block = some y → s'.at x.block = some y
theorem Keep1.refl (s : St) : ∀ g, Keep1 g s s
 | .below _ => fun _ _ _ => rfl
 | .blk _ => fun _ h => h
 | .ptr _ => fun _ _ _ h => h
theorem Keep1.trans {a b c : St} (hn : a.n ≤ b.n) : ∀ {g}, Keep1 g a b → Keep1 g b c → Keep1 g a c
 | .below _, h, k => fun A h1 h2 => (k A h1 (Nat.lt_of_lt_of_le h2 hn)).trans (h A h1 h2)
 | .blk _, h, k => fun x hx => k x (h x hx)
 | .ptr _, h, k => fun x y e hx => k x y e (h x y e hx)
theorem Grew.keep1 {a b : St} (h : Grew a b) : ∀ g, Keep1 g a b
 | .below _ => fun A _ h2 => h.same A h2
 | .blk p => fun x hx => by rw [h.same p (St.at_lt hx)]; exact hx
 | .ptr _ => fun x y _ hx => by rw [h.same x.block (St.at_lt hx)]; exact hx
def Yah (o : Oper) (τ : Tau) (s : St) : Rng :=
 match o.op with
 | .load _ x => .ptr (oval τ x)
 | _ => .below s.n
structure Keeps (l : List (Nat × Rng)) (s s' : St) : Prop where
 n : s.n ≤ s'.n
 all : ∀ x ∈ l, Keep1 x.2 s s'
theorem Keeps.refl {l : List (Nat × Rng)} (s : St) : Keeps l s s := ⟨Nat.le_refl _, fun x _ => .refl s x.2⟩
theorem Grew.keeps {l : List (Nat × Rng)} {s s' : St} (h : Grew s s') : Keeps l s s' := ⟨h.n, fun x _ => h.keep1 x.2⟩
def Zml (m : Nat) (l : List (Nat × Rng)) : List (Nat × Rng) := l.filter fun j => !m.testBit j.1
def Z88 (m : Nat) (l : List (Nat × Rng)) : List Nat := (l.filter fun j => m.testBit j.1).map (·.1)
def bimp (b : Bool) (A X : Prop) : Prop := bif b then A ∧ X else X
theorem Zol {b : Bool} {A X : Prop} (h : bimp b A X) : (b = true → A) ∧ X := by
 cases b
 ·exact ⟨fun h => (by cases h), h⟩
 ·exact ⟨fun _ => h.1, h.2⟩
def wact (ms : List Nat) (hasF : Bool) (i : Nat) (opn : List (Nat × Rng)) (cls : List Nat) (s s' : St) (rest : List (Nat × Rng) → List Nat → Prop) : Prop :=
 bif Zfn (nthN ms i) cls then
  bimp (!(Zml (nthN ms i) opn).isEmpty) (Keeps (Zml (nthN ms i) opn) s s') (bimp (hasF && (Zml (nthN ms i) opn).isEmpty) (s.n ≤ s'.n) (rest (Zml (nthN ms i) opn) (cls ++ Z88 (nthN ms i) opn)))
 else False
def Z9u (ms : List Nat) (i : Nat) (opn : List (Nat × Rng)) (cls : List Nat) (rest : List (Nat × Rng) → List Nat → Prop) : Prop :=
 bif Zfn (nthN ms i) cls then rest (Zml (nthN ms i) opn) (cls ++ Z88 (nthN ms i) opn) else False
def wrun [Memo] (P : Program) (ro : Nat) (rnd : Option Nat) (all : List Oper) (ms : List Nat) (hasA hasF : Bool) : List (Nat × Oper) → List Nat → List Nat → List (Nat × Rng) → List Nat → Tau → List Deferred → St → WK → Prop
 | [], _, _, _, _, τ, ds, s, K => K τ ds s
 | (i, o) :: r, sk, acts, opn, cls, τ, ds, s, K =>
  Zt1 all sk o τ
   (fun τ => w1 P ro rnd o τ ds s fun τ' ds' s' =>
    bif Zco o then wact ms hasF i opn cls s s' fun opn cls => wrun P ro rnd all ms hasA hasF r (Zj5 all sk o.dst) (i :: acts) opn cls τ' ds' s' K
    else bif Zd4 o then
     bif Zfn (nthN ms i) acts && Znr o r then bimp (Z8s o.op) (s' = s) (bimp hasA (veqD o τ') (wrun P ro rnd all ms hasA hasF r (Zj5 all sk o.dst) acts ((i, Yah o τ s) :: opn) cls τ' ds' s' K)) else False
    else bif Zbw o then
     bif Zfn (nthN ms i) acts then Zcm s s' ∧ wrun P ro rnd all ms hasA hasF r (Zj5 all sk o.dst) acts ((i, .blk s.n) :: opn) cls τ' ds' s' K else False
    else wrun P ro rnd all ms hasA hasF r (Zj5 all sk o.dst) acts opn cls τ' ds' s' K)
   (fun τ => bif Zco o then Z9u ms i opn cls fun opn cls => wrun P ro rnd all ms hasA hasF r (i :: Zj5 all sk o.dst) (i :: acts) opn cls (tput τ o.dst undef) ds s K
    else wrun P ro rnd all ms hasA hasF r (i :: Zj5 all sk o.dst) acts opn cls (tput τ o.dst undef) ds s K)
def Zuw : List (Nat × Oper) → Bool
 | [] => false
 | x :: r => Zco x.2 || Zuw r
def Zmf : List (Nat × Oper) → Bool
 | [] => false
 | x :: r => Zbw x.2 || Zmf r
def Z9x [Memo] (P : Program) (ro : Nat) (rnd : Option Nat) (l : List Oper) (τ : Tau) (ds : List Deferred) (s : St) (K : WK) : Prop :=
 wrun P ro rnd l (Zih l) (Zuw (Zek l)) (Zmf (Zek l)) (Zek l) [] [] [] [] τ ds s K
theorem Zqf : ∀ {l : List (Nat × Oper)}, Zuw l = false → ∀ x ∈ l, Zco x.2 = false
 | [], _, x, h => by cases h
 | y :: r, e, x, h => by
  simp only [Zuw, Bool.or_eq_false_iff] at e
  rcases List.mem_cons.1 h with rfl | h
  ·exact e.1
  ·exact Zqf e.2 x h
theorem Zm6 : ∀ {l : List (Nat × Oper)}, Zmf l = false → ∀ x ∈ l, Zbw x.2 = false
 | [], _, x, h => by cases h
 | y :: r, e, x, h => by
  simp only [Zmf, Bool.or_eq_false_iff] at e
  rcases List.mem_cons.1 h with rfl | h
  ·exact e.1
  ·exact Zm6 e.2 x h
theorem Zjt {ms : List Nat} {j : Nat} {f : St → Bool} {last : St} : ∀ {pre post : List (Nat × St × St)} {pm : Nat}, (∀ x ∈ pre, (nthN ms j).testBit x.1 = true) → (∀ pm, Zgg ms j f last pm post = true) → Zgg ms j f last pm (pre ++ post) = true
 | [], _, pm, _, h => h pm
 | (a, s, s1) :: r, post, pm, hp, h => by
  simp only [List.cons_append, Zgg, hp (a, s, s1) (by simp), Bool.true_or, Bool.or_true, Bool.true_and]
  exact Zjt (fun x hx => hp x (by simp [hx])) h
theorem Z9l {P : Program} {s b : St} {t : TypeId} {a v : Value} (h : Keep1 (.ptr a) s b) (e : Za4 P s t a = some v) : Za4 P b t a = some v := by
 unfold Za4 at e ⊢
 split at e
 case h_2 => cases e
 case h_1 A o =>
  cases hs : s.at A with
  | none => rw [hs] at e; cases e
  | some u => rw [hs] at e; rw [h _ u rfl hs]; exact e
theorem Z7k {P : Program} {ro : Nat} {u t : Tr} {o : Oper} {s b : St} {v : Value} {g : Rng} (hk : Zde o = .load) (hg : g = .below s.n ∨ ∃ ty x, o.op = .load ty x ∧ g = .ptr (aval u x)) (e : aop P ro u o s = some (.val v, s)) (hv : Z4w t o.dst s.n (some (.val v, s)) = true) (h : Keep1 g s b) : Z4w t o.dst b.n (aop P ro u o b) = true := by
 have key : aop P ro u o b = some (.val v, b) := by
  rcases hg with rfl | ⟨ty, x, hop, rfl⟩
  ·exact Zwq (fun A hA => h A hA hA) hk e
  ·unfold aop at e ⊢
   rw [hop] at e ⊢
   obtain ⟨v', h1, h2, _⟩ := Zay e
   cases h2
   simp only [Z9l h h1]
   rfl
 rw [key]
 simp only [Z4w, Bool.and_eq_true] at hv ⊢
 exact ⟨Nat.beq_refl _, hv.2⟩
theorem Z4q {ob : AO} {p : Nat} {s b : St} {x : AO} (hx : s.at p = some x) (e : Zsb ob (some x) = true) (h : Keep1 (.blk p) s b) : Zsb ob (b.at p) = true := by
 rw [h x hx]; exact e
section
variable {P : Program} {ro N : Nat} {rnd : Option Nat}
structure RunOk (all : List Oper) (ms : List Nat) (hasA hasF : Bool) (l : List (Nat × Oper)) (acts : List Nat) (opn : List (Nat × Rng)) (cls : List Nat) (t : Tr) (s : St) (r : Run) : Prop where
 get : ∀ d, (∀ x ∈ l, x.2.dst ≠ some d) → r.fr.t.get d = t.get d
 opn : ∀ (j : Nat) (g : Rng) (f : St → Bool), (j, g) ∈ opn → (∀ b, s.n ≤ b.n → Keep1 g s b → f b = true) → ∀ pm, Zgg ms j f r.s pm r.snaps = true
 cls : ∀ j f, j ∈ cls → ∀ pm, pm.testBit j = true → Zgg ms j f r.s pm r.snaps = true
 nos : hasA = false → r.snaps = []
 lds : hasA = true → ∀ pre : List (Nat × St × St), (∀ x ∈ pre, x.1 ∈ acts) → Zf7 P ro all ms r.fr.t (pre ++ r.snaps) r.s r.lds = true
 nof : hasF = false → r.frs = []
 ns : hasF = true → s.n ≤ r.s.n ∧ ∀ x ∈ r.snaps, s.n ≤ x.2.1.n
 frs : hasF = true → ∀ (pre : List (Nat × St × St)) n0, (∀ x ∈ pre, x.1 ∈ acts ∧ x.2.2.n ≤ s.n) → n0 ≤ s.n → Zjm ms n0 (pre ++ r.snaps) r.s r.frs = true
 fap : hasF = true → Zfu r.frs = true ∧ ∀ x ∈ r.frs, s.n ≤ x.2.1
theorem Zm3 {p : Nat} : ∀ {a b : List (Nat × St × St)}, Zfv p a = true → Zfv p b = true → Zfv p (a ++ b) = true
 | [], _, _, h => h
 | x :: r, b, h, k => by
  simp only [List.cons_append, Zfv, Bool.and_eq_true] at h ⊢
  exact ⟨h.1, Zm3 h.2 k⟩
theorem Zs6 {p : Nat} : ∀ {a : List (Nat × St × St)}, (∀ x ∈ a, x.2.2.n ≤ p) → Zfv p a = true
 | [], _ => rfl
 | (i, s, s1) :: r, h => by
  simp only [Zfv, Bool.and_eq_true, Bool.or_eq_true]
  exact ⟨.inr (Nat.ble_eq_true_of_le (h (i, s, s1) (by simp))), Zs6 fun x hx => h x (by simp [hx])⟩
theorem Zqb {p : Nat} : ∀ {a : List (Nat × St × St)}, (∀ x ∈ a, p < x.2.1.n) → Zfv p a = true
 | [], _ => rfl
 | (i, s, s1) :: r, h => by
  simp only [Zfv, Bool.and_eq_true, Bool.or_eq_true]
  exact ⟨.inl (by rw [Nat.blt_eq]; exact h (i, s, s1) (by simp)), Zqb fun x hx => h x (by simp [hx])⟩
theorem RunOk.act {all : List Oper} {ms : List Nat} {hasA hasF : Bool} {l : List (Nat × Oper)} {acts : List Nat} {opn : List (Nat × Rng)} {cls : List Nat} {t : Tr} {s s1 : St} {r : Run} {i : Nat} {o : Oper} {v : Value} (hA : hasA = true)
  (hb : Zfn (nthN ms i) cls = true) (hg : (Zml (nthN ms i) opn).isEmpty = false → Keeps (Zml (nthN ms i) opn) s s1) (hn : hasF = true → s.n ≤ s1.n)
  (h : RunOk (P := P) (ro := ro) all ms hasA hasF l (i :: acts) (Zml (nthN ms i) opn) (cls ++ Z88 (nthN ms i) opn) (t.put o.dst v) s1 r) :
  RunOk (P := P) (ro := ro) all ms hasA hasF ((i, o) :: l) acts opn cls t s { fr := r.fr, s := r.s, snaps := (i, s, s1) :: r.snaps, lds := r.lds, frs := r.frs } := by
 refine ⟨fun d hd => ?_, fun j g f hj hs pm => ?_, fun j f hj pm hpm => ?_, fun hx => (by rw [hA] at hx; cases hx), fun _ pre hp => ?_, h.nof, fun hx => ?_, fun hx pre n0 hp hn0 => ?_, fun hx => ?_⟩
 ·rw [h.get d fun x hx => hd x (by simp [hx])]
  have := hd (i, o) (by simp)
  unfold Tr.put
  split
  ·rename_i e he
   rw [Tr.get_set, if_neg fun hh => this (by simp only [he]; rw [hh.1])]
  ·rfl
 ·simp only [Zgg, hs s (Nat.le_refl _) (.refl s g), Bool.or_true, Bool.true_and]
  cases hbit : (nthN ms i).testBit j with
  | true => exact h.cls j f (List.mem_append.2 (.inr (List.mem_map.2 ⟨(j, g), List.mem_filter.2 ⟨hj, hbit⟩, rfl⟩))) _ hbit
  | false =>
   have hm : (j, g) ∈ Zml (nthN ms i) opn := List.mem_filter.2 ⟨hj, by simp [hbit]⟩
   have hks : Keeps (Zml (nthN ms i) opn) s s1 := hg ?_
   ·exact h.opn j g f hm (fun b hb hk => hs b (Nat.le_trans hks.n hb) ((hks.all _ hm).trans hks.n hk)) _
   ·cases he : (Zml (nthN ms i) opn).isEmpty with
    | false => rfl
    | true => rw [List.isEmpty_iff.1 he] at hm; cases hm
 ·simp only [Zgg, hpm, Bool.true_or, Bool.true_and]
  exact h.cls j f (List.mem_append.2 (.inl hj)) _ (Zjo hb j hj)
 ·have := h.lds hA (pre ++ [(i, s, s1)]) (fun x hx => by
   rcases List.mem_append.1 hx with hx | hx
   ·exact List.mem_cons_of_mem _ (hp x hx)
   ·rw [List.mem_singleton.1 hx]; exact List.mem_cons_self ..)
  rw [List.append_assoc] at this
  exact this
 ·obtain ⟨h1, h2⟩ := h.ns hx
  have := hn hx
  refine ⟨Nat.le_trans this h1, fun x hx => ?_⟩
  rcases List.mem_cons.1 hx with rfl | hx
  ·exact Nat.le_refl _
  ·exact Nat.le_trans this (h2 x hx)
 ·have hle := hn hx
  have := h.frs hx (pre ++ [(i, s, s1)]) n0 (fun x hx => by
   rcases List.mem_append.1 hx with hx | hx
   ·exact ⟨List.mem_cons_of_mem _ (hp x hx).1, Nat.le_trans (hp x hx).2 hle⟩
   ·rw [List.mem_singleton.1 hx]; exact ⟨List.mem_cons_self .., Nat.le_refl _⟩) (Nat.le_trans hn0 hle)
  rw [List.append_assoc] at this
  exact this
 ·obtain ⟨h1, h2⟩ := h.fap hx
  exact ⟨h1, fun x hx' => Nat.le_trans (hn hx) (h2 x hx')⟩
theorem Zma {t : Tr} {dst : Option Tmp} {v : Value} {d : Tmp} (h : dst ≠ some d) : (t.put dst v).get d = t.get d := by
 unfold Tr.put
 split
 ·rw [Tr.get_set, if_neg fun hh => h (by rw [hh.1])]
 ·rfl
theorem RunOk.still {all : List Oper} {ms : List Nat} {hasA hasF : Bool} {l : List (Nat × Oper)} {acts : List Nat} {opn : List (Nat × Rng)} {cls : List Nat} {t : Tr} {s : St} {r : Run} {i : Nat} {o : Oper} {v : Value}
  (h : RunOk (P := P) (ro := ro) all ms hasA hasF l acts opn cls (t.put o.dst v) s r) : RunOk (P := P) (ro := ro) all ms hasA hasF ((i, o) :: l) acts opn cls t s r :=
 ⟨fun d hd => by rw [h.get d fun x hx => hd x (by simp [hx]), Zma (hd (i, o) (by simp))], h.opn, h.cls, h.nos, h.lds, h.nof, h.ns, h.frs, h.fap⟩
theorem Z41 {all : List Oper} {ms : List Nat} {hasA hasF : Bool} {l : List (Nat × Oper)} {acts : List Nat} {opn : List (Nat × Rng)} {cls : List Nat} {t : Tr} {s : St} {r : Run} {i : Nat × Rng} (h : RunOk (P := P) (ro := ro) all ms hasA hasF l acts (i :: opn) cls t s r) :
  RunOk (P := P) (ro := ro) all ms hasA hasF l acts opn cls t s r :=
 ⟨h.get, fun j g f hj => h.opn j g f (List.mem_cons_of_mem _ hj), h.cls, h.nos, h.lds, h.nof, h.ns, h.frs, h.fap⟩
theorem RunOk.idle {all : List Oper} {ms : List Nat} {hasA hasF : Bool} {l : List (Nat × Oper)} {acts : List Nat} {opn : List (Nat × Rng)} {cls : List Nat} {t : Tr} {s : St} {r : Run} {i : Nat} {o : Oper} {v : Value} (hw : Zce all o t = false)
  (h : RunOk (P := P) (ro := ro) all ms hasA hasF l acts opn cls (t.put o.dst v) s r) : RunOk (P := P) (ro := ro) all ms hasA hasF ((i, o) :: l) acts opn cls t s { fr := r.fr, s := r.s, snaps := r.snaps, lds := (i, o, t) :: r.lds, frs := r.frs } :=
 ⟨fun d hd => by rw [h.get d fun x hx => hd x (by simp [hx]), Zma (hd (i, o) (by simp))], h.opn, h.cls, h.nos, fun hA pre hp => by
  simp only [Zf7, Bool.and_eq_true]
  exact ⟨by simp [Zs7, hw], h.lds hA pre hp⟩, h.nof, h.ns, h.frs, h.fap⟩
theorem RunOk.load {all : List Oper} {ms : List Nat} {hasA hasF : Bool} {l : List (Nat × Oper)} {acts : List Nat} {opn : List (Nat × Rng)} {cls : List Nat} {t : Tr} {s : St} {r : Run} {i : Nat} {o : Oper} {v : Value} (hk : Zde o = .load) (hb : Zfn (nthN ms i) acts = true) (hfree : Znr o l = true)
  (hv : hasA = true → ∀ d, o.dst = some d → t.has d = true ∧ veq v v = true) (hop : aop P ro t o s = some (.val v, s)) {g : Rng} (hgr : g = .below s.n ∨ ∃ ty x, o.op = .load ty x ∧ g = .ptr (aval t x))
  (h : RunOk (P := P) (ro := ro) all ms hasA hasF l acts ((i, g) :: opn) cls (t.put o.dst v) s r) : RunOk (P := P) (ro := ro) all ms hasA hasF ((i, o) :: l) acts opn cls t s { fr := r.fr, s := r.s, snaps := r.snaps, lds := (i, o, t) :: r.lds, frs := r.frs } :=
 ⟨fun d hd => by rw [h.get d fun x hx => hd x (by simp [hx]), Zma (hd (i, o) (by simp))], (Z41 h).opn, h.cls, h.nos, fun hA pre hp => by
  simp only [Zf7, Bool.and_eq_true]
  refine ⟨?_, h.lds hA pre hp⟩
  simp only [Zs7, Bool.or_eq_true]
  refine .inr (Zjt (fun x hx => Zjo hb _ (hp x hx)) fun pm => ?_)
  refine h.opn i _ _ (List.mem_cons_self ..) (fun b _ hb => Z7k hk hgr hop ?_ hb) pm
  simp only [Z4w, Bool.and_eq_true]
  refine ⟨Nat.beq_refl _, ?_⟩
  split
  ·rename_i d hd
   obtain ⟨hh, hvv⟩ := hv hA d hd
   rw [h.get d (Zp9 hfree d hd)]
   rw [show (t.put o.dst v).get d = v by unfold Tr.put; rw [hd]; simp only [Tr.get_set, hh, and_self, if_true]]
   exact hvv
  ·rfl, h.nof, h.ns, h.frs, h.fap⟩
theorem RunOk.fresh {all : List Oper} {ms : List Nat} {hasA hasF : Bool} {l : List (Nat × Oper)} {acts : List Nat} {opn : List (Nat × Rng)} {cls : List Nat} {t : Tr} {s s1 : St} {r : Run} {i : Nat} {o : Oper} {v : Value} (hF : hasF = true) (hb : Zfn (nthN ms i) acts = true)
  (hf : Zcm s s1) (h : RunOk (P := P) (ro := ro) all ms hasA hasF l acts ((i, .blk s.n) :: opn) cls (t.put o.dst v) s1 r) :
  RunOk (P := P) (ro := ro) all ms hasA hasF ((i, o) :: l) acts opn cls t s { fr := r.fr, s := r.s, snaps := r.snaps, lds := r.lds, frs := (i, s.n, (s1.at s.n).getD .dead) :: r.frs } := by
 obtain ⟨c, ty, rfl, hc⟩ := hf
 have hg : Grew s (s.new (.cells c ty false)) := .new _ _
 have hat : (s.new (.cells c ty false)).at s.n = some (.cells c ty false) := by rw [St.at_new, if_pos rfl]
 have hn : (s.new (.cells c ty false)).n = s.n + 1 := rfl
 have hlt : s.n < (s.new (.cells c ty false)).n := by rw [hn]; omega
 refine ⟨fun d hd => by rw [h.get d fun x hx => hd x (by simp [hx]), Zma (hd (i, o) (by simp))], fun j g f hj hs => h.opn j g f (List.mem_cons_of_mem _ hj) (fun b hb hk => hs b (Nat.le_trans hg.n hb) ((hg.keep1 g).trans hg.n hk)), h.cls, h.nos, h.lds, fun hx => (by rw [hF] at hx; cases hx), fun _ => ?_, fun _ pre n0 hp hn0 => ?_, fun _ => ?_⟩
 ·obtain ⟨h1, h2⟩ := h.ns hF
  exact ⟨Nat.le_trans (Nat.le_of_lt hlt) h1, fun x hx => Nat.le_trans (Nat.le_of_lt hlt) (h2 x hx)⟩
 ·obtain ⟨h1, h2⟩ := h.ns hF
  simp only [Zjm, hat, Option.getD_some, Bool.and_eq_true]
  refine ⟨⟨Nat.ble_eq_true_of_le hn0, (by rw [Nat.blt_eq]; exact Nat.lt_of_lt_of_le hlt h1), Zm3 (Zs6 fun x hx => (hp x hx).2) (Zqb fun x hx => Nat.lt_of_lt_of_le hlt (h2 x hx)),
   Zjt (fun x hx => Zjo hb _ (hp x hx).1) fun pm => h.opn i _ _ (List.mem_cons_self ..) (fun b _ hb => Z4q hat ?_ hb) pm⟩, h.frs hF pre n0 (fun x hx => ⟨(hp x hx).1, Nat.le_trans (hp x hx).2 (Nat.le_of_lt hlt)⟩) (by rw [hn]; omega)⟩
  simp only [Zsb, Nat.beq_refl, Bool.true_and]
  exact hc
 ·obtain ⟨h1, h2⟩ := h.fap hF
  refine ⟨?_, fun x hx => ?_⟩
  ·simp only [Zfu, Bool.and_eq_true, List.all_eq_true, Bool.not_eq_true']
   refine ⟨fun y hy => ?_, h1⟩
   have := h2 y hy
   rw [hn] at this
   cases hbq : Nat.beq s.n y.2.1 with
   | false => rfl
   | true => have := Nat.eq_of_beq_eq_true hbq; omega
  ·rcases List.mem_cons.1 hx with rfl | hx
   ·exact Nat.le_refl _
   ·have := h2 x hx; rw [hn] at this; omega
theorem Yam {o : Oper} (hk : Zde o = .load) : (∃ ty a, o.op = .load ty a) ∨ (∃ ty a b c, o.op = .lookup ty a b c) ∨ ∃ a b c, o.op = .convert a b c := by
 have hz : Zqu o.op = .load := by
  unfold Zde at hk
  cases h : Zqu o.op with
  | fresh => rw [h] at hk; simp only at hk; cases hg : o.guard.isNone <;> rw [hg] at hk <;> cases hk
  | load => rfl
  | _ => rw [h] at hk; cases hk
 cases hop : o.op with
 | load ty a => exact .inl ⟨ty, a, rfl⟩
 | lookup ty a b c => exact .inr (.inl ⟨ty, a, b, c, rfl⟩)
 | convert a b c => exact .inr (.inr ⟨a, b, c, rfl⟩)
 | call c => rw [hop] at hz; simp only [Zqu] at hz; split at hz <;> cases hz
 | _ => rw [hop] at hz; cases hz
theorem Zfp [Memo] {all : List Oper} {ms : List Nat} {hasA hasF : Bool} (hall : all.all (Zhm N) = true) : ∀ {l : List (Nat × Oper)} {sk acts : List Nat} {opn : List (Nat × Rng)} {cls : List Nat} {t : Tr} {τ : Tau} {ds : List Deferred} {s : St} {K : WK},
  Agr N t τ → SkOk all sk τ → (∀ x ∈ l, all[x.1]? = some x.2) → (∀ x ∈ l, Zhm N x.2 = true ∧ Zhp x.2.op = false) → (hasA = false → ∀ x ∈ l, Zco x.2 = false) → (hasF = false → ∀ x ∈ l, Zbw x.2 = false) → wrun P ro rnd all ms hasA hasF l sk acts opn cls τ ds s K →
  ∃ n r τ', arun P ro (ev P ro n) all l ⟨t, ds, rnd⟩ s = some r ∧ r.fr.rnd = rnd ∧ Agr N r.fr.t τ' ∧ K τ' r.fr.ds r.s ∧ RunOk (P := P) (ro := ro) all ms hasA hasF l acts opn cls t s r
 | [], sk, acts, opn, cls, t, τ, ds, s, K, h, _, _, _, _, _, hw =>
  ⟨0, { fr := ⟨t, ds, rnd⟩, s := s, snaps := [], lds := [], frs := [] }, τ, rfl, rfl, h, hw, fun d _ => rfl, fun j g f hj hs pm => (by simp [Zgg, hs s (Nat.le_refl _) (.refl s g)]), fun j f hj pm hpm => (by simp [Zgg, hpm]), fun _ => rfl, fun _ pre hp => rfl, fun _ => rfl, fun _ => ⟨Nat.le_refl _, fun x hx => by cases hx⟩, fun _ pre n0 hp hn => rfl, fun _ => ⟨rfl, fun x hx => by cases hx⟩⟩
 | (i, o) :: l, sk, acts, opn, cls, t, τ, ds, s, K, h, hsk, hi, hl, hA, hF, hw => by
  obtain ⟨ho, hnd⟩ := hl (i, o) (by simp)
  simp only at ho hnd
  have hl' : ∀ x ∈ l, Zhm N x.2 = true ∧ Zhp x.2.op = false := fun x hx => hl x (by simp [hx])
  have hA' : hasA = false → ∀ x ∈ l, Zco x.2 = false := fun e x hx => hA e x (by simp [hx])
  have hF' : hasF = false → ∀ x ∈ l, Zbw x.2 = false := fun e x hx => hF e x (by simp [hx])
  have hd : ltD N o.dst = true := by simp only [Zhm, Bool.and_eq_true] at ho; exact ho.2
  have hasA_of : Zco o = true → hasA = true := fun e => by
   cases hh : hasA with
   | true => rfl
   | false => have := hA hh (i, o) (by simp); simp only at this; rw [e] at this; cases this
  have hasF_of : Zbw o = true → hasF = true := fun e => by
   cases hh : hasF with
   | true => rfl
   | false => have := hF hh (i, o) (by simp); simp only at this; rw [e] at this; cases this
  have hi' : ∀ x ∈ l, all[x.1]? = some x.2 := fun x hx => hi x (by simp [hx])
  rcases Zw8 hw h hall hsk with ⟨ha, hw⟩ | ⟨ha, hw⟩
  ·obtain ⟨n1, v, τ1, ds1, s1, e1, h1, hτ, hk⟩ := Z23 h ho hw
   have hsk1 : SkOk all (Zj5 all sk o.dst) τ1 := by rw [hτ]; exact hsk.put _ _
   have comb : ∀ {n2 : Nat} {r : Run}, arun P ro (ev P ro n2) all l ⟨t.put o.dst v, ds1, rnd⟩ s1 = some r → Zts o s s1 = true →
     arun P ro (ev P ro (max n1 n2)) all ((i, o) :: l) ⟨t, ds, rnd⟩ s = Zqt o i t s s1 (some r) := fun {n2 r} e2 hq => by
    rw [arun, ha]
    simp only [cond_true]
    rw [Zme (Zem (Nat.le_max_left n1 n2)) e1]
    simp only [Z9e, hq, cond_true]
    rw [Zom (Zem (Nat.le_max_right n1 n2)) e2]
   cases hAct : Zco o with
   | true =>
    have hnl : Zd4 o = false := by unfold Zco at hAct; unfold Zd4; cases hk : Zde o <;> rw [hk] at hAct <;> first | rfl | cases hAct
    have hnf : Zbw o = false := by unfold Zco at hAct; unfold Zbw; cases hk : Zde o <;> rw [hk] at hAct <;> first | rfl | cases hAct
    rw [hAct] at hk
    simp only [cond_true, wact] at hk
    cases hb : Zfn (nthN ms i) cls with
    | false => rw [hb] at hk; exact hk.elim
    | true =>
     rw [hb] at hk
     simp only [cond_true] at hk
     obtain ⟨hg, hk⟩ := Zol hk
     obtain ⟨hn, hk⟩ := Zol hk
     obtain ⟨n2, r, τ2, e2, hr, h2, hk2, hok⟩ := Zfp hall h1 hsk1 hi' hl' hA' hF' hk
     have hg' : (Zml (nthN ms i) opn).isEmpty = false → Keeps (Zml (nthN ms i) opn) s s1 := fun e => hg (by rw [e]; rfl)
     have hn' : hasF = true → s.n ≤ s1.n := fun e => by
      cases he : (Zml (nthN ms i) opn).isEmpty with
      | false => exact (hg' he).n
      | true => exact hn (by rw [e, he]; rfl)
     have := comb e2 (by unfold Zts; rw [hnl]; rfl)
     simp only [Zqt, hAct, hnl, hnf, cond_true, cond_false] at this
     exact ⟨_, _, τ2, this, hr, h2, hk2, hok.act (hasA_of hAct) hb hg' hn'⟩
   | false =>
    rw [hAct] at hk
    simp only [cond_false] at hk
    cases hL : Zd4 o with
    | true =>
     have hnf : Zbw o = false := by unfold Zd4 at hL; unfold Zbw; cases hk : Zde o <;> rw [hk] at hL <;> first | rfl | cases hL
     have hkind : Zde o = .load := by unfold Zd4 at hL; cases hk : Zde o <;> rw [hk] at hL <;> first | rfl | cases hL
     rw [hL] at hk
     simp only [cond_true] at hk
     cases hb : (Zfn (nthN ms i) acts && Znr o l) with
     | false => rw [hb] at hk; exact hk.elim
     | true =>
      rw [hb] at hk
      simp only [cond_true] at hk
      simp only [Bool.and_eq_true] at hb
      obtain ⟨hc, hkB⟩ := Zol hk
      obtain ⟨hv, hkC⟩ := Zol hkB
      have hsame : s1.n = s.n := by
       cases hcv : Z8s o.op with
       | true => rw [hc hcv]
       | false =>
        unfold Zdu at e1
        cases hop : aop P ro t o s with
        | none => simp only [hop] at e1; cases e1
        | some rs =>
         obtain ⟨x, s2⟩ := rs
         obtain ⟨w, rfl⟩ := Zqe hkind hop
         simp only [hop, Zcp, Option.some.injEq, Prod.mk.injEq] at e1
         obtain ⟨_, rfl⟩ := e1
         unfold aop at hop
         rcases Yam hkind with ⟨ty, a, h9⟩ | ⟨ty, a, b, c, h9⟩ | ⟨a, b, c, h9⟩
         ·rw [h9] at hop; obtain ⟨_, _, _, rfl⟩ := Zay hop; rfl
         ·rw [h9] at hop; obtain ⟨_, _, _, rfl⟩ := Zay hop; rfl
         ·rw [h9] at hcv; cases hcv
      have hq : Zts o s s1 = true := by unfold Zts; rw [hsame, Nat.beq_refl]; simp
      obtain ⟨hss, w, hop, hfr⟩ := Zjr hAct hnf e1 (fun _ => hsame)
      subst hss
      rw [Zjy] at hfr
      have hw' : t.put o.dst v = t.put o.dst w := by injection hfr
      obtain ⟨n2, r, τ2, e2, hr, h2, hk2, hok⟩ := Zfp hall h1 hsk1 hi' hl' hA' hF' hkC
      have := comb e2 hq
      simp only [Zqt, hAct, hL, hnf, cond_true, cond_false] at this
      rw [hw'] at hok
      refine ⟨_, _, τ2, this, hr, h2, hk2, hok.load hkind hb.1 hb.2 (fun hA d hd' => ?_) hop ?_⟩
      ·have hlt : d < N := by rw [hd'] at hd; exact Zta hd
       refine ⟨h.has d hlt, ?_⟩
       have hvd := hv hA
       unfold veqD at hvd
       rw [hd'] at hvd
       simp only at hvd
       have hwd : τ1 d = w := by
        rw [← h1.get d hlt, hw', hd']
        simp only [Tr.put, Tr.get_set, h.has d hlt, and_self, if_true]
       rw [hwd] at hvd
       exact hvd
      ·unfold Yah
       split
       ·rename_i ty x hx
        refine .inr ⟨ty, x, hx, ?_⟩
        have hx' : ltT N x = true := by
         simp only [Zhm, Bool.and_eq_true] at ho
         have := ho.1
         rw [hx] at this
         simpa [ltOp] using this
        rw [Zar h hx']
       ·exact .inl rfl
    | false =>
     rw [hL] at hk
     simp only [cond_false] at hk
     cases hf : Zbw o with
     | true =>
      rw [hf] at hk
      simp only [cond_true] at hk
      cases hb : Zfn (nthN ms i) acts with
      | false => rw [hb] at hk; exact hk.elim
      | true =>
       rw [hb] at hk
       simp only [cond_true] at hk
       obtain ⟨hfo, hk⟩ := hk
       obtain ⟨n2, r, τ2, e2, hr, h2, hk2, hok⟩ := Zfp hall h1 hsk1 hi' hl' hA' hF' hk
       have := comb e2 (by unfold Zts; rw [hL]; rfl)
       simp only [Zqt, hAct, hL, hf, cond_true, cond_false] at this
       exact ⟨_, _, τ2, this, hr, h2, hk2, hok.fresh (hasF_of hf) hb hfo⟩
     | false =>
      rw [hf] at hk
      simp only [cond_false] at hk
      obtain ⟨hss, w, hop, hfr⟩ := Zjr hAct hf e1 (fun e => by rw [hL] at e; cases e)
      subst hss
      obtain ⟨n2, r, τ2, e2, hr, h2, hk2, hok⟩ := Zfp hall h1 hsk1 hi' hl' hA' hF' hk
      have := comb e2 (by unfold Zts; rw [hL]; rfl)
      simp only [Zqt, hAct, hL, hf, cond_false] at this
      exact ⟨_, _, τ2, this, hr, h2, hk2, hok.still⟩
  ·have comb : ∀ {n2 : Nat} {r : Run}, arun P ro (ev P ro n2) all l ⟨t.put o.dst undef, ds, rnd⟩ s = some r →
     arun P ro (ev P ro n2) all ((i, o) :: l) ⟨t, ds, rnd⟩ s = Zqt o i t s s (some r) := fun {n2 r} e2 => by
    rw [arun, ha]
    simp only [cond_false, Zjy]
    rw [e2]
   have hnf : Zbw o = false := by
    cases hf : Zbw o with
    | false => rfl
    | true =>
     obtain ⟨_, hg⟩ := Zmb hf
     unfold Zce at ha
     rw [hg] at ha
     cases ha
   cases hAct : Zco o with
   | true =>
    have hnl : Zd4 o = false := by unfold Zco at hAct; unfold Zd4; cases hk : Zde o <;> rw [hk] at hAct <;> first | rfl | cases hAct
    rw [hAct] at hw
    simp only [cond_true, Z9u] at hw
    cases hb : Zfn (nthN ms i) cls with
    | false => rw [hb] at hw; exact hw.elim
    | true =>
     rw [hb] at hw
     simp only [cond_true] at hw
     obtain ⟨n2, r, τ2, e2, hr, h2, hk2, hok⟩ := Zfp hall (h.put hd undef) (hsk.skip (hi (i, o) (by simp))) hi' hl' hA' hF' hw
     have := comb e2
     simp only [Zqt, hAct, hnl, hnf, cond_true, cond_false] at this
     exact ⟨_, _, τ2, this, hr, h2, hk2, hok.act (hasA_of hAct) hb (fun _ => .refl _) (fun _ => Nat.le_refl _)⟩
   | false =>
    rw [hAct] at hw
    simp only [cond_false] at hw
    obtain ⟨n2, r, τ2, e2, hr, h2, hk2, hok⟩ := Zfp hall (h.put hd undef) (hsk.skip (hi (i, o) (by simp))) hi' hl' hA' hF' hw
    have := comb e2
    simp only [Zqt, hAct, hnf, cond_false] at this
    cases hL : Zd4 o with
    | false => rw [hL] at this; simp only [cond_false] at this; exact ⟨_, _, τ2, this, hr, h2, hk2, hok.still⟩
    | true => rw [hL] at this; simp only [cond_true] at this; exact ⟨_, _, τ2, this, hr, h2, hk2, hok.idle ha⟩
theorem Zzz [Memo] {ops : Array Oper} (hall : ops.toList.all (Zhm N) = true) (hnd : (ops.toList.all fun o => !Zhp o.op) = true) {t : Tr} {τ : Tau} {ds : List Deferred} {s : St} {K : WK} (h : Agr N t τ) (hw : Z9x P ro rnd ops.toList τ ds s K) :
  ∃ n t' ds' s' τ', Zil P ro (ev P ro n) ops true ⟨t, ds, rnd⟩ s = some (⟨t', ds', rnd⟩, s') ∧ Agr N t' τ' ∧ K τ' ds' s' := by
 obtain ⟨n, r, τ', e, hr, h1, hk, hok⟩ := Zfp hall h (sk := []) (fun j hj => by cases hj) (fun x hx => Znm hx) (fun x hx => by
  have hm := List.mem_of_getElem? (Znm (x := x) hx)
  exact ⟨List.all_eq_true.1 hall _ hm, by simpa using List.all_eq_true.1 hnd _ hm⟩) Zqf Zm6 hw
 obtain ⟨⟨t', ds', rnd'⟩, s', snaps, lds, frs⟩ := r
 simp only at hr h1 hk
 subst hr
 refine ⟨n, t', ds', s', τ', ?_, h1, hk⟩
 unfold Zil
 simp only [e, Z9r]
 have c1 : Zjm (Zih ops.toList) s.n snaps s' frs = true ∧ Zfu frs = true := by
  cases hF : Zmf (Zek ops.toList) with
  | false => rw [show frs = [] from hok.nof hF]; exact ⟨rfl, rfl⟩
  | true => exact ⟨hok.frs hF [] s.n (fun x hx => by cases hx) (Nat.le_refl _), (hok.fap hF).1⟩
 have c2 : (snaps.isEmpty || Zf7 P ro ops.toList (Zih ops.toList) t' snaps s' lds) = true := by
  cases hA : Zuw (Zek ops.toList) with
  | false => rw [show snaps = [] from hok.nos hA]; rfl
  | true => rw [show Zf7 P ro ops.toList (Zih ops.toList) t' snaps s' lds = true from hok.lds hA [] (fun x hx => by cases hx)]; simp
 rw [c1.1, c1.2, c2]
 rfl
end
end Go.VE
namespace Go.VE
open Go
def Zij : Code → List Nat
 | .seq a b => Zij a ++ Zij b
 | .cond _ a b => Zij a ++ Zij b
 | .block _ a => Zij a
 | .loop a => Zij a
 | .scope a => Zij a
 | .rangeFunc _ _ a b => Zij a ++ Zij b
 | .exit id => [id]
 | _ => []
def Yc4 : List Nat → List Nat → List Nat
 | [], acc => acc.reverse
 | x :: r, acc => bif acc.any (Nat.beq x) then Yc4 r acc else Yc4 r (x :: acc)
def Zwh (c : Code) : List Nat := Yc4 (Zij c) []
def kOf : List (Nat × WK) → Nat → WK
 | [], _ => fun _ _ _ => False
 | (i, k) :: r, j => bif Nat.beq i j then k else kOf r j
def outs (R : WK) (L : List (Nat × WK)) : Ex → WK
 | .normal => fun _ _ _ => False
 | .ret => R
 | .exit id => kOf L id
def Zqr (K : WK) (Q : Ex → WK) : Ex → WK
 | .normal => K
 | ex => Q ex
def blkW (id : Nat) (Q : Ex → WK) : Ex → WK
 | .exit j => bif Nat.beq j id then Q .normal else Q (.exit j)
 | ex => Q ex
def Zcc : Code → Bool
 | .seq (.region _ ops false) _ => (match ops.toList with
  | o :: _ => (match o.op with
   | .next _ _ => false
   | _ => true)
  | [] => true)
 | _ => true
section
variable [Memo] (P : Program) (ro N : Nat) (rnd : Option Nat)
def Runs (c : Code) (t : Tr) (ds : List Deferred) (s : St) (Q : Ex → WK) : Prop :=
 ∃ n ex t' ds' s' τ', ev P ro n c ⟨t, ds, rnd⟩ s = some (ex, ⟨t', ds', rnd⟩, s') ∧ Agr N t' τ' ∧ Q ex τ' ds' s'
def Zf2 (a : Code) (τ : Tau) (ds : List Deferred) (s : St) (R : WK) (L : List (Nat × WK)) : Prop :=
 ∀ t, Agr N t τ → Runs P ro N rnd (.loop a) t ds s (outs R L)
def Z4a (g : Value) (ps : Array Tmp) (assign body : Code) (τ : Tau) (ds : List Deferred) (s : St) (K R : WK) (L : List (Nat × WK)) : Prop :=
 ∀ t, Agr N t τ → ∃ n ex ds' s', Zqd P ro (ev P ro n) g ps assign body ⟨t, ds, rnd⟩ s = some (ex, ⟨t, ds', rnd⟩, s') ∧ Zqr K (outs R L) ex τ ds' s'
def wp : Code → Tau → List Deferred → St → (Ex → WK) → Prop
 | .skip, τ, ds, s, Q => Q .normal τ ds s
 | .label _, τ, ds, s, Q => Q .normal τ ds s
 | .region _ ops draw, τ, ds, s, Q => (match draw with
  | true => Z9x P ro rnd ops.toList τ ds s (Q .normal)
  | false => wops P ro rnd ops.toList ops.toList 0 [] τ ds s (Q .normal))
 | .seq a b, τ, ds, s, Q => wp a τ ds s (Zqr (fun τ ds s => wp b τ ds s Q) Q)
 | .cond x a b, τ, ds, s, Q => Zz0 τ x (fun τ => wp a τ ds s Q) (fun τ => wp b τ ds s Q)
 | .block id a, τ, ds, s, Q => wp a τ ds s (blkW id Q)
 | .loop a, τ, ds, s, Q => Zf2 P ro N rnd a τ ds s (Q .ret) ((Zwh a).map fun id => (id, Q (.exit id)))
 | .rangeFunc g ps assign body, τ, ds, s, Q => Z4a P ro N rnd (oval τ g) ps assign body τ ds s (Q .normal) (Q .ret) ((Zwh (.seq assign body)).map fun id => (id, Q (.exit id)))
 | .exit id, τ, ds, s, Q => Q (.exit id) τ ds s
 | .scope a, τ, ds, s, Q => wp a τ ds s Q
 | .goto _, _, _, _, _ => False
 | .ret, τ, ds, s, Q => Q .ret τ ds s
 | .refuse _, _, _, _, _ => False
end
def Zbd (N : Nat) : Code → Bool
 | .region _ ops draw => ops.toList.all (Zhm N) && (!draw || ops.toList.all fun o => !Zhp o.op)
 | .seq a b => Zbd N a && Zbd N b
 | .cond x a b => ltT N x && (Zbd N a && Zbd N b)
 | .block _ a => Zbd N a
 | .loop a => Zbd N a && Zcc a
 | .scope a => Zbd N a
 | .rangeFunc g ps assign body => ltT N g && (ps.toList.all (fun p => Nat.blt p N) && (Zbd N assign && Zbd N body))
 | _ => true
section
variable {P : Program} {ro N : Nat} {rnd : Option Nat}
theorem Z1d {Q : Ex → WK} : ∀ {l : List Nat} {id : Nat} {τ : Tau} {ds : List Deferred} {s : St}, kOf (l.map fun id => (id, Q (.exit id))) id τ ds s → Q (.exit id) τ ds s
 | [], _, _, _, _, h => h.elim
 | i :: r, id, τ, ds, s, h => by
  simp only [List.map_cons, kOf] at h
  cases hb : Nat.beq i id with
  | true => rw [hb] at h; rw [← Nat.eq_of_beq_eq_true hb]; exact h
  | false => rw [hb] at h; exact Z1d h
theorem Yei {Q : Ex → WK} {l : List Nat} {ex : Ex} {τ : Tau} {ds : List Deferred} {s : St} (h : outs (Q .ret) (l.map fun id => (id, Q (.exit id))) ex τ ds s) : Q ex τ ds s := by
 cases ex with
 | normal => exact h.elim
 | ret => exact h
 | exit id => exact Z1d h
theorem Zk8 {ro : Nat} {c : Code} {fr : Fr} {s : St} (h : Zcc c = true) : Zsl ro c fr s = none := by
 unfold Zsl
 split
 ·rename_i id ops rest
  unfold Zvs
  simp only [Zcc] at h
  split
  ·rename_i o os ho
   rw [ho] at h
   simp only at h
   split
   ·rename_i it hop _; rw [hop] at h; cases h
   ·rfl
  ·rfl
 ·rfl
theorem Zey [Memo] (n : Nat) (c : Code) (fr : Fr) (s : St) : ev P ro (n + 1) c fr s = Ze6 P ro (ev P ro n) c fr s := rfl
theorem Zf4 [Memo] : ∀ (c : Code) {t : Tr} {τ : Tau} {ds : List Deferred} {s : St} {Q : Ex → WK}, Zbd N c = true → Agr N t τ → wp P ro N rnd c τ ds s Q → Runs P ro N rnd c t ds s Q
 | .skip, t, τ, ds, s, Q, _, h, hw => ⟨1, .normal, t, ds, s, τ, rfl, h, hw⟩
 | .label _, t, τ, ds, s, Q, _, h, hw => ⟨1, .normal, t, ds, s, τ, rfl, h, hw⟩
 | .region i ops draw, t, τ, ds, s, Q, hl, h, hw => by
  simp only [Zbd, Bool.and_eq_true] at hl
  cases draw with
  | false =>
   obtain ⟨n, t', ds', s', τ', e, h1, hk⟩ := Zow hl.1 h (fun q => by rw [Nat.zero_add]) hl.1 (fun j hj => by cases hj) hw
   exact ⟨n + 1, .normal, t', ds', s', τ', by rw [Zey, Ze6, Zil, e]; rfl, h1, hk⟩
  | true =>
   obtain ⟨n, t', ds', s', τ', e, h1, hk⟩ := Zzz hl.1 (by simpa using hl.2) h hw
   exact ⟨n + 1, .normal, t', ds', s', τ', by rw [Zey, Ze6, e]; rfl, h1, hk⟩
 | .seq a b, t, τ, ds, s, Q, hl, h, hw => by
  simp only [Zbd, Bool.and_eq_true] at hl
  obtain ⟨n, ex, t1, ds1, s1, τ1, e, h1, hk⟩ := Zf4 a hl.1 h hw
  cases ex with
  | normal =>
   obtain ⟨n2, ex2, t2, ds2, s2, τ2, e2, h2, hk2⟩ := Zf4 b hl.2 h1 hk
   refine ⟨max n n2 + 1, ex2, t2, ds2, s2, τ2, ?_, h2, hk2⟩
   rw [Zey, Ze6, Zem (Nat.le_max_left n n2) _ _ _ _ e]
   exact Zem (Nat.le_max_right n n2) _ _ _ _ e2
  | exit id => exact ⟨n + 1, .exit id, t1, ds1, s1, τ1, by rw [Zey, Ze6, e]; rfl, h1, hk⟩
  | ret => exact ⟨n + 1, .ret, t1, ds1, s1, τ1, by rw [Zey, Ze6, e]; rfl, h1, hk⟩
 | .cond x a b, t, τ, ds, s, Q, hl, h, hw => by
  simp only [Zbd, Bool.and_eq_true] at hl
  rcases Z2z hw with ⟨hx, hk⟩ | ⟨hx, hk⟩
  ·obtain ⟨n, ex, t1, ds1, s1, τ1, e, h1, hk⟩ := Zf4 a hl.2.1 h hk
   exact ⟨n + 1, ex, t1, ds1, s1, τ1, by rw [Zey, Ze6, Zar h hl.1, hx]; exact e, h1, hk⟩
  ·obtain ⟨n, ex, t1, ds1, s1, τ1, e, h1, hk⟩ := Zf4 b hl.2.2 h hk
   exact ⟨n + 1, ex, t1, ds1, s1, τ1, by rw [Zey, Ze6, Zar h hl.1, hx]; exact e, h1, hk⟩
 | .block id a, t, τ, ds, s, Q, hl, h, hw => by
  obtain ⟨n, ex, t1, ds1, s1, τ1, e, h1, hk⟩ := Zf4 a (by simpa only [Zbd] using hl) h hw
  cases ex with
  | normal => exact ⟨n + 1, .normal, t1, ds1, s1, τ1, by rw [Zey, Ze6, e]; rfl, h1, hk⟩
  | ret => exact ⟨n + 1, .ret, t1, ds1, s1, τ1, by rw [Zey, Ze6, e]; rfl, h1, hk⟩
  | exit j =>
   simp only [blkW] at hk
   cases hb : Nat.beq j id with
   | true => rw [hb] at hk; exact ⟨n + 1, .normal, t1, ds1, s1, τ1, by rw [Zey, Ze6, e]; simp only [Zy1, hb, cond_true], h1, hk⟩
   | false => rw [hb] at hk; exact ⟨n + 1, .exit j, t1, ds1, s1, τ1, by rw [Zey, Ze6, e]; simp only [Zy1, hb, cond_false], h1, hk⟩
 | .loop a, t, τ, ds, s, Q, hl, h, hw => by
  obtain ⟨n, ex, t1, ds1, s1, τ1, e, h1, hk⟩ := hw t h
  exact ⟨n, ex, t1, ds1, s1, τ1, e, h1, Yei hk⟩
 | .rangeFunc g ps assign body, t, τ, ds, s, Q, hl, h, hw => by
  simp only [Zbd, Bool.and_eq_true] at hl
  obtain ⟨n, ex, ds1, s1, e, hk⟩ := hw t h
  refine ⟨n + 1, ex, t, ds1, s1, τ, by rw [Zey, Ze6, Zar h hl.1]; exact e, h, ?_⟩
  cases ex with
  | normal => exact hk
  | ret => exact hk
  | exit id => exact Z1d hk
 | .exit id, t, τ, ds, s, Q, _, h, hw => ⟨1, .exit id, t, ds, s, τ, rfl, h, hw⟩
 | .scope a, t, τ, ds, s, Q, hl, h, hw => by
  obtain ⟨n, ex, t1, ds1, s1, τ1, e, h1, hk⟩ := Zf4 a (by simpa only [Zbd] using hl) h hw
  exact ⟨n + 1, ex, t1, ds1, s1, τ1, e, h1, hk⟩
 | .goto _, _, _, _, _, _, _, _, hw => hw.elim
 | .ret, t, τ, ds, s, Q, _, h, hw => ⟨1, .ret, t, ds, s, τ, rfl, h, hw⟩
 | .refuse _, _, _, _, _, _, _, _, hw => hw.elim
theorem Zdx [Memo] {α : Sort _} {a : Code} {R : WK} {L : List (Nat × WK)} (hl : Zbd N a = true) (hm : Zcc a = true) (I : α → Tau → List Deferred → St → Prop) (m : α → Nat)
  (step : ∀ x τ ds s, I x τ ds s → wp P ro N rnd a τ ds s (Zqr (fun τ ds s => ∃ y, m y < m x ∧ I y τ ds s) (outs R L))) (x0 : α) {τ : Tau} {ds : List Deferred} {s : St} (h0 : I x0 τ ds s) : Zf2 P ro N rnd a τ ds s R L := by
 intro t h
 generalize hk : m x0 = k
 induction k using Nat.strongRecOn generalizing x0 t τ ds s with
 | ind k ih =>
  obtain ⟨n, ex, t1, ds1, s1, τ1, e, h1, hq⟩ := Zf4 a hl h (step x0 τ ds s h0)
  cases ex with
  | normal =>
   obtain ⟨y, hy, hI⟩ := hq
   obtain ⟨n2, ex2, t2, ds2, s2, τ2, e2, h2, hq2⟩ := ih (m y) (hk ▸ hy) y hI t1 h1 rfl
   refine ⟨max n n2 + 1, ex2, t2, ds2, s2, τ2, ?_, h2, hq2⟩
   rw [Zey, Ze6, Zk8 hm, Zwu, Zem (Nat.le_max_left n n2) _ _ _ _ e]
   exact Zem (Nat.le_max_right n n2) _ _ _ _ e2
  | exit id => exact ⟨n + 1, .exit id, t1, ds1, s1, τ1, by rw [Zey, Ze6, Zk8 hm, Zwu, e]; rfl, h1, hq⟩
  | ret => exact ⟨n + 1, .ret, t1, ds1, s1, τ1, by rw [Zey, Ze6, Zk8 hm, Zwu, e]; rfl, h1, hq⟩
end
def tau0 (args : List Value) : Tau := fun i => match nth0 args i with | some v => v | none => undef
where nth0 : List Value → Nat → Option Value
 | [], _ => none
 | v :: r, i => match i with
  | 0 => some v
  | j + 1 => nth0 r j
theorem Z0n : ∀ (l : List Value) (i : Nat), tau0.nth0 l i = l[i]?
 | [], i => by simp [tau0.nth0]
 | v :: r, 0 => by simp [tau0.nth0]
 | v :: r, i + 1 => by simp [tau0.nth0, Z0n r i]
section
variable [Memo] (P : Program) (ro : Nat)
def Zw5 (τ : Tau) (s : St) (K : List Value → Prop) : List ResultVar → List Value → Prop
 | [], acc => K acc.reverse
 | .tmp i :: r, acc => Zw5 τ s K r (τ i :: acc)
 | .cell a ty :: r, acc => wop P ro (.load ty (.const (τ a))) ty s fun v _ => Zw5 τ s K r (v :: acc)
def Ydj (k : FuncId) (args : List Value) (s : St) (K : St → Prop) : Prop := ∃ n s', Ztl P (Zpu P (ev P ro n) k args s) = some s' ∧ K s'
def Zhf : List Deferred → St → (St → Prop) → Prop
 | [], s, K => K s
 | d :: ds, s, K =>
  match d.target with
  | .fn (.func k) cap => Ydj P ro k (d.args.toList ++ cap.toList) s fun s' => Zhf ds s' K
  | .collected r => s.at r = some (.defd (some [])) ∧ ro ≤ r ∧ Zhf ds (s.put r (.defd none)) K
  | _ => False
def wfin (s0 : St) (K : Value → St → Prop) (v : Value) (s : St) : Prop := K (Zim s0 v s).1 (Zim s0 v s).2
def Z2y (s0 : St) (rs : List ResultVar) (K : Value → St → Prop) : Ex → WK
 | .exit _ => fun _ _ _ => False
 | _ => fun τ ds s => Zhf P ro ds s fun s => Zw5 P ro τ s (fun vs => wfin s0 K (Zn4 vs) s) rs []
def Zbr (N : Nat) (fn : Func) (c : Code) (args : List Value) (s : St) (K : Value → St → Prop) : Prop :=
 wp P ro N none c (tau0 args) [] { h := s.h, n := s.n, lo := s.n } (Z2y P ro s fn.results.toList K)
end
section
variable {P : Program} {ro N : Nat}
theorem Z95 (n : Nat) (args : List Value) : Agr (max n args.length) (tree (max n args.length) args) (tau0 args) :=
 ⟨fun i hi => by rw [Z3b]; exact decide_eq_true hi, fun i hi => by
  unfold tau0
  rw [Z0n]
  unfold tree
  rw [Tr.fill_get _ _ _ _ (fun k hk => by rw [Tr.mk_has _ _ (Nat.le_refl _)]; simp; omega), Tr.mk_get]
  simp only [Nat.zero_le, if_true, Nat.sub_zero]
  cases args[i]? <;> rfl⟩
theorem Z8b [Memo] {ty ty' : TypeId} {v : Value} {s : St} {K : Value → St → Prop} (h : wop P ro (.load ty (.const v)) ty' s K) : ∃ u, Za4 P s ty v = some u ∧ K u s := by
 simp only [wop, Zvp, cond_true, aop, mkO, aval] at h
 cases e : Za4 P s ty v with
 | none => rw [e] at h; exact h.elim
 | some u => rw [e] at h; exact ⟨u, rfl, h⟩
theorem Zna [Memo] {t : Tr} {τ : Tau} {s : St} (h : Agr N t τ) {K : List Value → Prop} : ∀ {rs : List ResultVar} {acc : List Value}, (rs.all fun r => match r with | .tmp i => Nat.blt i N | .cell a _ => Nat.blt a N) = true → Zw5 P ro τ s K rs acc →
  ∃ vs, Zg5 P t s rs = some vs ∧ K (acc.reverse ++ vs)
 | [], acc, _, hw => ⟨[], rfl, by rw [List.append_nil]; exact hw⟩
 | .tmp i :: r, acc, hr, hw => by
  simp only [List.all_cons, Bool.and_eq_true] at hr
  obtain ⟨vs, e, hk⟩ := Zna h hr.2 hw
  refine ⟨τ i :: vs, ?_, by simpa using hk⟩
  rw [Zg5, Ztg, h.get i (Zta hr.1)]
  simp only [e, Option.map_some]
 | .cell a ty :: r, acc, hr, hw => by
  simp only [List.all_cons, Bool.and_eq_true] at hr
  obtain ⟨u, e1, hw⟩ := Z8b hw
  obtain ⟨vs, e, hk⟩ := Zna h hr.2 hw
  refine ⟨u :: vs, ?_, by simpa using hk⟩
  rw [Zg5, Ztg, h.get a (Zta hr.1), e1]
  simp only [e, Option.map_some]
theorem Zju [Memo] : ∀ {ds : List Deferred} {s : St} {K : St → Prop}, Zhf P ro ds s K → ∃ n s', Zfd P ro (ev P ro n) ds s = some s' ∧ K s'
 | [], s, K, h => ⟨0, s, rfl, h⟩
 | d :: ds, s, K, h => by
  unfold Zhf at h
  split at h
  ·rename_i k cap ht
   obtain ⟨n, s1, e, h⟩ := h
   obtain ⟨n2, s2, e2, h2⟩ := Zju h
   refine ⟨max n n2, s2, ?_, h2⟩
   rw [Zfd]
   simp only [ht]
   cases hb : Zpu P (ev P ro n) k (d.args.toList ++ cap.toList) s with
   | none => rw [hb] at e; cases e
   | some x =>
    rw [hb] at e
    rw [Zpt (Zem (Nat.le_max_left n n2)) hb, e]
    exact Zgh (Zem (Nat.le_max_right n n2)) _ e2
  ·rename_i r ht
   obtain ⟨hs, hr, h⟩ := h
   obtain ⟨n2, s2, e2, h2⟩ := Zju h
   refine ⟨n2, s2, ?_, h2⟩
   rw [Zfd]
   simp only [ht, Zwv, hs, Nat.ble_eq_true_of_le hr, cond_true]
   exact e2
  ·exact h.elim
def Yf6 (N : Nat) (rs : List ResultVar) : Bool := rs.all fun r => match r with | .tmp i => Nat.blt i N | .cell a _ => Nat.blt a N
structure BodyOk (P : Program) (N k : Nat) (f : FuncId) (fn : Func) (c : Code) : Prop where
 func : P.funcs[f]? = some fn
 ok : okFunc P fn = true
 body : fn.body = some c
 n : max fn.ntmps k = N
 lt : Zbd N c = true
 res : Yf6 N fn.results.toList = true
theorem Zas [Memo] {f : FuncId} {fn : Func} {c : Code} {args : List Value} {s : St} {K : Value → St → Prop} (hb : BodyOk P N args.length f fn c) (hm : Memo.look f args = none) (hw : Zbr P ro N fn c args s K) : CallWP P ro f args s K := by
 have ha := Z95 fn.ntmps args
 rw [hb.n] at ha
 obtain ⟨n, ex, t', ds', s', τ', e, h1, hk⟩ := Zf4 c hb.lt ha hw
 have hleave : ∃ n2 s2 vs, Zfd P ro (ev P ro n2) ds' s' = some s2 ∧ Zg5 P t' s2 fn.results.toList = some vs ∧ wfin s K (Zn4 vs) s2 ∧ (ex = .normal ∨ ex = .ret) := by
  have key : Zhf P ro ds' s' (fun s2 => Zw5 P ro τ' s2 (fun vs => wfin s K (Zn4 vs) s2) fn.results.toList []) → ∃ n2 s2 vs, Zfd P ro (ev P ro n2) ds' s' = some s2 ∧ Zg5 P t' s2 fn.results.toList = some vs ∧ wfin s K (Zn4 vs) s2 := fun hk => by
   obtain ⟨n2, s2, e2, hr⟩ := Zju hk
   obtain ⟨vs, e3, hf⟩ := Zna h1 hb.res hr
   exact ⟨n2, s2, vs, e2, e3, by simpa using hf⟩
  cases ex with
  | exit id => exact hk.elim
  | normal => obtain ⟨n2, s2, vs, a, b, c⟩ := key hk; exact ⟨n2, s2, vs, a, b, c, .inl rfl⟩
  | ret => obtain ⟨n2, s2, vs, a, b, c⟩ := key hk; exact ⟨n2, s2, vs, a, b, c, .inr rfl⟩
 obtain ⟨n2, s2, vs, e2, e3, hf, hex⟩ := hleave
 refine ⟨max n n2, (Zim s (Zn4 vs) s2).1, (Zim s (Zn4 vs) s2).2, ?_, hf⟩
 unfold Znx
 rw [hm]
 simp only [Yfg, Zou, Zpu, hb.func, hb.ok, hb.body, hb.n, cond_true]
 rw [Zem (Nat.le_max_left n n2) _ _ _ _ e]
 have hlv : leaves fn (some (ex, (⟨t', ds', none⟩ : Fr), s')) = some (fn, ⟨t', ds', none⟩, s') := by rcases hex with rfl | rfl <;> rfl
 rw [hlv]
 simp only [Zzj]
 rw [Zgh (Zem (Nat.le_max_right n n2)) _ e2]
 simp only [Zoo, e3, Option.map_some]
theorem CallWP.mono [Memo] {f : FuncId} {args : List Value} {s : St} {K K' : Value → St → Prop} (h : CallWP P ro f args s K) (hk : ∀ v s', K v s' → K' v s') : CallWP P ro f args s K' := by
 obtain ⟨n, v, s', e, h⟩ := h
 exact ⟨n, v, s', e, hk v s' h⟩
theorem Zrb [Memo] {l : Nat} {t : Tr} {τ : Tau} {assign body : Code} {s : St} {K : Value → St → Prop} (ht : Agr N t τ) (ha : Zbd N assign = true) (hb : Zbd N body = true) (hl : ro ≤ l)
  (hw : wp P ro N (some l) assign τ [] s (Zqr (fun τ ds s => ∃ r, s.at l = some (.loop r) ∧ r.state = .ready ∧ wp P ro N (some l) body τ ds (s.put l (.loop { r with state := .busy })) fun ex _ _ s =>
   ∃ r, s.at l = some (.loop r) ∧ K (.bool (Zgd ex).isNone) (s.put l (.loop { r with state := if (Zgd ex).isNone then .ready else .done, pending := Zgd ex }))) fun _ _ _ _ => False)) : Zlx P ro l t assign body s K := by
 obtain ⟨n, ex, t1, ds1, s1, τ1, e, h1, hk⟩ := Zf4 assign ha ht hw
 cases ex with
 | exit id => exact hk.elim
 | ret => exact hk.elim
 | normal =>
  obtain ⟨r, hr, hst, hw⟩ := hk
  obtain ⟨n2, ex2, t2, ds2, s2, τ2, e2, h2, r2, hr2, hk⟩ := Zf4 body hb h1 hw
  refine ⟨max n n2, _, _, ?_, hk⟩
  unfold Zon
  rw [Zem (Nat.le_max_left n n2) _ _ _ _ e]
  simp only [hr, Zwl, hst, Nat.ble_eq_true_of_le hl, cond_true]
  rw [Zem (Nat.le_max_right n n2) _ _ _ _ e2]
  simp only [Z2g, hr2, Nat.ble_eq_true_of_le hl, cond_true]
theorem Z2v [Memo] {k : FuncId} {first cap : Array Value} {ps : Array Tmp} {assign body : Code} {τ : Tau} {ds : List Deferred} {s : St} {K R : WK} {L : List (Nat × WK)} (hro : ro ≤ s.n + 1)
  (hw : ∀ t, Agr N t τ → CallWP P ro k (first.toList ++ (Value.func (.yield (s.n + 1)) (.mk []) (.mk []) :: cap.toList)) ((s.new (.defd (some []))).new (.loop { state := .ready, pending := none, t := t, params := ps.toList, assign := assign, body := body, defers := s.n }))
   fun _ s' => ∃ r ex, s'.at (s.n + 1) = some (.loop r) ∧ (r.state = .ready ∨ r.state = .done) ∧ Zxx r.pending = some ex ∧ Zqr K (outs R L) ex τ ({ target := .collected s.n, args := #[] } :: ds) (s'.put (s.n + 1) (.loop { r with state := .exhausted }))) :
  Z4a P ro N none (.func (.func k) first cap) ps assign body τ ds s K R L := by
 intro t ht
 obtain ⟨n, v, s', e, r, ex, hr, hst, hp, hk⟩ := hw t ht
 refine ⟨n, ex, _, _, ?_, hk⟩
 unfold Zqd
 simp only [Zlt, e, Z2i, Zwm, hr]
 rcases hst with hst | hst <;> simp only [hst, hp, Nat.ble_eq_true_of_le hro, cond_true]
end
end Go.VE
namespace Go.VE
open Go
def T (τ : Tau) : List (Nat × Value) → Tau
 | [] => τ
 | p :: r => T (tset τ p.1 p.2) r
def Za7 (f : Func) : Code :=
 match f.body with
 | some c => c
 | none => .skip
def Za3 : List Nat → Code → Code
 | [], c => c
 | i :: p, c =>
  match c, i with
  | .seq a _, 0 => Za3 p a
  | .seq _ b, _ => Za3 p b
  | .cond _ a _, 0 => Za3 p a
  | .cond _ _ b, _ => Za3 p b
  | .block _ a, _ => Za3 p a
  | .loop a, _ => Za3 p a
  | .scope a, _ => Za3 p a
  | .rangeFunc _ _ a _, 0 => Za3 p a
  | .rangeFunc _ _ _ b, _ => Za3 p b
  | _, _ => .skip
def ent (s : St) : St := { h := s.h, n := s.n, lo := s.n }
end Go.VE
namespace Go.VE
open Go
abbrev AL := List (Nat × Value)
abbrev XK := Tau → AL → List Deferred → St → Prop
def U (τ : Tau) : AL → Tau
 | [] => τ
 | p :: r => tset (U τ r) p.1 p.2
def rd (τ : Tau) (i : Nat) (K : Value → Prop) : AL → Prop
 | [] => K (τ i)
 | p :: r => bif Nat.beq i p.1 then K p.2 else rd τ i K r
theorem Z0k {τ : Tau} {i : Nat} {K : Value → Prop} : ∀ {l : AL}, rd τ i K l = K (U τ l i)
 | [] => rfl
 | p :: r => by
  simp only [rd, U, tset]
  cases Nat.beq i p.1 with
  | true => rfl
  | false => exact Z0k
def rdO (τ : Tau) (l : AL) (x : Operand) (K : Value → Prop) : Prop :=
 match x with
 | .tmp i => rd τ i K l
 | .const v => K v
 | .global g => K (.pointer (some ⟨g, 0, none⟩))
 | .func f => K (.func (.func f) (.mk []) (.mk []))
theorem Zh7 {τ : Tau} {l : AL} {x : Operand} {K : Value → Prop} : rdO τ l x K = K (oval (U τ l) x) := by
 cases x with
 | tmp i => exact Z0k
 | _ => rfl
def rdV (τ : Tau) (l : AL) : List Operand → (List Value → Prop) → Prop
 | [], K => K []
 | x :: r, K => rdO τ l x fun v => rdV τ l r fun vs => K (v :: vs)
theorem Z7t {τ : Tau} {l : AL} : ∀ {xs : List Operand} {K : List Value → Prop}, rdV τ l xs K = K (Zvl (U τ l) xs)
 | [], K => rfl
 | x :: r, K => by simp only [rdV, Zh7, Z7t, Zvl]
def rdC (τ : Tau) (l : AL) : List Operand → (List Operand → Prop) → Prop
 | [], K => K []
 | x :: r, K => rdO τ l x fun v => rdC τ l r fun vs => K (.const v :: vs)
theorem Z7u {τ : Tau} {l : AL} : ∀ {xs : List Operand} {K : List Operand → Prop}, rdC τ l xs K = K (xs.map (osub (U τ l)))
 | [], K => rfl
 | x :: r, K => by simp only [rdC, Zh7, Z7u, List.map_cons, osub]
def rdP (τ : Tau) (l : AL) : List (Nat × Operand) → (List (Nat × Operand) → Prop) → Prop
 | [], K => K []
 | p :: r, K => rdO τ l p.2 fun v => rdP τ l r fun vs => K ((p.1, .const v) :: vs)
theorem Ybd {τ : Tau} {l : AL} : ∀ {xs : List (Nat × Operand)} {K : List (Nat × Operand) → Prop}, rdP τ l xs K = K (Zi9 (U τ l) xs)
 | [], K => rfl
 | x :: r, K => by simp only [rdP, Zh7, Ybd, Zi9, List.map_cons, osub]
def rdM (τ : Tau) (l : AL) : Option Operand → (Option Operand → Prop) → Prop
 | none, K => K none
 | some x, K => rdO τ l x fun v => K (some (.const v))
theorem Yef {τ : Tau} {l : AL} {x : Option Operand} {K : Option Operand → Prop} : rdM τ l x K = K (x.map (osub (U τ l))) := by
 cases x with
 | none => rfl
 | some y => simp only [rdM, Zh7, Option.map_some, osub]
def Z4c (τ : Tau) (l : AL) (c : Call) (K : Call → Prop) : Prop :=
 match c.callee with
 | .value f => rdO τ l f fun v => rdC τ l c.args.toList fun as => K ⟨.value (.const v), ⟨as⟩, c.argTypes⟩
 | .invoke r m => rdO τ l r fun v => rdC τ l c.args.toList fun as => K ⟨.invoke (.const v) m, ⟨as⟩, c.argTypes⟩
 | .builtin b => rdC τ l c.args.toList fun as => K ⟨.builtin b, ⟨as⟩, c.argTypes⟩
theorem Zu5 {τ : Tau} {l : AL} {c : Call} {K : Call → Prop} : Z4c τ l c K = K (Zik (U τ l) c) := by
 obtain ⟨callee, args, tys⟩ := c
 cases callee <;> simp only [Z4c, Zh7, Z7u, Zik, Zlm, osub]
def xsub (τ : Tau) (l : AL) (o : Op) (K : Op → Prop) : Prop :=
 match o with
 | .move x => rdO τ l x fun x => K (.move (.const x))
 | .assign x => rdO τ l x fun x => K (.assign (.const x))
 | .pick c a b => rdO τ l c fun c => rdO τ l a fun a => rdO τ l b fun b => K (.pick (.const c) (.const a) (.const b))
 | .box e x => rdO τ l x fun x => K (.box e (.const x))
 | .build t ps => rdP τ l ps.toList fun ps => K (.build t ⟨ps⟩)
 | .buildSlice t n ps => rdP τ l ps.toList fun ps => K (.buildSlice t n ⟨ps⟩)
 | .insert t m k v => rdO τ l m fun m => rdO τ l k fun k => rdO τ l v fun v => K (.insert t (.const m) (.const k) (.const v))
 | .load t a => rdO τ l a fun a => K (.load t (.const a))
 | .store t a x => rdO τ l a fun a => rdO τ l x fun x => K (.store t (.const a) (.const x))
 | .nilCheck x => rdO τ l x fun x => K (.nilCheck (.const x))
 | .binOp o t x y r => rdO τ l x fun x => rdO τ l y fun y => K (.binOp o t (.const x) (.const y) r)
 | .unOp o t x => rdO τ l x fun x => K (.unOp o t (.const x))
 | .convert s d x => rdO τ l x fun x => K (.convert s d (.const x))
 | .sliceToArrayPointer d x => rdO τ l x fun x => K (.sliceToArrayPointer d (.const x))
 | .makeFunc f a c => rdC τ l a.toList fun a => rdC τ l c.toList fun c => K (.makeFunc f ⟨a⟩ ⟨c⟩)
 | .makeSlice t n c => rdO τ l n fun n => rdO τ l c fun c => K (.makeSlice t (.const n) (.const c))
 | .slice t x lo hi mx => rdO τ l x fun x => rdM τ l lo fun lo => rdM τ l hi fun hi => rdM τ l mx fun mx => K (.slice t (.const x) lo hi mx)
 | .fieldAddr t x f => rdO τ l x fun x => K (.fieldAddr t (.const x) f)
 | .field t x f => rdO τ l x fun x => K (.field t (.const x) f)
 | .indexAddr t x i => rdO τ l x fun x => rdO τ l i fun i => K (.indexAddr t (.const x) (.const i))
 | .index t x i => rdO τ l x fun x => rdO τ l i fun i => K (.index t (.const x) (.const i))
 | .lookup t x i ok => rdO τ l x fun x => rdO τ l i fun i => K (.lookup t (.const x) (.const i) ok)
 | .mapUpdate t m k v => rdO τ l m fun m => rdO τ l k fun k => rdO τ l v fun v => K (.mapUpdate t (.const m) (.const k) (.const v))
 | .range t x => rdO τ l x fun x => K (.range t (.const x))
 | .entry x => rdO τ l x fun x => K (.entry (.const x))
 | .extract x i => rdO τ l x fun x => K (.extract (.const x) i)
 | .call c => Z4c τ l c fun c => K (.call c)
 | .defer c => Z4c τ l c fun c => K (.defer c)
 | o => K o
theorem Z6l {τ : Tau} {l : AL} {o : Op} {K : Op → Prop} : xsub τ l o K = K (Zdo (U τ l) o) := by
 cases o <;> simp only [xsub, Zh7, Ybd, Z7u, Yef, Zu5, Zdo, osub]
def xput (l : AL) (dst : Option Tmp) (v : Value) (K : AL → Prop) : Prop :=
 match dst with
 | some d => K ((d, v) :: l)
 | none => K l
theorem Zu4 {τ : Tau} {l : AL} {dst : Option Tmp} {v : Value} {K : AL → Prop} {K' : Tau → Prop} (h : ∀ l, K l = K' (U τ l)) : xput l dst v K = K' (tput (U τ l) dst v) := by
 cases dst with
 | none => exact h l
 | some d => exact h _
def Z6m (τ : Tau) (l : AL) (x : Operand) (A B : AL → Prop) : Prop :=
 match x with
 | .tmp i => rd τ i (fun v => wdec v (A ((i, .bool true) :: l)) (B ((i, .bool false) :: l))) l
 | x => rdO τ l x fun v => wdec v (A l) (B l)
theorem Z2u {τ : Tau} {l : AL} {x : Operand} {A B : AL → Prop} {A' B' : Tau → Prop} (hA : ∀ l, A l = A' (U τ l)) (hB : ∀ l, B l = B' (U τ l)) : Z6m τ l x A B = Zz0 (U τ l) x A' B' := by
 cases x with
 | tmp i => simp only [Z6m, Zz0, Z0k, hA, hB, U]
 | _ => simp only [Z6m, Zz0, Zh7, hA, hB]
def Zp7 {α : Sort _} (n : Nat) (K : Nat → α) : α :=
 match n with
 | 0 => K 0
 | m + 1 => K (m + 1)
def Zsx {α : Sort _} : List Nat → (List Nat → α) → α
 | [], K => K []
 | x :: r, K => Zp7 x fun x => Zsx r fun r => K (x :: r)
def Zys {α : Sort _} : List (Nat × Rng) → (List (Nat × Rng) → α) → α
 | [], K => K []
 | (x, g) :: r, K => Zp7 x fun x => Zys r fun r => K ((x, g) :: r)
theorem Zli {α : Sort _} (n : Nat) (K : Nat → α) : Zp7 n K = K n := by cases n <;> rfl
theorem Zoi {α : Sort _} : ∀ (l : List Nat) (K : List Nat → α), Zsx l K = K l
 | [], K => rfl
 | x :: r, K => by simp only [Zsx, Zli, Zoi]
theorem Zyr {α : Sort _} : ∀ (l : List (Nat × Rng)) (K : List (Nat × Rng) → α), Zys l K = K l
 | [], K => rfl
 | (x, g) :: r, K => by simp only [Zys, Zli, Zyr]
def Z2t (all : List Oper) (sk : List Nat) (o : Oper) (τ : Tau) (l : AL) (A B : AL → Prop) : Prop :=
 match o.guard with
 | none => A l
 | some (j, want) => bif sk.any (Nat.beq j) then B l else
  match gdst all j with
  | some d => rd τ d (fun v => wdec v (bif want then A ((d, .bool true) :: l) else B ((d, .bool true) :: l)) (bif want then B ((d, .bool false) :: l) else A ((d, .bool false) :: l))) l
  | none => B l
theorem Zwy {all : List Oper} {sk : List Nat} {o : Oper} {τ : Tau} {l : AL} {A B : AL → Prop} {A' B' : Tau → Prop} (hA : ∀ l, A l = A' (U τ l)) (hB : ∀ l, B l = B' (U τ l)) : Z2t all sk o τ l A B = Zt1 all sk o (U τ l) A' B' := by
 unfold Z2t Zt1
 cases o.guard with
 | none => exact hA l
 | some jw =>
  obtain ⟨j, want⟩ := jw
  simp only
  cases sk.any (Nat.beq j) with
  | true => exact hB l
  | false =>
   simp only [cond_false]
   cases gdst all j with
   | none => exact hB l
   | some d => simp only [Z0k, hA, hB, U]
theorem Ztd (τ : Tau) : ∀ l : List Operand, Zer .e (l.map (osub τ)) = Zvl τ l
 | [] => rfl
 | x :: r => by simp only [List.map_cons, Zer, Zvl, Ztd τ r]; rfl
def Z2s (all : List Oper) (sk : List Nat) (dst : Option Tmp) (K : List Nat → Prop) : Prop :=
 match sk with
 | [] => K []
 | sk => Zsx (Zj5 all sk dst) K
theorem Zwx {all : List Oper} {sk : List Nat} {dst : Option Tmp} {K : List Nat → Prop} : Z2s all sk dst K = K (Zj5 all sk dst) := by
 unfold Z2s
 split
 ·cases dst <;> rfl
 ·exact Zoi _ _
def Z3w {α : Sort _} (all : List Oper) : List (Nat × Oper) → (List (Nat × Oper) → α) → α
 | [], K => K []
 | p :: r, K => Zp7 p.1 fun i => Z3w all r fun r => K ((i, p.2) :: r)
theorem Zyt {α : Sort _} {all : List Oper} : ∀ (l : List (Nat × Oper)) (K : List (Nat × Oper) → α), Z3w all l K = K l
 | [], K => rfl
 | p :: r, K => by simp only [Z3w, Zli, Zyt]
def argL : List Value → Nat → AL
 | [], _ => []
 | v :: r, i => (i, v) :: argL r (i + 1)
def Zb2 : Tau := fun _ => undef
theorem Z36 : ∀ (args : List Value) (i j : Nat), U Zb2 (argL args i) j = if i ≤ j then (match args[j - i]? with | some v => v | none => undef) else undef
 | [], i, j => by simp [argL, U, Zb2]
 | v :: r, i, j => by
  simp only [argL, U]
  rw [Zad, Z36 r (i + 1) j]
  by_cases h : j = i
  ·subst h; simp
  ·rw [if_neg h]
   by_cases h2 : i + 1 ≤ j
   ·rw [if_pos h2, if_pos (by omega), show j - i = (j - (i + 1)) + 1 by omega, List.getElem?_cons_succ]
   ·rw [if_neg h2, if_neg (by omega)]
theorem Ycf (args : List Value) : U Zb2 (argL args 0) = tau0 args := by
 funext j
 rw [Z36]
 simp only [Nat.zero_le, if_true, Nat.sub_zero, tau0, Z0n]
 all_goals (cases args[j]? <;> rfl)
def Z3x {α : Sort _} : List Value → Nat → (AL → α) → α
 | [], _, K => K []
 | v :: r, i, K => Zp7 i fun i => Z3x r (i + 1) fun l => K ((i, v) :: l)
theorem Zyu {α : Sort _} : ∀ (args : List Value) (i : Nat) (K : AL → α), Z3x args i K = K (argL args i)
 | [], i, K => rfl
 | v :: r, i, K => by simp only [Z3x, Zli, Zyu, argL]
structure Prims where
 wop : Op → TypeId → St → (Value → St → Prop) → Prop
 call : FuncId → List Value → St → (Value → St → Prop) → Prop
 wcall : Value → List Value → St → (Value → St → Prop) → Prop
 wdefer : Op → TypeId → St → (Deferred → St → Prop) → Prop
 defers : List Deferred → St → (St → Prop) → Prop
 loop : Nat → Option Nat → Code → Tau → List Deferred → St → WK → List (Nat × WK) → Prop
 range : Nat → Option Nat → Value → Array Tmp → Code → Code → Tau → List Deferred → St → WK → WK → List (Nat × WK) → Prop
 fin : St → (Value → St → Prop) → Value → St → Prop
 hold : Prop → Prop
def Zao [Memo] (P : Program) (ro : Nat) : Prims where
 wop := wop P ro
 call := CallWP P ro
 wcall := wcall P ro
 wdefer := wdefer P ro
 defers := Zhf P ro
 loop N rnd := Zf2 P ro N rnd
 range N rnd := Z4a P ro N rnd
 fin := wfin
 hold X := X
section
variable [Memo] {P : Program} {ro : Nat}
theorem Zcx : (Zao P ro).wop = wop P ro := rfl
theorem Zcn : (Zao P ro).call = CallWP P ro := rfl
theorem Z3h : (Zao P ro).wcall = wcall P ro := rfl
theorem Zxu : (Zao P ro).wdefer = wdefer P ro := rfl
theorem Zxv : (Zao P ro).defers = Zhf P ro := rfl
theorem Z0l {N : Nat} {rnd : Option Nat} : (Zao P ro).loop N rnd = Zf2 P ro N rnd := rfl
theorem Z3i {N : Nat} {rnd : Option Nat} : (Zao P ro).range N rnd = Z4a P ro N rnd := rfl
theorem Zgp : (Zao P ro).fin = wfin := rfl
theorem Zgl (X : Prop) : (Zao P ro).hold X = X := propext Iff.rfl
end
section
variable (I : Prims) (rnd : Option Nat)
def Zio (v : Value) (args : List Value) (s : St) (K : Value → St → Prop) : Prop :=
 match v with
 | .func (.func k) first cap => I.call k (first.toList ++ (args ++ cap.toList)) s K
 | v => I.wcall v args s K
theorem Zw0 [Memo] {P : Program} {ro : Nat} {v : Value} {args : List Value} {s : St} {K : Value → St → Prop} : Zio (Zao P ro) v args s K = wcall P ro v args s K := by
 unfold Zio
 split <;> rfl
def Zbh (ds : List Deferred) (s : St) (K : St → Prop) : Prop :=
 match ds with
 | [] => K s
 | ds => I.defers ds s K
theorem Zly [Memo] {P : Program} {ro : Nat} {ds : List Deferred} {s : St} {K : St → Prop} : Zbh (Zao P ro) ds s K = Zhf P ro ds s K := by
 unfold Zbh
 split <;> rfl
def x1 (o : Oper) (τ : Tau) (l : AL) (ds : List Deferred) (s : St) (K : AL → List Deferred → St → Prop) : Prop :=
 match o.op with
 | .move x => rdO τ l x fun v => xput l o.dst v fun l => K l ds s
 | .assign x => rdO τ l x fun v => xput l o.dst v fun l => K l ds s
 | .pick c a b => Z6m τ l c (fun l => rdO τ l a fun v => xput l o.dst v fun l => K l ds s) (fun l => rdO τ l b fun v => xput l o.dst v fun l => K l ds s)
 | .defer c => rnd = none ∧ Z4c τ l c fun c => I.wdefer (.defer c) o.type s fun d s' => xput l o.dst undef fun l => K l (d :: ds) s'
 | .makeFunc (.func f) a c => rdV τ l a.toList fun a => rdV τ l c.toList fun c => xput l o.dst (.func (.func f) ⟨a⟩ ⟨c⟩) fun l => K l ds s
 | .call c => (match c.callee with
  | .value f => rdO τ l f fun f => rdV τ l c.args.toList fun as => Zio I f as s fun v s' => xput l o.dst v fun l => K l ds s'
  | _ => Z4c τ l c fun c => I.wop (.call c) o.type s fun v s' => xput l o.dst v fun l => K l ds s')
 | op => xsub τ l op fun op => I.wop op o.type s fun v s' => xput l o.dst v fun l => K l ds s'
theorem Ydl [Memo] {P : Program} {ro : Nat} {o : Oper} {τ : Tau} {l : AL} {ds : List Deferred} {s : St} {K : AL → List Deferred → St → Prop} {K' : WK} (h : ∀ l ds s, K l ds s = K' (U τ l) ds s) : x1 (Zao P ro) rnd o τ l ds s K = w1 P ro rnd o (U τ l) ds s K' := by
 have hp : ∀ (v : Value) (ds : List Deferred) (s : St), xput l o.dst v (fun l => K l ds s) = K' (tput (U τ l) o.dst v) ds s := fun v ds s => Zu4 (K' := fun τ => K' τ ds s) fun l => h l ds s
 have hq : ∀ (l : AL) (v : Value) (ds : List Deferred) (s : St), xput l o.dst v (fun l => K l ds s) = K' (tput (U τ l) o.dst v) ds s := fun l v ds s => Zu4 (K' := fun τ => K' τ ds s) fun l => h l ds s
 cases hop : o.op with
 | move x => simp only [x1, w1, hop, Zh7, hp]
 | assign x => simp only [x1, w1, hop, Zh7, hp]
 | pick c a b => simp only [x1, w1, hop]; exact Z2u (fun l => by rw [Zh7, hq]) (fun l => by rw [Zh7, hq])
 | «defer» c => simp only [x1, w1, hop, Zu5, hp, Zao]
 | makeFunc fn a c =>
  cases fn with
  | func f =>
   simp only [x1, w1, hop, Z7t, hp, wop, Zdo, Zvp, cond_true, aop, mkO, amk, fnOk, wfol, Ztd]
  | _ => simp only [x1, w1, hop, Z6l, hp, Zao]
 | call c =>
  simp only [x1, w1, hop]
  cases c.callee with
  | value f => simp only [Zh7, Z7t, hp, Zw0]
  | _ => simp only [Zu5, hp, Zao]
 | _ => simp only [x1, w1, hop, Z6l, hp, Zao]
def xops (all : List Oper) : List Oper → Nat → List Nat → Tau → AL → List Deferred → St → (AL → List Deferred → St → Prop) → Prop
 | [], _, _, _, l, ds, s, K => K l ds s
 | o :: r, i, sk, τ, l, ds, s, K => Z2s all sk o.dst fun sk' => Z2t all sk o τ l (fun l => x1 I rnd o τ l ds s fun l ds s => Zp7 (i + 1) fun j => xops all r j sk' τ l ds s K)
   (fun l => xput l o.dst undef fun l => Zp7 i fun i => Zp7 (i + 1) fun j => xops all r j (i :: sk') τ l ds s K)
theorem Zzm [Memo] {P : Program} {ro : Nat} {all : List Oper} {τ : Tau} {K : AL → List Deferred → St → Prop} {K' : WK} (h : ∀ l ds s, K l ds s = K' (U τ l) ds s) : ∀ {r : List Oper} {i : Nat} {sk : List Nat} {l : AL} {ds : List Deferred} {s : St},
  xops (Zao P ro) rnd all r i sk τ l ds s K = wops P ro rnd all r i sk (U τ l) ds s K'
 | [], _, _, l, ds, s => h l ds s
 | o :: r, i, sk, l, ds, s => by
  simp only [xops, wops, Zwx, Zli]
  refine Zwy (fun l => Ydl rnd fun l ds s => Zzm h) fun l => ?_
  exact Zu4 (K' := fun τ => wops P ro rnd all r (i + 1) (i :: Zj5 all sk o.dst) τ ds s K') fun l => Zzm h
def xrng (o : Oper) (τ : Tau) (l : AL) (s : St) (K : Rng → Prop) : Prop :=
 match o.op with
 | .load _ x => rdO τ l x fun a => K (.ptr a)
 | _ => K (.below s.n)
theorem Ybt {o : Oper} {τ : Tau} {l : AL} {s : St} {K : Rng → Prop} : xrng o τ l s K = K (Yah o (U τ l) s) := by
 unfold xrng Yah
 cases o.op <;> first | rfl | exact Zh7
def xrun (all : List Oper) (ms : List Nat) (hasA hasF : Bool) : List (Nat × Oper) → List Nat → List Nat → List (Nat × Rng) → List Nat → Tau → AL → List Deferred → St → (AL → List Deferred → St → Prop) → Prop
 | [], _, _, _, _, _, l, ds, s, K => K l ds s
 | (i, o) :: r, sk, acts, opn, cls, τ, l, ds, s, K => Z2s all sk o.dst fun sk' =>
  Z2t all sk o τ l
   (fun l => x1 I rnd o τ l ds s fun l' ds' s' =>
    bif Zco o then
     bif Zfn (nthN ms i) cls then
      Zys (Zml (nthN ms i) opn) fun stay => Zsx (cls ++ Z88 (nthN ms i) opn) fun cls' =>
       bimp (!stay.isEmpty) (Keeps stay s s') (bimp (hasF && stay.isEmpty) (s.n ≤ s'.n) (xrun all ms hasA hasF r sk' (i :: acts) stay cls' τ l' ds' s' K))
     else False
    else bif Zd4 o then
     bif Zfn (nthN ms i) acts && Znr o r then bimp (Z8s o.op) (s' = s) (bimp hasA (match o.dst with | some d => rd τ d (fun v => veq v v = true) l' | none => True) (xrng o τ l s fun g => xrun all ms hasA hasF r sk' acts ((i, g) :: opn) cls τ l' ds' s' K)) else False
    else bif Zbw o then
     bif Zfn (nthN ms i) acts then Zcm s s' ∧ xrun all ms hasA hasF r sk' acts ((i, .blk s.n) :: opn) cls τ l' ds' s' K else False
    else xrun all ms hasA hasF r sk' acts opn cls τ l' ds' s' K)
   (fun l => xput l o.dst undef fun l' => bif Zco o then
     bif Zfn (nthN ms i) cls then Zys (Zml (nthN ms i) opn) fun stay => Zsx (cls ++ Z88 (nthN ms i) opn) fun cls' => xrun all ms hasA hasF r (i :: sk') (i :: acts) stay cls' τ l' ds s K else False
    else xrun all ms hasA hasF r (i :: sk') acts opn cls τ l' ds s K)
theorem Zm9 [Memo] {P : Program} {ro : Nat} {all : List Oper} {ms : List Nat} {hasA hasF : Bool} {τ : Tau} {K : AL → List Deferred → St → Prop} {K' : WK} (h : ∀ l ds s, K l ds s = K' (U τ l) ds s) : ∀ {r : List (Nat × Oper)} {sk acts : List Nat} {opn : List (Nat × Rng)} {cls : List Nat} {l : AL} {ds : List Deferred} {s : St},
  xrun (Zao P ro) rnd all ms hasA hasF r sk acts opn cls τ l ds s K = wrun P ro rnd all ms hasA hasF r sk acts opn cls (U τ l) ds s K'
 | [], _, _, _, _, l, ds, s => h l ds s
 | (i, o) :: r, sk, acts, opn, cls, l, ds, s => by
  simp only [xrun, wrun, Zwx, Zoi, Zyr]
  refine Zwy (fun l => Ydl rnd fun l' ds' s' => ?_) fun l => ?_
  ·have hv : (match o.dst with | some d => rd τ d (fun v => veq v v = true) l' | none => True) = veqD o (U τ l') := by
    unfold veqD
    cases o.dst with
    | none => rfl
    | some d => exact Z0k
   simp only [wact, hv, Ybt]
   rw [Zm9 h, Zm9 h, Zm9 h, Zm9 h]
  ·refine Zu4 (K' := fun τ => bif Zco o then Z9u ms i opn cls fun opn cls => wrun P ro rnd all ms hasA hasF r (i :: Zj5 all sk o.dst) (i :: acts) opn cls τ ds s K'
    else wrun P ro rnd all ms hasA hasF r (i :: Zj5 all sk o.dst) acts opn cls τ ds s K') fun l => ?_
   simp only [Z9u]
   rw [Zm9 h, Zm9 h]
def Ybu (all : List Oper) (τ : Tau) (l : AL) (ds : List Deferred) (s : St) (K : AL → List Deferred → St → Prop) : Prop :=
 Zsx (Zih all) fun ms => Z3w all (Zek all) fun ord => xrun I rnd all ms (Zuw ord) (Zmf ord) ord [] [] [] [] τ l ds s K
theorem Z9t [Memo] {P : Program} {ro : Nat} {all : List Oper} {τ : Tau} {l : AL} {ds : List Deferred} {s : St} {K : AL → List Deferred → St → Prop} {K' : WK} (h : ∀ l ds s, K l ds s = K' (U τ l) ds s) : Ybu (Zao P ro) rnd all τ l ds s K = Z9x P ro rnd all (U τ l) ds s K' := by
 unfold Ybu Z9x
 rw [Zoi, Zyt, Zm9 rnd h]
def Z7e (K : XK) (Q : Ex → XK) : Ex → XK
 | .normal => K
 | ex => Q ex
def blkX (id : Nat) (Q : Ex → XK) : Ex → XK
 | .exit j => bif Nat.beq j id then Q .normal else Q (.exit j)
 | ex => Q ex
def Z86 (cuts : List (List Nat)) (p : List Nat) : Bool := cuts.any fun q => pathEq q p
where pathEq : List Nat → List Nat → Bool
 | [], [] => true
 | a :: r, b :: t => Nat.beq a b && pathEq r t
 | _, _ => false
variable (N : Nat)
def xp (cuts : List (List Nat)) : Code → List Nat → Tau → AL → List Deferred → St → (Ex → XK) → Prop
 | .skip, _, τ, l, ds, s, Q => Q .normal τ l ds s
 | .label _, _, τ, l, ds, s, Q => Q .normal τ l ds s
 | .region _ ops draw, _, τ, l, ds, s, Q => (match draw with
  | true => Ybu I rnd ops.toList τ l ds s (Q .normal τ)
  | false => xops I rnd ops.toList ops.toList 0 [] τ l ds s (Q .normal τ))
 | .seq a b, p, τ, l, ds, s, Q => xp cuts a (0 :: p) τ l ds s (Z7e (fun τ l ds s => bif Z86 cuts (1 :: p) then I.hold (xp cuts b (1 :: p) (U τ l) [] ds s Q) else xp cuts b (1 :: p) τ l ds s Q) Q)
 | .cond x a b, p, τ, l, ds, s, Q => Z6m τ l x (fun l => xp cuts a (0 :: p) τ l ds s Q) (fun l => xp cuts b (1 :: p) τ l ds s Q)
 | .block id a, p, τ, l, ds, s, Q => xp cuts a (0 :: p) τ l ds s (blkX id Q)
 | .loop a, _, τ, l, ds, s, Q => I.loop N rnd a (U τ l) ds s (fun τ ds s => Q .ret τ [] ds s) ((Zwh a).map fun id => (id, fun τ ds s => Q (.exit id) τ [] ds s))
 | .rangeFunc g ps assign body, _, τ, l, ds, s, Q => rdO τ l g fun g => I.range N rnd g ps assign body (U τ l) ds s (fun τ ds s => Q .normal τ [] ds s) (fun τ ds s => Q .ret τ [] ds s) ((Zwh (.seq assign body)).map fun id => (id, fun τ ds s => Q (.exit id) τ [] ds s))
 | .exit id, _, τ, l, ds, s, Q => Q (.exit id) τ l ds s
 | .scope a, p, τ, l, ds, s, Q => xp cuts a (0 :: p) τ l ds s Q
 | .goto _, _, _, _, _, _, _ => False
 | .ret, _, τ, l, ds, s, Q => Q .ret τ l ds s
 | .refuse _, _, _, _, _, _, _ => False
def sX (cuts : List (List Nat)) (b : Code) (p : List Nat) (Q : Ex → XK) : Ex → XK :=
 Z7e (fun τ l ds s => bif Z86 cuts p then I.hold (xp I rnd N cuts b p (U τ l) [] ds s Q) else xp I rnd N cuts b p τ l ds s Q) Q
theorem Zov [Memo] {P : Program} {ro : Nat} (cuts : List (List Nat)) : ∀ (c : Code) {p : List Nat} {τ : Tau} {l : AL} {ds : List Deferred} {s : St} {Q : Ex → XK} {Q' : Ex → WK}, (∀ ex τ l ds s, Q ex τ l ds s = Q' ex (U τ l) ds s) →
  xp (Zao P ro) rnd N cuts c p τ l ds s Q = wp P ro N rnd c (U τ l) ds s Q'
 | .skip, p, τ, l, ds, s, Q, Q', h => h _ _ _ _ _
 | .label _, p, τ, l, ds, s, Q, Q', h => h _ _ _ _ _
 | .region _ ops draw, p, τ, l, ds, s, Q, Q', h => by
  cases draw with
  | true => exact Z9t rnd fun l ds s => h _ _ _ _ _
  | false => exact Zzm rnd fun l ds s => h _ _ _ _ _
 | .seq a b, p, τ, l, ds, s, Q, Q', h => by
  refine Zov cuts a fun ex τ l ds s => ?_
  cases ex with
  | normal =>
   simp only [Z7e, Zqr]
   cases Z86 cuts (1 :: p) with
   | true => exact Zov cuts b h
   | false => exact Zov cuts b h
  | _ => exact h _ _ _ _ _
 | .cond x a b, p, τ, l, ds, s, Q, Q', h => Z2u (fun l => Zov cuts a h) (fun l => Zov cuts b h)
 | .block id a, p, τ, l, ds, s, Q, Q', h => by
  refine Zov cuts a fun ex τ l ds s => ?_
  cases ex with
  | exit j =>
   simp only [blkX, blkW]
   cases Nat.beq j id
   ·exact h _ _ _ _ _
   ·exact h _ _ _ _ _
  | _ => exact h _ _ _ _ _
 | .loop a, p, τ, l, ds, s, Q, Q', h => by
  have h1 : (fun τ ds s => Q .ret τ [] ds s) = Q' .ret := by funext τ ds s; exact h _ _ _ _ _
  have h2 : (fun id => (id, (fun τ ds s => Q (.exit id) τ [] ds s : WK))) = fun id => (id, Q' (.exit id)) := by
   funext id
   have : (fun τ ds s => Q (.exit id) τ [] ds s : WK) = Q' (.exit id) := by funext τ ds s; exact h _ _ _ _ _
   rw [this]
  simp only [xp, wp, h1, h2, Zao]
 | .rangeFunc g ps assign body, p, τ, l, ds, s, Q, Q', h => by
  have h0 : (fun τ ds s => Q .normal τ [] ds s) = Q' .normal := by funext τ ds s; exact h _ _ _ _ _
  have h1 : (fun τ ds s => Q .ret τ [] ds s) = Q' .ret := by funext τ ds s; exact h _ _ _ _ _
  have h2 : (fun id => (id, (fun τ ds s => Q (.exit id) τ [] ds s : WK))) = fun id => (id, Q' (.exit id)) := by
   funext id
   have : (fun τ ds s => Q (.exit id) τ [] ds s : WK) = Q' (.exit id) := by funext τ ds s; exact h _ _ _ _ _
   rw [this]
  simp only [xp, wp, Zh7, h0, h1, h2, Zao]
 | .exit id, p, τ, l, ds, s, Q, Q', h => h _ _ _ _ _
 | .scope a, p, τ, l, ds, s, Q, Q', h => Zov cuts a h
 | .goto _, p, τ, l, ds, s, Q, Q', h => rfl
 | .ret, p, τ, l, ds, s, Q, Q', h => h _ _ _ _ _
 | .refuse _, p, τ, l, ds, s, Q, Q', h => rfl
def lift (Q : Ex → WK) : Ex → XK := fun ex τ l ds s => Q ex (U τ l) ds s
theorem Zc8 [Memo] (P : Program) (ro : Nat) {cuts : List (List Nat)} {c : Code} {p : List Nat} {τ : Tau} {ds : List Deferred} {s : St} {Q : Ex → WK} {X : Prop} (h : xp (Zao P ro) rnd N cuts c p τ [] ds s (lift Q) = X) : wp P ro N rnd c τ ds s Q = X :=
 (Zov rnd N cuts c (l := []) fun _ _ _ _ _ => rfl).symm.trans h
def Z4b (τ : Tau) (l : AL) (s : St) (K : List Value → Prop) : List ResultVar → List Value → Prop
 | [], acc => K acc.reverse
 | .tmp i :: r, acc => rd τ i (fun v => Z4b τ l s K r (v :: acc)) l
 | .cell a ty :: r, acc => rd τ a (fun v => I.wop (.load ty (.const v)) ty s fun v _ => Z4b τ l s K r (v :: acc)) l
theorem Zny [Memo] {P : Program} {ro : Nat} {τ : Tau} {l : AL} {s : St} {K : List Value → Prop} : ∀ {rs : List ResultVar} {acc : List Value}, Z4b (Zao P ro) τ l s K rs acc = Zw5 P ro (U τ l) s K rs acc
 | [], acc => rfl
 | .tmp i :: r, acc => by simp only [Z4b, Zw5, Z0k, Zny]
 | .cell a ty :: r, acc => by simp only [Z4b, Zw5, Z0k, Zny, Zcx]
def Za5 (s0 : St) (rs : List ResultVar) (K : Value → St → Prop) : Ex → XK
 | .exit _ => fun _ _ _ _ => False
 | _ => fun τ l ds s => Zbh I ds s fun s => Z4b I τ l s (fun vs => I.fin s0 K (Zn4 vs) s) rs []
def Zbs (cuts : List (List Nat)) (fn : Func) (c : Code) (args : List Value) (s : St) (K : Value → St → Prop) : Prop :=
 Z3x args 0 fun l => xp I none N cuts c [] Zb2 l [] (ent s) (Za5 I s fn.results.toList K)
theorem Zap [Memo] (P : Program) (ro : Nat) {cuts : List (List Nat)} {fn : Func} {c : Code} {args : List Value} {s : St} {K : Value → St → Prop} {X : Prop} (h : Zbs (Zao P ro) N cuts fn c args s K = X) : Zbr P ro N fn c args s K = X := by
 rw [← h]
 unfold Zbs Zbr
 rw [Zyu, ← Ycf]
 refine (Zov none N cuts c fun ex τ l ds s => ?_).symm
 cases ex with
 | exit id => rfl
 | _ => simp only [Za5, Z2y, Zny, Zly, Zgp]
end
end Go.VE
