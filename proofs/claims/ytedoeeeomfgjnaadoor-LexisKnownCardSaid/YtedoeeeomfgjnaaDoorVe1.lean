/-
  A big-step evaluator of the model's code over an abstract heap: what it does; loads and stores against the machine's.
-/
import Derived.DefersIn
import Derived.RangeFuncLeaves
import Derived.Below
import Derived.Laws.Tables
set_option linter.unusedSimpArgs false
set_option linter.unusedVariables false
/- A big-step evaluator of the model's code over an abstract heap: definitions. -/
namespace Go.VE
open Go
def fnOk : Fn → Bool
  | .yield _ => false
  | _ => true
mutual
def flat : Value → Bool
  | .bool _ => true
  | .int _ _ => true
  | .float _ _ => true
  | .complex _ _ _ => true
  | .string _ => true
  | .nilFunc => true
  | .nilIface => true
  | .pointer a => a.isNone
  | .slice a _ _ => a.isNone
  | .map r => r.isNone
  | .chan r => r.isNone
  | .func fn a b => fnOk fn && flatA a && flatA b
  | .iface _ v => flat v
  | .agg cs => flatA cs
  | .tuple vs => flatA vs
def flatA : Array Value → Bool
  | .mk l => flatL l
def flatL : List Value → Bool
  | [] => true
  | v :: l => flat v && flatL l
end
mutual
def veq : Value → Value → Bool
  | .bool a, .bool b => a == b
  | .int k a, .int k' b => decide (k = k') && decide (a = b)
  | .string a, .string b => decide (a.data.toList = b.data.toList)
  | .nilFunc, .nilFunc => true
  | .nilIface, .nilIface => true
  | .pointer a, .pointer b => decide (a = b)
  | .slice a n c, .slice b m d => decide (a = b) && decide (n = m) && decide (c = d)
  | .map a, .map b => decide (a = b)
  | .func f a b, .func f' a' b' => decide (f = f') && veqA a a' && veqA b b'
  | .agg a, .agg b => veqA a b
  | .tuple a, .tuple b => veqA a b
  | _, _ => false
def veqA : Array Value → Array Value → Bool
  | .mk l, .mk l' => veqL l l'
def veqL : List Value → List Value → Bool
  | [], [] => true
  | v :: l, v' :: l' => veq v v' && veqL l l'
  | _, _ => false
end
def runPure {α : Type} (P : Program) : Sem α → Option α
  | .pure a => some a
  | .program k => runPure P (k P)
  | .mark _ k => runPure P k
  | _ => none
inductive Tr where
  | e
  | nd (v : Value) (a b : Tr)
def Tr.get : Tr → Nat → Value
  | .e, _ => undef
  | .nd v a b, i => match i with
    | 0 => v
    | j + 1 => bif Nat.beq (j % 2) 0 then a.get (j / 2) else b.get (j / 2)
def Tr.set : Tr → Nat → Value → Tr
  | .e, _, _ => .e
  | .nd v a b, i, u => match i with
    | 0 => .nd u a b
    | j + 1 => bif Nat.beq (j % 2) 0 then .nd v (a.set (j / 2) u) b else .nd v a (b.set (j / 2) u)
theorem Tr.get_e (i : Nat) : Tr.get .e i = undef := rfl
theorem Tr.get_z (v : Value) (a b : Tr) : Tr.get (.nd v a b) 0 = v := rfl
theorem Tr.get_s (v : Value) (a b : Tr) (j : Nat) : Tr.get (.nd v a b) (j + 1) = bif Nat.beq (j % 2) 0 then a.get (j / 2) else b.get (j / 2) := rfl
theorem Tr.set_e (i : Nat) (u : Value) : Tr.set .e i u = .e := rfl
theorem Tr.set_z (v u : Value) (a b : Tr) : Tr.set (.nd v a b) 0 u = .nd u a b := rfl
theorem Tr.set_s (v u : Value) (a b : Tr) (j : Nat) : Tr.set (.nd v a b) (j + 1) u = bif Nat.beq (j % 2) 0 then .nd v (a.set (j / 2) u) b else .nd v a (b.set (j / 2) u) := rfl
def Tr.mk : Nat → Nat → Tr
  | 0, _ => .e
  | f + 1, n => match n with
    | 0 => .e
    | m + 1 => .nd undef (Tr.mk f ((m + 1) / 2)) (Tr.mk f (m / 2))
def Tr.fill (t : Tr) : List Value → Nat → Tr
  | [], _ => t
  | v :: l, i => (t.set i v).fill l (i + 1)
structure Lp where
  state : LoopState
  pending : Option Code
  t : Tr
  params : List Tmp
  assign : Code
  body : Code
  defers : Nat
inductive AO where
  | cells (c : List Value) (t : TypeId) (opn : Bool)
  | dead
  | loop (l : Lp)
  | defd (c : Option (List Deferred))
  | map (es : List MapEntry) (clock : Nat)
  | iter (m since : Nat) (seen : List Nat) (last : Nat)
inductive HT where
  | e
  | nd (o : Option AO) (a b : HT)
def HT.get : HT → Nat → Option AO
  | .e, _ => none
  | .nd o a b, i => match i with
    | 0 => o
    | j + 1 => bif Nat.beq (j % 2) 0 then a.get (j / 2) else b.get (j / 2)
def HT.set : Nat → HT → Nat → AO → HT
  | 0, t, _, _ => t
  | f + 1, t, i, x =>
    match t with
    | .e => (match i with
      | 0 => .nd (some x) .e .e
      | j + 1 => bif Nat.beq (j % 2) 0 then .nd none (HT.set f .e (j / 2) x) .e else .nd none .e (HT.set f .e (j / 2) x))
    | .nd o a b => (match i with
      | 0 => .nd (some x) a b
      | j + 1 => bif Nat.beq (j % 2) 0 then .nd o (HT.set f a (j / 2) x) b else .nd o a (HT.set f b (j / 2) x))
theorem HT.get_e (i : Nat) : HT.get .e i = none := rfl
theorem HT.get_z (o : Option AO) (a b : HT) : HT.get (.nd o a b) 0 = o := rfl
theorem HT.get_s (o : Option AO) (a b : HT) (j : Nat) : HT.get (.nd o a b) (j + 1) = bif Nat.beq (j % 2) 0 then a.get (j / 2) else b.get (j / 2) := rfl
theorem HT.set_ez (f : Nat) (x : AO) : HT.set (f + 1) .e 0 x = .nd (some x) .e .e := rfl
theorem HT.set_es (f j : Nat) (x : AO) : HT.set (f + 1) .e (j + 1) x = bif Nat.beq (j % 2) 0 then .nd none (HT.set f .e (j / 2) x) .e else .nd none .e (HT.set f .e (j / 2) x) := rfl
theorem HT.set_z (f : Nat) (o : Option AO) (a b : HT) (x : AO) : HT.set (f + 1) (.nd o a b) 0 x = .nd (some x) a b := rfl
theorem HT.set_s (f j : Nat) (o : Option AO) (a b : HT) (x : AO) : HT.set (f + 1) (.nd o a b) (j + 1) x = bif Nat.beq (j % 2) 0 then .nd o (HT.set f a (j / 2) x) b else .nd o a (HT.set f b (j / 2) x) := rfl
structure Hp where
  t : HT
  length : Nat
structure St where
  h : Hp
  n : Nat
  lo : Nat
def St.at (s : St) (A : Nat) : Option AO := bif Nat.blt A s.n then s.h.t.get A else none
def St.put (s : St) (A : Nat) (o : AO) : St := { h := ⟨HT.set (A + 1) s.h.t A o, s.h.length⟩, n := s.n, lo := min s.lo A }
def St.new (s : St) (o : AO) : St := { h := ⟨HT.set (s.n + 1) s.h.t s.n o, s.h.length + 1⟩, n := s.n + 1, lo := s.lo }
def St.cut (s : St) (k lo : Nat) : St := { h := ⟨s.h.t, k⟩, n := k, lo := lo }
structure Fr where
  t : Tr
  ds : List Deferred
  rnd : Option Nat
inductive Ex where
  | normal
  | exit (id : Nat)
  | ret
inductive AR where
  | val (v : Value)
  | skip
  | enter (f : FuncId) (args : List Value)
  | round (l : Nat) (t : Tr) (assign body : Code)
  | dfr (d : Deferred)
def aval (t : Tr) : Operand → Value
  | .tmp i => t.get i
  | .const v => v
  | .global g => .pointer (some ⟨g, 0, none⟩)
  | .func f => .func (.func f) #[] #[]
def Fr.put (fr : Fr) (dst : Option Tmp) (v : Value) : Fr :=
  match dst with
  | some d => { fr with t := fr.t.set d v }
  | none => fr
def isAggD : TypeDesc → Bool
  | .struct _ => true
  | .array _ _ => true
  | _ => false
def isz (P : Program) (t : TypeId) : Option Nat := (P.info? t).map (·.size)
def cut (c : List Value) (o n : Nat) : Option (List Value) := bif Nat.ble (o + n) c.length then some ((c.drop o).take n) else none
def apart (P : Program) (t : TypeId) (cs : List Value) (off : Nat) : Option Value :=
  match P.info? t, P.underlying t with
  | some i, some d => bif isAggD d then (cut cs off i.size).map fun l => .agg l.toArray else cs[off]?
  | _, _ => none
def acells : Option AO → Option (List Value)
  | some (.cells c _ _) => some c
  | _ => none
def aload (P : Program) (s : St) (t : TypeId) (v : Value) : Option Value :=
  match v with
  | .pointer (some ⟨A, o, none⟩) => (acells (s.at A)).bind fun c => apart P t c o
  | _ => none
def splice (c : List Value) (o : Nat) (l : List Value) : List Value := c.take o ++ (l ++ c.drop (o + l.length))
def awriteIn (ro : Nat) (s : St) (A o : Nat) (l : List Value) : Option AO → Option St
  | some (.cells c t op) =>
    bif Nat.ble ro A && (Nat.ble (o + l.length) c.length && l.all (·.oneCell')) then some (s.put A (.cells (splice c o l) t op)) else none
  | _ => none
def awrite (ro : Nat) (s : St) (A o : Nat) (l : List Value) : Option St :=
  match l with
  | [] => some s
  | v :: r => awriteIn ro s A o (v :: r) (s.at A)
def astore (P : Program) (ro : Nat) (s : St) (t : TypeId) (a v : Value) : Option St :=
  match a, isz P t with
  | .pointer (some ⟨A, o, none⟩), some n => bif Nat.beq n v.cells.size then awrite ro s A o v.cells.toList else none
  | _, _ => none
def mkOk : Option Nat → Bool
  | some 1 => false
  | _ => true
def afirst (s : St) (size n : Nat) : Value → Option (List Value)
  | .slice none _ _ => some []
  | .slice (some ⟨A, o, m⟩) _ _ =>
    match n * size with
    | 0 => some []
    | k + 1 => bif mkOk m then (acells (s.at A)).bind fun c => cut c o (k + 1) else none
  | .string b => some (((b.extract 0 n).data.map fun b => Value.int .u8 b.toNat).toList)
  | _ => none
def alen : Value → Option Nat
  | .slice _ n _ => some n
  | .string s => some s.size
  | _ => none
def notInt (P : Program) (t : TypeId) : Bool :=
  match P.underlying t with
  | some (.int _) => false
  | some _ => true
  | none => false
def sliceElem (P : Program) (t : TypeId) : Option TypeId :=
  match P.underlying t with
  | some (.slice e) => some e
  | _ => none
def agrow (ro : Nat) (s : St) (elem : TypeId) (size sLen n sCap : Nat) (base : Option Addr) (old new : List Value) : Option (Value × St) :=
  match base with
  | none => some (.slice (some ⟨s.n, 0, some 0⟩) (sLen + n) (sLen + n), s.new (.cells (old ++ new) elem true))
  | some ⟨_, _, none⟩ => some (.slice (some ⟨s.n, 0, some 0⟩) (sLen + n) (sLen + n), s.new (.cells (old ++ new) elem true))
  | some ⟨A, 0, some 0⟩ =>
    match s.at A with
    | some (.cells c t _) =>
      if ro ≤ A ∧ t = elem ∧ c.length = sCap * size ∧ old.length = sLen * size ∧ new.length = n * size ∧ new.all (·.oneCell') = true then
        some (.slice (some ⟨s.n, 0, some 0⟩) (sLen + n) (sLen + n), (s.put A .dead).new (.cells (old ++ new) elem true))
      else none
    | _ => none
  | _ => none
def aappendTo (ro : Nat) (s : St) (elem : TypeId) (i : TypeInfo) (base : Option Addr) (sLen sCap n : Nat) (new : List Value) : Option (Value × St) :=
  if sLen + n ≤ sCap then
    match base with
    | none => some (.slice none (sLen + n) sCap, s)
    | some ⟨A, o, m⟩ => (awrite ro s A (o + sLen * i.size) new).map fun s' => (.slice (some ⟨A, o, m⟩) (sLen + n) sCap, s')
  else if (2 * (sLen + n) + 1000) * i.bytes > 2 ^ 47 ∨ i.size = 0 ∨ i.bytes = 0 then none
  else
    match i.zero, afirst s i.size sLen (.slice base sLen sCap) with
    | some z, some old => if z.cells.size = i.size ∧ flat z = true then agrow ro s elem i.size sLen n sCap base old new else none
    | _, _ => none
def zeroList (z : Array Value) (n : Nat) : List Value := (List.range n).map fun i => z.toList.getD (i % z.toList.length) default
def zeroNew (i : TypeInfo) (n : Nat) : Option (List Value) :=
  match n * i.size with
  | 0 => some []
  | _ + 1 => match i.zero with
    | some z => bif flat z then some (zeroList z.cells (n * z.cells.size)) else none
    | none => none
def aappend0 (ro : Nat) (s : St) (elem : TypeId) (i : TypeInfo) (base : Option Addr) (sLen sCap : Nat) (m : Int) : Option (Value × St) :=
  if 0 ≤ IntKind.i64.wrap m ∧ IntKind.i64.wrap m * i.bytes ≤ 2 ^ 47 ∧ (sLen + (IntKind.i64.wrap m).toNat : Int) ≤ 2 ^ 62 then
    (zeroNew i (IntKind.i64.wrap m).toNat).bind fun new => aappendTo ro s elem i base sLen sCap (IntKind.i64.wrap m).toNat new
  else none
def aappend (P : Program) (ro : Nat) (s : St) (argTypes : Array TypeId) (args : List Value) : Option (Value × St) :=
  match argTypes.toList, args with
  | [sT, xT], [.slice base sLen sCap, x] =>
    match sliceElem P sT, notInt P xT with
    | some elem, true =>
      match P.info? elem, alen x with
      | some i, some n => (afirst s i.size n x).bind fun new => aappendTo ro s elem i base sLen sCap n new
      | _, _ => none
    | some elem, false =>
      match P.info? elem, P.underlying xT, x with
      | some i, some (.int _), .int _ m => aappend0 ro s elem i base sLen sCap m
      | _, _, _ => none
    | _, _ => none
  | _, _ => none
def acopy (P : Program) (ro : Nat) (s : St) (argTypes : Array TypeId) (args : List Value) : Option (Value × St) :=
  match argTypes.toList, args with
  | dT :: _, [.slice base dLen _, src] =>
    match sliceElem P dT with
    | some elem =>
      match isz P elem, alen src with
      | some sz, some m =>
        (afirst s sz (min m dLen) src).bind fun cs =>
          match base with
          | none => some (goInt (min m dLen : Nat), s)
          | some ⟨A, o, _⟩ => (awrite ro s A o cs).map fun s' => (goInt (min m dLen : Nat), s')
      | _, _ => none
    | none => none
  | _, _ => none
def aclearIn (P : Program) (ro : Nat) (s : St) (elem : TypeId) : Value → Option (Value × St)
  | .slice none _ _ => some (.tuple #[], s)
  | .slice (some _) 0 _ => some (.tuple #[], s)
  | .slice (some ⟨A, o, _⟩) (n + 1) _ =>
    match P.info? elem with
    | some i =>
      match i.zero with
      | some z => bif flat z then (awrite ro s A o (zeroList z.cells ((n + 1) * z.cells.size))).map fun s' => (.tuple #[], s') else none
      | none => none
    | none => none
  | _ => none
def aclear (P : Program) (ro : Nat) (s : St) (argTypes : Array TypeId) (args : List Value) : Option (Value × St) :=
  match argTypes.toList, args with
  | [ty], [x] => (sliceElem P ty).bind fun elem => aclearIn P ro s elem x
  | _, _ => none
def abound (v : Option Value) (dflt y : Nat) : Option Nat :=
  match v with
  | none => some dflt
  | some (.int _ i) => if 0 ≤ i ∧ i ≤ y then some i.toNat else none
  | some _ => none
def sliceArr (A o n sz : Nat) (lo hi : Option Value) : Option Value :=
  (abound hi n n).bind fun h => (abound lo 0 h).bind fun l => some (.slice (some (if n = l then ⟨A, o, none⟩ else ⟨A, o + l * sz, none⟩)) (h - l) (n - l))
def sliceTwo (A o len cap sz : Nat) (mk : Option Nat) (lo hi : Option Value) : Option Value :=
  (abound hi len cap).bind fun h => (abound lo 0 h).bind fun l =>
    match mk with
    | none => some (.slice (some (if cap = l then ⟨A, o, none⟩ else ⟨A, o + l * sz, none⟩)) (h - l) (cap - l))
    | some 0 => if l < cap then some (.slice (some ⟨A, o + l * sz, some 0⟩) (h - l) (cap - l)) else if h = l ∧ cap = l then some (.slice (some ⟨A, o, some 1⟩) 0 0) else none
    | some _ => none
def sliceThree (A o cap sz : Nat) (mk : Option Nat) (lo hi mv : Option Value) : Option Value :=
  match mk with
  | some 1 => none
  | _ => (abound mv 0 cap).bind fun m => (abound hi 0 m).bind fun h => (abound lo 0 h).bind fun l =>
      some (.slice (some (if m = l then ⟨A, o, none⟩ else ⟨A, o + l * sz, none⟩)) (h - l) (m - l))
def asliceOp (P : Program) (t : TypeId) (x : Value) (lo hi mx : Option Value) : Option Value :=
  match P.underlying t with
  | some (.array n elem) =>
    match x, isz P elem, mx with
    | .pointer (some ⟨A, o, none⟩), some sz, none => sliceArr A o n sz lo hi
    | _, _, _ => none
  | some (.slice elem) =>
    match x, isz P elem with
    | .slice (some ⟨A, o, mk⟩) len cap, some sz =>
      match mx, hi with
      | none, _ => sliceTwo A o len cap sz mk lo hi
      | some mv, some hv => sliceThree A o cap sz mk lo (some hv) (some mv)
      | _, _ => none
    | _, _ => none
  | _ => none
def aplace (A o sz len : Nat) (i : Int) : Option Value :=
  if 0 ≤ i ∧ i < len then some (.pointer (some ⟨A, o + i.toNat * sz, none⟩)) else none
def aindexAddr (P : Program) (t : TypeId) (x ix : Value) : Option Value :=
  match P.underlying t, x, ix with
  | some (.array len elem), .pointer (some ⟨A, o, none⟩), .int _ i => (isz P elem).bind fun sz => aplace A o sz len i
  | some (.slice elem), .slice (some ⟨A, o, _⟩) len _, .int _ i => (isz P elem).bind fun sz => aplace A o sz len i
  | _, _, _ => none
def aarrptr (P : Program) (t : TypeId) (x : Value) : Option Value :=
  match P.underlying t, x with
  | some (.array (k + 1) _), .slice (some ⟨A, o, _⟩) n _ => if k + 1 ≤ n then some (.pointer (some ⟨A, o, none⟩)) else none
  | _, _ => none
def afield (P : Program) (t : TypeId) (x : Value) (f : Nat) : Option Value :=
  match P.underlying t, x with
  | some (.struct fs), .agg cs => (fs.toList[f]?).bind fun fd => apart P fd.type cs.toList fd.offset
  | _, _ => none
def afieldAddr (P : Program) (t : TypeId) (x : Value) (f : Nat) : Option Value :=
  match P.underlying t, x with
  | some (.struct fs), .pointer (some ⟨A, o, none⟩) =>
    (fs.toList[f]?).bind fun fd => match isz P fd.type with
      | some (_ + 1) => some (.pointer (some ⟨A, o + fd.offset, none⟩))
      | _ => none
  | _, _ => none
def aindex (P : Program) (t : TypeId) (x ix : Value) : Option Value :=
  match P.underlying t, x, ix with
  | some (.array len elem), .agg cs, .int _ i =>
    (isz P elem).bind fun sz => if 0 ≤ i ∧ i < len then apart P elem cs.toList (i.toNat * sz) else none
  | _, _, _ => none
def amakeSlice (P : Program) (s : St) (t : TypeId) (l c : Value) : Option (Value × St) :=
  match sliceElem P t, l, c with
  | some elem, .int _ l, .int _ c =>
    match P.info? elem with
    | some i =>
      match i.zero with
      | some z =>
        if flat z = true ∧ 0 ≤ l ∧ l ≤ c ∧ i.bytes * c ≤ 2 ^ 47 ∧ c ≤ 2 ^ 47 ∧ z.cells.size = i.size then
          some (.slice (some ⟨s.n, 0, none⟩) l.toNat c.toNat, s.new (.cells (zeroList z.cells (c.toNat * i.size)) elem false))
        else none
      | none => none
    | none => none
  | _, _, _ => none
def afillBy (place : Nat → Option (Nat × Nat)) (cells : List Value) : List (Nat × Value) → Option (List Value)
  | [] => some cells
  | (i, v) :: rest =>
    match place i with
    | some (off, sz) => bif Nat.beq v.cells.size sz && Nat.ble (off + sz) cells.length then afillBy place (splice cells off v.cells.toList) rest else none
    | none => none
def abuildSlice (P : Program) (s : St) (t : TypeId) (len : Nat) (parts : List (Nat × Value)) : Option (Value × St) :=
  match sliceElem P t with
  | some elem =>
    match P.info? elem with
    | some i =>
      match i.zero with
      | some z =>
        if flat z = true ∧ len * i.size ≤ 2 ^ 24 ∧ z.cells.size = i.size then
          (afillBy (fun j => some (j * i.size, i.size)) (zeroList z.cells (len * i.size)) parts).map fun cs => (.slice (some ⟨s.n, 0, none⟩) len len, s.new (.cells cs elem false))
        else none
      | none => none
    | none => none
  | none => none
def placeOf (P : Program) (d : TypeDesc) : Option (Nat → Option (Nat × Nat)) :=
  match d with
  | .struct fs => some fun j => (fs.toList[j]?).bind fun f => (isz P f.type).map fun sz => (f.offset, sz)
  | .array _ e => (isz P e).map fun sz j => some (j * sz, sz)
  | _ => none
def structSized (P : Program) : TypeDesc → Bool
  | .struct fs => fs.toList.all fun f => (isz P f.type).isSome
  | _ => true
def abuild (P : Program) (t : TypeId) (parts : List (Nat × Value)) : Option Value :=
  match P.info? t, P.underlying t with
  | some i, some d =>
    match i.zero, placeOf P d with
    | some z, some pl => if flat z = true ∧ structSized P d = true then (afillBy pl z.cells.toList parts).map fun cs => Value.agg cs.toArray else none
    | _, _ => none
  | _, _ => none
def aEqNil (d : Option TypeDesc) (x y : Value) : Option Bool :=
  match d, x, y with
  | some (.slice _), .slice (some _) _ _, .slice none _ _ => some false
  | some (.slice _), .slice none _ _, .slice (some _) _ _ => some false
  | some (.pointer _), .pointer (some _), .pointer none => some false
  | some (.pointer _), .pointer none, .pointer (some _) => some false
  | some (.func _ _ _), .func _ _ _, .nilFunc => some false
  | some (.func _ _ _), .nilFunc, .func _ _ _ => some false
  | _, _, _ => none
def scal : Value → Bool
  | .bool _ => true
  | .int _ _ => true
  | .string _ => true
  | _ => false
def flat' (v : Value) : Bool := scal v || flat v
def purely (v : Value) : Option AR := bif flat' v then some (.val v) else none
def apure (P : Program) (t : Tr) (o : Oper) : Option AR :=
  match runPure P (execOp (aval t) o) with
  | some (.value v) => purely v
  | _ => none
def keq : IntKind → IntKind → Bool
  | .i64, .i64 => true
  | .u64, .u64 => true
  | .u8, .u8 => true
  | .i32, .i32 => true
  | .u32, .u32 => true
  | _, _ => false
def abinInt (P : Program) (op : BinOp) (k : IntKind) (a : Int) (k' : IntKind) (b : Int) : Option Value :=
  match op with
  | .add => bif keq k k' then some (.int k (k.wrap (a + b))) else none
  | .sub => bif keq k k' then some (.int k (k.wrap (a - b))) else none
  | .mul => bif keq k k' then some (.int k (k.wrap (a * b))) else none
  | .eql => bif keq k k' then some (.bool (a == b)) else none
  | .neq => bif keq k k' then some (.bool (a != b)) else none
  | .lss => bif keq k k' then some (.bool (a < b)) else none
  | .leq => bif keq k k' then some (.bool (a ≤ b)) else none
  | .gtr => bif keq k k' then some (.bool (a > b)) else none
  | .geq => bif keq k k' then some (.bool (a ≥ b)) else none
  | .quo => bif keq k k' then runPure P (Op.intDiv .quo k a b) else none
  | .rem => bif keq k k' then runPure P (Op.intDiv .rem k a b) else none
  | .shl => runPure P (Op.shift .shl k a k' b)
  | .shr => runPure P (Op.shift .shr k a k' b)
  | .and => bif keq k k' then runPure P (Op.intBits .and k a b) else none
  | .or => bif keq k k' then runPure P (Op.intBits .or k a b) else none
  | .xor => bif keq k k' then runPure P (Op.intBits .xor k a b) else none
  | .andNot => bif keq k k' then runPure P (Op.intBits .andNot k a b) else none
def withSt (s : St) : Option Value → Option (AR × St)
  | some v => some (.val v, s)
  | none => none
def valSt : Option (Value × St) → Option (AR × St)
  | some (v, s) => some (.val v, s)
  | none => none
def resSt (s : St) : Option AR → Option (AR × St)
  | some r => some (r, s)
  | none => none
def skipSt : Option St → Option (AR × St)
  | some s => some (.skip, s)
  | none => none
def aeqNil (P : Program) (op : BinOp) (ty : TypeId) (x y : Value) : Option Value :=
  match op, aEqNil (P.underlying ty) x y with
  | .eql, some b => some (.bool b)
  | .neq, some b => some (.bool !b)
  | _, _ => none
def abin (P : Program) (t : Tr) (o : Oper) (s : St) (op : BinOp) (ty : TypeId) (x y : Value) : Option (AR × St) :=
  match x, y with
  | .int k a, .int k' b => withSt s (abinInt P op k a k' b)
  | x, y => bif flat' x && flat' y then resSt s (apure P t o) else withSt s (aeqNil P op ty x y)
def apick (s : St) (c a b : Value) : Option (AR × St) :=
  match c with
  | .bool true => some (.val a, s)
  | .bool false => some (.val b, s)
  | _ => none
def aalloc (P : Program) (s : St) (e : TypeId) : Option (AR × St) :=
  match P.info? e with
  | some i =>
    match i.zero with
    | some z => bif flat z then some (.val (.pointer (some ⟨s.n, 0, none⟩)), s.new (.cells z.cells.toList e false)) else none
    | none => none
  | none => none
def anilCheck (s : St) (x : Value) : Option (AR × St) :=
  match x with
  | .pointer (some a) => some (.val (.pointer (some a)), s)
  | .func (.func f) a b => some (.val (.func (.func f) a b), s)
  | _ => none
def aun (P : Program) (t : Tr) (o : Oper) (s : St) (x : Value) : Option (AR × St) := bif flat' x then resSt s (apure P t o) else none
def u8s : List Value → Option (List Int)
  | [] => some []
  | .int .u8 n :: r => (u8s r).map (n :: ·)
  | _ => none
def isU8 (P : Program) (t : TypeId) : Bool :=
  match P.underlying t with
  | some (.int .u8) => true
  | _ => false
def strOf (ns : List Int) : Value := .string (ns.foldl (fun r n => r.push (UInt8.ofNat n.toNat)) ByteArray.empty)
def astr (s : St) (n : Nat) (x : Value) : Option Value := (afirst s 1 n x).bind fun c => (u8s c).map strOf
def bytesOf (b : ByteArray) : List Value := b.data.toList.map fun b => Value.int .u8 b.toNat
def newBytes (P : Program) (s : St) (e : TypeId) (b : ByteArray) : Option (AR × St) :=
  match isU8 P e, isz P e with
  | true, some 1 => some (.val (.slice (some ⟨s.n, 0, some 0⟩) b.size b.size), s.new (.cells (bytesOf b) e true))
  | _, _ => none
def aconv (P : Program) (t : Tr) (o : Oper) (s : St) (src dst : TypeId) (x : Value) : Option (AR × St) :=
  match x with
  | .slice (some a) n c =>
    (match P.underlying src, P.underlying dst with
    | some (.slice e), some .string => bif isU8 P e then withSt s (astr s n (.slice (some a) n c)) else none
    | _, _ => none)
  | .string b =>
    (match P.underlying src, P.underlying dst with
    | some .string, some (.slice e) => newBytes P s e b
    | _, _ => aun P t o s (.string b))
  | x => aun P t o s x
def keyOk : TypeDesc → Value → Bool
  | .int _, .int _ _ => true
  | .string, .string _ => true
  | .bool, .bool _ => true
  | _, _ => false
def mapTypes (P : Program) (t : TypeId) : Option (TypeDesc × TypeId × TypeId) :=
  match P.underlying t with
  | some (.map kt et) => (match P.underlying kt with
    | some kd => some (kd, kt, et)
    | none => none)
  | _ => none
def amakeMap (P : Program) (s : St) (ty : TypeId) (rs : Option Operand) : Option (AR × St) :=
  match mapTypes P ty, rs with
  | some _, none => some (.val (.map (some s.n)), s.new (.map [] 0))
  | _, _ => none
def setEnt : List MapEntry → Nat → Value → Value → List MapEntry
  | [], _, _, _ => []
  | e :: r, 0, k, v => { e with key := k, val := v } :: r
  | e :: r, i + 1, k, v => e :: setEnt r i k v
def amapPut2 (s : St) (A : Nat) (es : List MapEntry) (clock : Nat) (k v : Value) : Option (Option (Nat × Value)) → Option St
  | some (some (i, _)) => some (s.put A (.map (setEnt es i k v) clock))
  | some none => some (s.put A (.map (es ++ [{ key := k, val := v, born := clock }]) (clock + 1)))
  | none => none
def amapPut1 (ro : Nat) (s : St) (A : Nat) (kd : TypeDesc) (k v : Value) : Option AO → Option St
  | some (.map es clock) => bif Nat.ble ro A && keyOk kd k then amapPut2 s A es clock k v (Instr.findNow kd k es 0) else none
  | _ => none
def amapPut (P : Program) (ro : Nat) (s : St) (ty : TypeId) (m k v : Value) : Option St :=
  match mapTypes P ty, m with
  | some (kd, _, _), .map (some A) => amapPut1 ro s A kd k v (s.at A)
  | _, _ => none
def ament (s : St) : Value → Option (List MapEntry)
  | .map none => some []
  | .map (some A) => (match s.at A with
    | some (.map es _) => some es
    | _ => none)
  | _ => none
def found (ok : Bool) (z : Value) : Option (Nat × Value) → Value
  | some (_, v) => bif ok then .tuple #[v, .bool true] else v
  | none => bif ok then .tuple #[z, .bool false] else z
def alookup (P : Program) (s : St) (ty : TypeId) (m k : Value) (ok : Bool) : Option Value :=
  match mapTypes P ty with
  | some (kd, _, et) =>
    (P.info? et).bind fun i => i.zero.bind fun z => (ament s m).bind fun es =>
      bif VE.flat z && keyOk kd k then (Instr.findNow kd k es 0).map (found ok z) else none
  | none => none
def arangeMap (P : Program) (s : St) (ty : TypeId) (m : Value) : Option (AR × St) :=
  match mapTypes P ty, m with
  | some _, .map (some A) => (match s.at A with
    | some (.map _ clock) => some (.val (.pointer (some ⟨s.n, 0, none⟩)), s.new (.iter A clock [] clock))
    | _ => none)
  | _, _ => none
def aentry2 (st last : Nat) : Option AO → Option Value
  | some (.map es clock) => bif Nat.beq clock last then (es.find? fun e => e.born == st).map fun e => .tuple #[e.key, e.val] else none
  | _ => none
def aentry1 (s : St) : Option AO → Option Value
  | some (.iter m _ seen last) => (seen.getLast?).bind fun st => aentry2 st last (s.at m)
  | _ => none
def aentry (ro : Nat) (s : St) : Value → Option Value
  | .pointer (some ⟨I, 0, none⟩) => bif Nat.ble ro I then aentry1 s (s.at I) else none
  | _ => none
def anot (P : Program) (t : Tr) (o : Oper) (s : St) (op : UnOp) (x : Value) : Option (AR × St) :=
  match op, x with
  | .not, .bool b => some (.val (.bool !b), s)
  | _, x => aun P t o s x
def flatO (t : Tr) (x : Option Operand) : Bool := x.all fun y => flat' (aval t y)
def asl (P : Program) (t : Tr) (o : Oper) (s : St) (ty : TypeId) (x : Value) (lo hi mx : Option Operand) : Option (AR × St) :=
  bif flat' x then (bif flatO t lo && (flatO t hi && flatO t mx) then resSt s (apure P t o) else none)
  else withSt s (asliceOp P ty x (lo.map (aval t)) (hi.map (aval t)) (mx.map (aval t)))
def aix (P : Program) (t : Tr) (o : Oper) (s : St) (ty : TypeId) (x ix : Value) : Option (AR × St) :=
  match x with
  | .agg cs => withSt s (aindex P ty (.agg cs) ix)
  | x => bif flat' x && flat' ix then resSt s (apure P t o) else none
def aextract (s : St) (x : Value) (i : Nat) : Option (AR × St) :=
  match x with
  | .tuple vs => withSt s (vs.toList[i]?)
  | _ => none
def setAll (t : Tr) : List Tmp → List Value → Tr
  | p :: ps, v :: vs => setAll (t.set p v) ps vs
  | _, _ => t
def ayield (s : St) (l : Nat) (args : List Value) : Option AO → Option (AR × St)
  | some (.loop r) => bif Nat.beq args.length r.params.length then some (.round l (setAll r.t r.params args) r.assign r.body, s) else none
  | _ => none
def acallee (f : Value) (args : List Value) (s : St) : Option (AR × St) :=
  match f with
  | .func (.func k) first cap => some (.enter k (first.toList ++ (args ++ cap.toList)), s)
  | .func (.yield l) (.mk []) (.mk []) => ayield s l args (s.at l)
  | _ => none
def avals (t : Tr) : List Operand → List Value
  | [] => []
  | x :: r => aval t x :: avals t r
def alenOp (P : Program) (t : Tr) (o : Oper) (s : St) (tys : List TypeId) (args : List Value) : Option (AR × St) :=
  match tys, args with
  | ty :: _, [.slice a n c] =>
    match sliceElem P ty with
    | some _ => some (.val (goInt n), s)
    | none => bif flat (.slice a n c) then resSt s (apure P t o) else none
  | _, l => bif flatL l then resSt s (apure P t o) else none
def capKnown : Option Addr → Bool
  | none => true
  | some ⟨_, _, none⟩ => true
  | _ => false
def acapOp (P : Program) (s : St) (tys : List TypeId) (args : List Value) : Option (AR × St) :=
  match tys, args with
  | ty :: _, [.slice a _ n] =>
    match sliceElem P ty with
    | some _ => bif capKnown a then some (.val (goInt n), s) else none
    | none => none
  | _, _ => none
def abuiltin (P : Program) (ro : Nat) (t : Tr) (o : Oper) (s : St) (c : Call) (b : Builtin) : Option (AR × St) :=
  match b with
  | .append => valSt (aappend P ro s c.argTypes (avals t c.args.toList))
  | .copy => valSt (acopy P ro s c.argTypes (avals t c.args.toList))
  | .clear => valSt (aclear P ro s c.argTypes (avals t c.args.toList))
  | .len => alenOp P t o s c.argTypes.toList (avals t c.args.toList)
  | .cap => acapOp P s c.argTypes.toList (avals t c.args.toList)
  | .min => bif flatL (avals t c.args.toList) then resSt s (apure P t o) else none
  | .max => bif flatL (avals t c.args.toList) then resSt s (apure P t o) else none
  | _ => none
def acallOp (P : Program) (ro : Nat) (t : Tr) (o : Oper) (s : St) (c : Call) : Option (AR × St) :=
  match c.callee with
  | .builtin b => abuiltin P ro t o s c b
  | .value f => acallee (aval t f) (avals t c.args.toList) s
  | .invoke _ _ => none
def adeferOp (t : Tr) (s : St) (c : Call) : Option (AR × St) :=
  match c.callee with
  | .value f =>
    match aval t f with
    | .func (.func k) first cap => some (.dfr { target := .fn (.func k) cap, args := first ++ c.args.map (aval t) }, s)
    | _ => none
  | _ => none
def amk (t : Tr) (s : St) (fn : Fn) (a c : Array Operand) : Option (AR × St) :=
  bif fnOk fn then some (.val (.func fn (.mk (avals t a.toList)) (.mk (avals t c.toList))), s) else none
def partVals (t : Tr) : List (Nat × Operand) → List (Nat × Value)
  | [] => []
  | (i, x) :: r => (i, aval t x) :: partVals t r
def aop (P : Program) (ro : Nat) (t : Tr) (o : Oper) (s : St) : Option (AR × St) :=
  match o.op with
  | .move x => some (.val (aval t x), s)
  | .assign x => some (.val (aval t x), s)
  | .pick c a b => apick s (aval t c) (aval t a) (aval t b)
  | .alloc e => aalloc P s e
  | .box e x => some (.val (.pointer (some ⟨s.n, 0, none⟩)), s.new (.cells (aval t x).cells.toList e false))
  | .build ty parts => withSt s (abuild P ty (partVals t parts.toList))
  | .buildSlice ty len parts => valSt (abuildSlice P s ty len (partVals t parts.toList))
  | .load ty a => withSt s (aload P s ty (aval t a))
  | .store ty a x => skipSt (astore P ro s ty (aval t a) (aval t x))
  | .nilCheck x => anilCheck s (aval t x)
  | .binOp op ty x y _ => abin P t o s op ty (aval t x) (aval t y)
  | .unOp op _ x => anot P t o s op (aval t x)
  | .convert src dst x => aconv P t o s src dst (aval t x)
  | .makeFunc fn a c => amk t s fn a c
  | .makeSlice ty l c => valSt (amakeSlice P s ty (aval t l) (aval t c))
  | .slice ty x lo hi mx => asl P t o s ty (aval t x) lo hi mx
  | .fieldAddr ty x f => withSt s (afieldAddr P ty (aval t x) f)
  | .field ty x f => withSt s (afield P ty (aval t x) f)
  | .indexAddr ty x ix => withSt s (aindexAddr P ty (aval t x) (aval t ix))
  | .sliceToArrayPointer ty x => withSt s (aarrptr P ty (aval t x))
  | .index ty x ix => aix P t o s ty (aval t x) (aval t ix)
  | .makeMap ty rs => amakeMap P s ty rs
  | .insert ty m k v => skipSt (amapPut P ro s ty (aval t m) (aval t k) (aval t v))
  | .mapUpdate ty m k v => skipSt (amapPut P ro s ty (aval t m) (aval t k) (aval t v))
  | .lookup ty x i ok => withSt s (alookup P s ty (aval t x) (aval t i) ok)
  | .range ty x => arangeMap P s ty (aval t x)
  | .entry it => withSt s (aentry ro s (aval t it))
  | .extract x i => aextract s (aval t x) i
  | .call c => acallOp P ro t o s c
  | .defer c => adeferOp t s c
  | _ => none
def okX (P : Program) : Operand → Bool
  | .const v => flat' v
  | .global g => Nat.blt g P.globals.size
  | _ => true
def okOp (P : Program) : Op → Bool
  | .move x => okX P x
  | .assign x => okX P x
  | .pick c a b => okX P c && (okX P a && okX P b)
  | .box _ x => okX P x
  | .build _ ps => ps.toList.all fun p => okX P p.2
  | .buildSlice _ _ ps => ps.toList.all fun p => okX P p.2
  | .load _ a => okX P a
  | .store _ a x => okX P a && okX P x
  | .nilCheck x => okX P x
  | .binOp _ _ x y _ => okX P x && okX P y
  | .unOp _ _ x => okX P x
  | .convert _ _ x => okX P x
  | .makeFunc _ a c => a.toList.all (okX P) && c.toList.all (okX P)
  | .makeSlice _ l c => okX P l && okX P c
  | .slice _ x lo hi mx => okX P x && (lo.all (okX P) && (hi.all (okX P) && mx.all (okX P)))
  | .fieldAddr _ x _ => okX P x
  | .field _ x _ => okX P x
  | .indexAddr _ x i => okX P x && okX P i
  | .sliceToArrayPointer _ x => okX P x
  | .index _ x i => okX P x && okX P i
  | .extract x _ => okX P x
  | .insert _ m k v => okX P m && (okX P k && okX P v)
  | .mapUpdate _ m k v => okX P m && (okX P k && okX P v)
  | .lookup _ x i _ => okX P x && okX P i
  | .range _ x => okX P x
  | .entry x => okX P x
  | .next x _ => okX P x
  | .call c => c.args.toList.all (okX P) && (match c.callee with | .value f => okX P f | _ => true)
  | .defer c => c.args.toList.all (okX P) && (match c.callee with | .value f => okX P f | _ => true)
  | _ => true
def okOper (P : Program) (o : Oper) : Bool := okOp P o.op
inductive OK where
  | pure | load | fresh | act
def okind : Op → OK
  | .move _ => .pure | .assign _ => .pure | .pick _ _ _ => .pure | .build _ _ => .pure | .nilCheck _ => .pure | .binOp _ _ _ _ _ => .pure | .unOp _ _ _ => .pure
  | .convert _ _ _ => .load | .makeFunc _ _ _ => .pure | .slice _ _ _ _ _ => .pure | .fieldAddr _ _ _ => .pure | .field _ _ _ => .pure | .indexAddr _ _ _ => .pure
  | .index _ _ _ => .pure | .extract _ _ => .pure | .sliceToArrayPointer _ _ => .pure
  | .call c => (match c.callee with
    | .builtin .len => .pure
    | .builtin .cap => .pure
    | .builtin .min => .pure
    | .builtin .max => .pure
    | _ => .act)
  | .load _ _ => .load
  | .lookup _ _ _ _ => .load
  | .alloc _ => .fresh
  | .box _ _ => .fresh
  | .buildSlice _ _ _ => .fresh
  | .makeSlice _ _ _ => .fresh
  | _ => .act
def kindOf (o : Oper) : OK :=
  match okind o.op with
  | .fresh => bif o.guard.isNone then .fresh else .act
  | k => k
def isAct (o : Oper) : Bool := match kindOf o with | .act => true | _ => false
def isLoad (o : Oper) : Bool := match kindOf o with | .load => true | _ => false
def isFresh (o : Oper) : Bool := match kindOf o with | .fresh => true | _ => false
def isDefer : Op → Bool
  | .defer _ => true
  | _ => false
def nthN : List Nat → Nat → Nat
  | [], _ => 0
  | x :: r, i => match i with
    | 0 => x
    | j + 1 => nthN r j
def maskOf (ms : List Nat) : List Edge → Nat
  | [] => 0
  | e :: r => bif Region.binds .any e then (nthN ms e.on ||| (1 <<< e.on)) ||| maskOf ms r else maskOf ms r
def masksGo : List Oper → List Nat → List Nat
  | [], ms => ms
  | o :: r, ms => masksGo r (ms ++ [maskOf ms o.after.toList])
def masks (l : List Oper) : List Nat := masksGo l []
def edgesOk (j : Nat) (es : List Edge) : Bool := es.all fun e => !Region.binds .any e || Nat.blt e.on j
def names (all : List Oper) (o : Oper) : List Tmp :=
  (match o.guard with
    | some (g, _) => (match all[g]? with | some q => q.dst.toList | none => [])
    | none => []) ++ (o.op.operands.toList.filterMap fun | .tmp t => some t | _ => none)
def writersIn (ms : List Nat) (j t : Nat) : List Oper → Nat → Bool
  | [], _ => true
  | o :: r, i => (match o.dst with
    | some d => bif Nat.beq d t then (nthN ms j).testBit i || (Nat.beq i j || (nthN ms i).testBit j) else true
    | none => true) && writersIn ms j t r (i + 1)
def operOk (all : List Oper) (ms : List Nat) (j : Nat) (o : Oper) : Bool := edgesOk j o.after.toList && (!isDefer o.op && (names all o).all fun t => writersIn ms j t all 0)
def opersOk (all : List Oper) (ms : List Nat) : List Oper → Nat → Bool
  | [], _ => true
  | o :: r, j => operOk all ms j o && opersOk all ms r (j + 1)
def dstNe (o q : Oper) : Bool :=
  match o.dst, q.dst with
  | some d, some e => !Nat.beq d e
  | _, _ => true
def dstApart : List Oper → Bool
  | [] => true
  | o :: r => r.all (dstNe o) && dstApart r
def prevIn (m : Nat) : Option Nat → Bool
  | some p => m.testBit p
  | none => true
def subset (a b : Nat) : Bool := Nat.beq (a &&& b) a
def sched1 (ms : List Nat) : List (Nat × Oper) → Nat → List (Nat × Oper) × Nat × List (Nat × Oper)
  | [], d => ([], d, [])
  | (i, o) :: r, d =>
    bif !isAct o && subset (nthN ms i) d then
      match sched1 ms r (d ||| (1 <<< i)) with
      | (p, d', q) => ((i, o) :: p, d', q)
    else
      match sched1 ms r d with
      | (p, d', q) => (p, d', (i, o) :: q)
def takeAct (ms : List Nat) (d : Nat) : List (Nat × Oper) → Option ((Nat × Oper) × List (Nat × Oper))
  | [] => none
  | x :: r =>
    bif isAct x.2 && subset (nthN ms x.1) d then some (x, r)
    else match takeAct ms d r with
      | some (y, q) => some (y, x :: q)
      | none => none
def sched (ms : List Nat) : Nat → List (Nat × Oper) → Nat → List (Nat × Oper)
  | 0, _, _ => []
  | f + 1, rest, d =>
    match sched1 ms rest d with
    | (p, d', q) => p ++ (match takeAct ms d' q with
      | some (x, q') => x :: sched ms f q' (d' ||| (1 <<< x.1))
      | none => [])
def indexed : List Oper → Nat → List (Nat × Oper)
  | [], _ => []
  | o :: r, i => (i, o) :: indexed r (i + 1)
def orderOf (l : List Oper) : List (Nat × Oper) := sched (masks l) (l.length + 1) (indexed l 0) 0
def orderOk (ms : List Nat) (n : Nat) : List (Nat × Oper) → Nat → Bool
  | [], d => Nat.beq d (2 ^ n - 1)
  | (i, _) :: r, d => subset (nthN ms i) d && (!d.testBit i && orderOk ms n r (d ||| (1 <<< i)))
def actsOk (ms : List Nat) : List (Nat × Oper) → Option Nat → Bool
  | [], _ => true
  | (j, o) :: r, prev => bif isAct o then prevIn (nthN ms j) prev && actsOk ms r (some j) else actsOk ms r prev
def drawOkL (l : List Oper) (ms : List Nat) (ord : List (Nat × Oper)) : Bool := opersOk l ms l 0 && (dstApart l && (orderOk ms l.length ord 0 && actsOk ms ord none))
def drawOk (ops : Array Oper) : Bool := drawOkL ops.toList (masks ops.toList) (orderOf ops.toList)
def okCode (P : Program) : Code → Bool
  | .region _ ops draw => ops.toList.all (okOper P) && (!draw || drawOk ops)
  | .seq a b => okCode P a && okCode P b
  | .cond x a b => okX P x && (okCode P a && okCode P b)
  | .block _ a => okCode P a
  | .loop a => okCode P a
  | .scope a => okCode P a
  | .rangeFunc f _ a b => okX P f && (okCode P a && okCode P b)
  | _ => true
def okFunc (P : Program) (fn : Func) : Bool := (fn.body.all (okCode P)) && !(fn.name == "runtime.NumGoroutine")
abbrev Ev := Code → Fr → St → Option (Ex × Fr × St)
def aresult (P : Program) (t : Tr) (s : St) : ResultVar → Option Value
  | .tmp i => some (t.get i)
  | .cell a ty => aload P s ty (t.get a)
def aresultL (P : Program) (t : Tr) (s : St) : List ResultVar → Option (List Value)
  | [] => some []
  | r :: rs => match aresult P t s r with
    | some v => (aresultL P t s rs).map (v :: ·)
    | none => none
def tupled : List Value → Value
  | [v] => v
  | vs => .tuple vs.toArray
def aresults (P : Program) (fn : Func) (t : Tr) (s : St) : Option Value := (aresultL P t s fn.results.toList).map tupled
def afinish (s0 : St) (v : Value) (s : St) : Value × St :=
  bif Nat.ble s0.n s.lo && flat' v then (v, s0) else (v, { s with lo := min s0.lo s.lo })
def tree (n : Nat) (args : List Value) : Tr := (Tr.mk n n).fill args 0
def leaves (fn : Func) : Option (Ex × Fr × St) → Option (Func × Fr × St)
  | some (.normal, fr, s) => some (fn, fr, s)
  | some (.ret, fr, s) => some (fn, fr, s)
  | _ => none
def abody (P : Program) (E : Ev) (f : FuncId) (args : List Value) (s : St) : Option (Func × Fr × St) :=
  match P.funcs[f]? with
  | some fn =>
    bif okFunc P fn then
    match fn.body with
    | some c => leaves fn (E c { t := tree (max fn.ntmps args.length) args, ds := [], rnd := none } s)
    | none => none
    else none
  | none => none
def adefer1 (P : Program) : Option (Func × Fr × St) → Option St
  | some (fn, fr, s) =>
    match fr.ds, aresults P fn fr.t s with
    | [], some _ => some s
    | _, _ => none
  | none => none
def acollect (ro : Nat) (s : St) (r : Nat) : Option AO → Option St
  | some (.defd (some [])) => bif Nat.ble ro r then some (s.put r (.defd none)) else none
  | _ => none
def adefers (P : Program) (ro : Nat) (E : Ev) : List Deferred → St → Option St
  | [], s => some s
  | d :: ds, s =>
    match d.target with
    | .fn (.func k) cap =>
      match adefer1 P (abody P E k (d.args.toList ++ cap.toList) s) with
      | some s' => adefers P ro E ds s'
      | none => none
    | .collected r =>
      match acollect ro s r (s.at r) with
      | some s' => adefers P ro E ds s'
      | none => none
    | _ => none
def acall1 (P : Program) (ro : Nat) (E : Ev) (s0 : St) : Option (Func × Fr × St) → Option (Value × St)
  | some (fn, fr, s1) =>
    match adefers P ro E fr.ds s1 with
    | some s2 => (aresults P fn fr.t s2).map fun v => afinish s0 v s2
    | none => none
  | none => none
def acall0 (P : Program) (ro : Nat) (E : Ev) (f : FuncId) (args : List Value) (s : St) : Option (Value × St) :=
  acall1 P ro E s (abody P E f args { h := s.h, n := s.n, lo := s.n })
class Memo where
  look : FuncId → List Value → Option Value
  sl : FuncId → Bool
  lookS : FuncId → List Value → List Value → Option Value
variable [Memo]
def mslice (s : St) (f : FuncId) : List Value → Option Value
  | .slice a n c :: r => bif Nat.ble n c then (afirst s 1 n (.slice a n c)).bind fun cs => bif Nat.beq cs.length n then Memo.lookS f cs r else none else none
  | _ => none
def mlook (s : St) (f : FuncId) (args : List Value) : Option Value :=
  match Memo.look f args with
  | some v => some v
  | none => bif Memo.sl f then mslice s f args else none
def amemo (s : St) (x : Option (Value × St)) : Option Value → Option (Value × St)
  | some v => some (v, s)
  | none => x
def acall (P : Program) (ro : Nat) (E : Ev) (f : FuncId) (args : List Value) (s : St) : Option (Value × St) := amemo s (acall0 P ro E f args s) (mlook s f args)
def jumpOf : Ex → Option Code
  | .normal => none
  | .ret => some .ret
  | .exit id => some (.exit id)
def around3 (ro : Nat) (l : Nat) : Option (Ex × Fr × St) → Option (Value × St)
  | some (ex, _, s) =>
    match s.at l with
    | some (.loop r) => bif Nat.ble ro l then some (.bool (jumpOf ex).isNone, s.put l (.loop { r with state := if (jumpOf ex).isNone then .ready else .done, pending := jumpOf ex })) else none
    | _ => none
  | none => none
def around2 (ro : Nat) (E : Ev) (l : Nat) (body : Code) (fr : Fr) (s : St) : Option AO → Option (Value × St)
  | some (.loop r) =>
    match r.state with
    | .ready => bif Nat.ble ro l then around3 ro l (E body fr (s.put l (.loop { r with state := .busy }))) else none
    | _ => none
  | _ => none
def around (ro : Nat) (E : Ev) (l : Nat) (t : Tr) (assign body : Code) (s : St) : Option (Value × St) :=
  match E assign { t := t, ds := [], rnd := some l } s with
  | some (.normal, fr, s1) => around2 ro E l body fr s1 (s1.at l)
  | _ => none
def putV (fr : Fr) (dst : Option Tmp) : Option (Value × St) → Option (Fr × St)
  | some (v, s) => some (fr.put dst v, s)
  | none => none
def adeferTo (fr : Fr) (dst : Option Tmp) (d : Deferred) (s : St) : Option (Fr × St) :=
  match fr.rnd with
  | none => some (({ fr with ds := d :: fr.ds } : Fr).put dst undef, s)
  | some _ => none
def afollow (P : Program) (ro : Nat) (E : Ev) (dst : Option Tmp) (fr : Fr) : Option (AR × St) → Option (Fr × St)
  | some (.val v, s) => some (fr.put dst v, s)
  | some (.skip, s) => some (fr.put dst undef, s)
  | some (.enter f args, s) => putV fr dst (acall P ro E f args s)
  | some (.round l t assign body, s) => putV fr dst (around ro E l t assign body s)
  | some (.dfr d, s) => adeferTo fr dst d s
  | none => none
def astep (P : Program) (ro : Nat) (E : Ev) (o : Oper) (fr : Fr) (s : St) : Option (Fr × St) := afollow P ro E o.dst fr (aop P ro fr.t o s)
def awanted (ops : List Oper) (o : Oper) (t : Tr) : Bool :=
  match o.guard with
  | none => true
  | some (j, want) =>
    match ops[j]? with
    | some g =>
      match g.dst with
      | some d => (match t.get d with
        | .bool b => b == want
        | _ => false)
      | none => false
    | none => false
def aops (P : Program) (ro : Nat) (E : Ev) (all : List Oper) : List Oper → Fr → St → Option (Fr × St)
  | [], fr, s => some (fr, s)
  | o :: r, fr, s =>
    bif awanted all o fr.t then
      match astep P ro E o fr s with
      | some (fr', s') => aops P ro E all r fr' s'
      | none => none
    else aops P ro E all r (fr.put o.dst undef) s
theorem aops_nil (P : Program) (ro : Nat) (E : Ev) (all : List Oper) (fr : Fr) (s : St) : aops P ro E all [] fr s = some (fr, s) := rfl
theorem aops_cons (P : Program) (ro : Nat) (E : Ev) (all : List Oper) (o : Oper) (r : List Oper) (fr : Fr) (s : St) : aops P ro E all (o :: r) fr s =
    bif awanted all o fr.t then (match astep P ro E o fr s with
      | some (fr', s') => aops P ro E all r fr' s'
      | none => none) else aops P ro E all r (fr.put o.dst undef) s := rfl
structure Run where
  fr : Fr
  s : St
  snaps : List (Nat × St × St)
  lds : List (Nat × Oper × Tr)
  frs : List (Nat × Nat × AO)
def putOp (o : Oper) (i : Nat) (t : Tr) (s s1 : St) : Option Run → Option Run
  | some r => some { fr := r.fr, s := r.s, snaps := bif isAct o then (i, s, s1) :: r.snaps else r.snaps, lds := bif isLoad o then (i, o, t) :: r.lds else r.lds, frs := bif isFresh o then (i, s.n, (s1.at s.n).getD .dead) :: r.frs else r.frs }
  | none => none
def quiet (o : Oper) (s s1 : St) : Bool := !isLoad o || Nat.beq s1.n s.n
def arun1 (o : Oper) (i : Nat) (t : Tr) (s : St) (k : Fr → St → Option Run) : Option (Fr × St) → Option Run
  | some (fr, s1) => bif quiet o s s1 then putOp o i t s s1 (k fr s1) else none
  | none => none
def arun (P : Program) (ro : Nat) (E : Ev) (all : List Oper) : List (Nat × Oper) → Fr → St → Option Run
  | [], fr, s => some { fr := fr, s := s, snaps := [], lds := [], frs := [] }
  | (i, o) :: r, fr, s =>
    bif awanted all o fr.t then arun1 o i fr.t s (arun P ro E all r) (astep P ro E o fr s)
    else putOp o i fr.t s s (arun P ro E all r (fr.put o.dst undef) s)
def admits (ms : List Nat) (j : Nat) (f : St → Bool) (last : St) : Nat → List (Nat × St × St) → Bool
  | pm, [] => pm.testBit j || f last
  | pm, (a, s, _) :: r => (pm.testBit j || ((nthN ms j).testBit a || f s)) && admits ms j f last (nthN ms a) r
def sameR (t : Tr) (dst : Option Tmp) (n : Nat) : Option (AR × St) → Bool
  | some (.val v, s) => Nat.beq s.n n && (match dst with
    | some d => veq (t.get d) v
    | none => true)
  | _ => false
def sameAO : AO → Option AO → Bool
  | .cells c t false, some (.cells c' t' false) => Nat.beq t t' && veqL c c'
  | _, _ => false
def clearOf (p : Nat) : List (Nat × St × St) → Bool
  | [] => true
  | (_, s, s1) :: r => (Nat.blt p s.n || Nat.ble s1.n p) && clearOf p r
def chkFresh (ms : List Nat) (n0 : Nat) (snaps : List (Nat × St × St)) (last : St) : List (Nat × Nat × AO) → Bool
  | [] => true
  | (j, p, ob) :: r => (Nat.ble n0 p && (Nat.blt p last.n && (clearOf p snaps && admits ms j (fun s => sameAO ob (s.at p)) last 0 snaps))) && chkFresh ms n0 snaps last r
def chkLoad (P : Program) (ro : Nat) (all : List Oper) (ms : List Nat) (t : Tr) (snaps : List (Nat × St × St)) (last : St) (j : Nat) (o : Oper) (u : Tr) : Bool :=
  !awanted all o u || admits ms j (fun s => sameR t o.dst s.n (aop P ro u o s)) last 0 snaps
def chkLoads (P : Program) (ro : Nat) (all : List Oper) (ms : List Nat) (t : Tr) (snaps : List (Nat × St × St)) (last : St) : List (Nat × Oper × Tr) → Bool
  | [] => true
  | (j, o, u) :: r => chkLoad P ro all ms t snaps last j o u && chkLoads P ro all ms t snaps last r
def freshApart : List (Nat × Nat × AO) → Bool
  | [] => true
  | (_, p, _) :: r => (r.all fun y => !Nat.beq p y.2.1) && freshApart r
def adraw2 (P : Program) (ro : Nat) (l : List Oper) (n0 : Nat) : Option Run → Option (Fr × St)
  | some r => bif (chkFresh (masks l) n0 r.snaps r.s r.frs && freshApart r.frs) && (r.snaps.isEmpty || chkLoads P ro l (masks l) r.fr.t r.snaps r.s r.lds) then some (r.fr, r.s) else none
  | none => none
def aregion (P : Program) (ro : Nat) (E : Ev) (ops : Array Oper) (draw : Bool) (fr : Fr) (s : St) : Option (Fr × St) :=
  match draw with
  | true => adraw2 P ro ops.toList s.n (arun P ro E ops.toList (orderOf ops.toList) fr s)
  | false => aops P ro E ops.toList ops.toList fr s
def normalOf : Option (Fr × St) → Option (Ex × Fr × St)
  | some (fr, s) => some (.normal, fr, s)
  | none => none
def thenE (k : Fr → St → Option (Ex × Fr × St)) : Option (Ex × Fr × St) → Option (Ex × Fr × St)
  | some (.normal, fr, s) => k fr s
  | r => r
def blockE (id : Nat) : Option (Ex × Fr × St) → Option (Ex × Fr × St)
  | some (.exit id', fr, s) => some (bif Nat.beq id' id then .normal else .exit id', fr, s)
  | r => r
def condE (E : Ev) (a b : Code) (fr : Fr) (s : St) : Value → Option (Ex × Fr × St)
  | .bool true => E a fr s
  | .bool false => E b fr s
  | _ => none
def pendEx : Option Code → Option Ex
  | none => some .normal
  | some .ret => some .ret
  | some (.exit id) => some (.exit id)
  | _ => none
def arange3 (ro l : Nat) (fr : Fr) (s : St) : Option AO → Option (Ex × Fr × St)
  | some (.loop r) =>
    match r.state, pendEx r.pending with
    | .ready, some ex => bif Nat.ble ro l then some (ex, fr, s.put l (.loop { r with state := .exhausted })) else none
    | .done, some ex => bif Nat.ble ro l then some (ex, fr, s.put l (.loop { r with state := .exhausted })) else none
    | _, _ => none
  | _ => none
def arange2 (ro l : Nat) (fr : Fr) : Option (Value × St) → Option (Ex × Fr × St)
  | some (_, s) => arange3 ro l fr s (s.at l)
  | none => none
def arange1 (P : Program) (ro : Nat) (E : Ev) (l : Nat) (fr : Fr) (s : St) : Value → Option (Ex × Fr × St)
  | .func (.func k) first cap => arange2 ro l fr (acall P ro E k (first.toList ++ (Value.func (.yield l) (.mk []) (.mk []) :: cap.toList)) s)
  | _ => none
def arangeIn (P : Program) (ro : Nat) (E : Ev) (g : Value) (ps : Array Tmp) (assign body : Code) (fr : Fr) (s : St) : Option AO → Option (Ex × Fr × St)
  | some (.loop r) => arange1 P ro E s.n fr (s.new (.loop { state := .ready, pending := none, t := fr.t, params := ps.toList, assign := assign, body := body, defers := r.defers })) g
  | _ => none
def arange (P : Program) (ro : Nat) (E : Ev) (g : Value) (ps : Array Tmp) (assign body : Code) (fr : Fr) (s : St) : Option (Ex × Fr × St) :=
  match fr.rnd with
  | none => arange1 P ro E (s.n + 1) { fr with ds := { target := .collected s.n, args := #[] } :: fr.ds }
      ((s.new (.defd (some []))).new (.loop { state := .ready, pending := none, t := fr.t, params := ps.toList, assign := assign, body := body, defers := s.n })) g
  | some l => arangeIn P ro E g ps assign body fr s (s.at l)
structure ML where
  I : Nat
  m : Nat
  es : List MapEntry
  since : Nat
  it : Operand
  d : Option Tmp
  os : List Oper
  all : List Oper
  rest : Code
def mapHead2 (I m since last : Nat) (it : Operand) (o : Oper) (os all : List Oper) (rest : Code) : Option AO → Option ML
  | some (.map es clock) => bif (Nat.beq since clock && Nat.beq last clock) && es.all (fun e => Nat.blt e.born clock) then some ⟨I, m, es, clock, it, o.dst, os, all, rest⟩ else none
  | _ => none
def mapHead1 (ro I : Nat) (s : St) (it : Operand) (o : Oper) (os all : List Oper) (rest : Code) : Option AO → Option ML
  | some (.iter m since [] last) => bif Nat.ble ro I then mapHead2 I m since last it o os all rest (s.at m) else none
  | _ => none
def mapHead0 (ro : Nat) (fr : Fr) (s : St) (all : List Oper) (rest : Code) : List Oper → Option ML
  | o :: os =>
    match o.op, o.guard with
    | .next it false, none =>
      (match aval fr.t it with
      | .pointer (some ⟨I, 0, none⟩) => mapHead1 ro I s it o os all rest (s.at I)
      | _ => none)
    | _, _ => none
  | [] => none
def mapHead (ro : Nat) (c : Code) (fr : Fr) (s : St) : Option ML :=
  match c with
  | .seq (.region _ ops false) rest => mapHead0 ro fr s ops.toList rest ops.toList
  | _ => none
def notB : Value → Bool
  | .bool _ => false
  | _ => true
def anyOk (v : Value) : Bool := v.oneCell' && notB v
def vmerge1 (v u : Value) : Option Value := bif veq v u then some v else bif anyOk v && anyOk u then some (.chan (some 0)) else none
def mergeL : List Value → List Value → Option (List Value)
  | [], [] => some []
  | a :: l, b :: m => (vmerge1 a b).bind fun x => (mergeL l m).map (x :: ·)
  | _, _ => none
def vmerge (v u : Value) : Option Value :=
  match v, u with
  | .tuple a, .tuple b => (mergeL a.toList b.toList).map fun l => .tuple (.mk l)
  | v, u => vmerge1 v u
def Tr.merge : Tr → Tr → Option Tr
  | .e, .e => some .e
  | .nd v a b, .nd v' a' b' => (vmerge v v').bind fun u => (Tr.merge a a').bind fun x => (Tr.merge b b').map fun y => .nd u x y
  | _, _ => none
def sameEx : Ex → Ex → Bool
  | .ret, .ret => true
  | .exit a, .exit b => Nat.beq a b
  | _, _ => false
def merge2 : Option (Ex × Fr) → Option (Ex × Fr) → Option (Ex × Fr)
  | some (ex, fr), some (ex', fr') => bif sameEx ex ex' then (Tr.merge fr.t fr'.t).map fun t => (ex, { fr with t := t }) else none
  | _, _ => none
def mall : List (Option (Ex × Fr)) → Option (Ex × Fr)
  | [] => none
  | [r] => r
  | r :: rs => merge2 r (mall rs)
def leftOf (es : List MapEntry) (seen : List Nat) : List MapEntry := es.filter fun e => !seen.contains e.born
def isIt : Value → Nat → Bool
  | .pointer (some ⟨A, 0, none⟩), I => Nat.beq A I
  | _, _ => false
def nextVal : Option MapEntry → Value
  | none => .tuple #[.bool false]
  | some e => .tuple #[.bool true, e.key, e.val]
def sI (x : ML) (s : St) (seen : List Nat) : St := { s.put x.I (.iter x.m x.since seen x.since) with lo := s.n }
def mchk (n : Nat) : Option (Ex × Fr × St) → Option (Ex × Fr)
  | some (ex, fr, s) => bif (Nat.beq s.n n && Nat.ble n s.lo) && fr.ds.isEmpty then some (ex, fr) else none
  | none => none
def mrun (P : Program) (ro : Nat) (E : Ev) (x : ML) (s : St) (seen : List Nat) (e : Option MapEntry) (fr : Fr) : Option (Ex × Fr) :=
  mchk s.n (thenE (E x.rest) (normalOf (aops P ro E x.all x.os (fr.put x.d (nextVal e)) (sI x s seen))))
def mnext (k : Fr → Option (Ex × Fr)) : Option (Ex × Fr) → Option (Ex × Fr)
  | some (.normal, fr) => k fr
  | r => r
def mleaf : Option (Ex × Fr) → Option (Ex × Fr)
  | some (.normal, _) => none
  | r => r
def mtree (P : Program) (ro : Nat) (E : Ev) (x : ML) (s : St) : Nat → List Nat → Fr → Option (Ex × Fr)
  | 0, _, _ => none
  | f + 1, seen, fr =>
    bif isIt (aval fr.t x.it) x.I then
      match leftOf x.es seen with
      | [] => mleaf (mrun P ro E x s seen none fr)
      | e :: l => mall ((e :: l).map fun e => mnext (mtree P ro E x s f (seen ++ [e.born])) (mrun P ro E x s (seen ++ [e.born]) (some e) fr))
    else none
def aloop (P : Program) (ro : Nat) (E : Ev) (a : Code) (fr : Fr) (s : St) : Option ML → Option (Ex × Fr × St)
  | some x => (mtree P ro E x s (x.es.length + 1) [] fr).map fun r => (r.1, r.2, s.put x.I .dead)
  | none => thenE (E (.loop a)) (E a fr s)
def acode (P : Program) (ro : Nat) (E : Ev) (c : Code) (fr : Fr) (s : St) : Option (Ex × Fr × St) :=
  match c with
  | .skip => some (.normal, fr, s)
  | .label _ => some (.normal, fr, s)
  | .region _ ops draw => normalOf (aregion P ro E ops draw fr s)
  | .seq a b => thenE (E b) (E a fr s)
  | .cond x a b => condE E a b fr s (aval fr.t x)
  | .block id a => blockE id (E a fr s)
  | .loop a => aloop P ro E a fr s (mapHead ro a fr s)
  | .rangeFunc g ps assign body => arange P ro E (aval fr.t g) ps assign body fr s
  | .exit id => some (.exit id, fr, s)
  | .scope a => E a fr s
  | .goto _ => none
  | .ret => some (.ret, fr, s)
  | .refuse _ => none
def ev (P : Program) (ro : Nat) : Nat → Ev
  | 0 => fun _ _ _ => none
  | n + 1 => acode P ro (ev P ro n)
end Go.VE
/- The relation between the abstract heap and the machine's world, and its plain laws. -/
namespace Go.VE
open Go Go.RowKit
abbrev Rho := Nat → Option (Nat × Nat × Nat)
def Sub (ρ ρ' : Rho) : Prop := ∀ A p, ρ A = some p → ρ' A = some p
theorem Sub.refl (ρ : Rho) : Sub ρ ρ := fun _ _ h => h
theorem Sub.trans {a b c : Rho} (h : Sub a b) (k : Sub b c) : Sub a c := fun A p e => k A p (h A p e)
def Ext (n : Nat) (ρ ρ' : Rho) : Prop := ∀ A, A < n → ρ' A = ρ A
theorem Ext.refl (n : Nat) (ρ : Rho) : Ext n ρ ρ := fun _ _ => rfl
theorem Ext.trans {n m : Nat} {a b c : Rho} (h : Ext n a b) (k : Ext m b c) (hn : n ≤ m) : Ext n a c := fun A hA => (k A (by omega)).trans (h A hA)
inductive VR (ρ : Rho) : Value → Value → Prop
  | flat (v : Value) (h : flat v = true) : VR ρ v v
  | ptr {A b : Nat} {x : Nat × Nat} (o : Nat) (h : ρ A = some (b, x)) : VR ρ (.pointer (some ⟨A, o, none⟩)) (.pointer (some ⟨b, o + x.2, none⟩))
  | sl {A b : Nat} {x : Nat × Nat} (o n c : Nat) (h : ρ A = some (b, x)) : VR ρ (.slice (some ⟨A, o, none⟩) n c) (.slice (some ⟨b, o + x.2, none⟩) n c)
  | slo {A b : Nat} {x : Nat × Nat} (o n c : Nat) (h : ρ A = some (b, x)) : VR ρ (.slice (some ⟨A, o, some 0⟩) n c) (.slice (some ⟨b, o + x.2, none⟩) n (c + x.1))
  | sle {A b : Nat} {x : Nat × Nat} (o o' c' : Nat) (h : ρ A = some (b, x)) : VR ρ (.slice (some ⟨A, o, some 1⟩) 0 0) (.slice (some ⟨b, o', none⟩) 0 c')
  | agg (cs cs' : List Value) (hl : cs.length = cs'.length) (h : ∀ (i : Nat) (v v' : Value), cs[i]? = some v → cs'[i]? = some v' → VR ρ v v') : VR ρ (.agg ⟨cs⟩) (.agg ⟨cs'⟩)
  | tuple (cs cs' : List Value) (hl : cs.length = cs'.length) (h : ∀ (i : Nat) (v v' : Value), cs[i]? = some v → cs'[i]? = some v' → VR ρ v v') : VR ρ (.tuple ⟨cs⟩) (.tuple ⟨cs'⟩)
  | func (fn : Fn) (hf : fnOk fn = true) (as as' cs cs' : List Value) (ha : as.length = as'.length) (h : ∀ (i : Nat) (v v' : Value), as[i]? = some v → as'[i]? = some v' → VR ρ v v')
      (hc : cs.length = cs'.length) (k : ∀ (i : Nat) (v v' : Value), cs[i]? = some v → cs'[i]? = some v' → VR ρ v v') : VR ρ (.func fn ⟨as⟩ ⟨cs⟩) (.func fn ⟨as'⟩ ⟨cs'⟩)
  | map {A b : Nat} {x : Nat × Nat} (h : ρ A = some (b, x)) : VR ρ (.map (some A)) (.map (some b))
  | any (i : Nat) (v' : Value) (h : v'.oneCell' = true) (hb : ∀ b, v' ≠ .bool b) : VR ρ (.chan (some i)) v'
  | yield {l b : Nat} {x : Nat × Nat} (h : ρ l = some (b, x)) : VR ρ (.func (.yield l) ⟨[]⟩ ⟨[]⟩) (.func (.yield b) ⟨[]⟩ ⟨[]⟩)
structure LR (ρ : Rho) (l l' : List Value) : Prop where
  len : l.length = l'.length
  get : ∀ (i : Nat) (v v' : Value), l[i]? = some v → l'[i]? = some v' → VR ρ v v'
theorem VR.mono {ρ ρ' : Rho} (hs : Sub ρ ρ') {v v' : Value} (h : VR ρ v v') : VR ρ' v v' := by
  induction h with
  | flat v h => exact .flat v h
  | ptr o h => exact .ptr o (hs _ _ h)
  | sl o n c h => exact .sl o n c (hs _ _ h)
  | slo o n c h => exact .slo o n c (hs _ _ h)
  | sle o o' c' h => exact .sle o o' c' (hs _ _ h)
  | agg cs cs' hl _ ih => exact .agg cs cs' hl ih
  | tuple cs cs' hl _ ih => exact .tuple cs cs' hl ih
  | func fn hf as as' cs cs' ha _ hc _ ih ik => exact .func fn hf as as' cs cs' ha ih hc ik
  | yield h => exact .yield (hs _ _ h)
  | map h => exact .map (hs _ _ h)
  | any i v' h hb => exact .any i v' h hb
theorem LR.mono {ρ ρ' : Rho} (hs : Sub ρ ρ') {l l' : List Value} (h : LR ρ l l') : LR ρ' l l' := ⟨h.len, fun i v v' a b => (h.get i v v' a b).mono hs⟩
theorem flatL_get {l : List Value} (h : flatL l = true) {i : Nat} {v : Value} (hi : l[i]? = some v) : flat v = true := by
  induction l generalizing i with
  | nil => simp at hi
  | cons x l ih =>
    simp only [flatL, Bool.and_eq_true] at h
    cases i with
    | zero => simp at hi; exact hi ▸ h.1
    | succ i => exact ih h.2 (by simpa using hi)
theorem flatL_of {l : List Value} (h : ∀ (i : Nat) (v : Value), l[i]? = some v → flat v = true) : flatL l = true := by
  induction l with
  | nil => rfl
  | cons x l ih =>
    simp only [flatL, Bool.and_eq_true]
    exact ⟨h 0 x rfl, ih fun i v hi => h (i + 1) v (by simpa using hi)⟩
theorem flatA_mk (l : List Value) : flatA ⟨l⟩ = flatL l := rfl
theorem flat_agg (a : Array Value) : flat (.agg a) = flatL a.toList := by cases a; rfl
theorem flat_tuple (a : Array Value) : flat (.tuple a) = flatL a.toList := by cases a; rfl
theorem list_ext_opt {l l' : List Value} (hl : l.length = l'.length) (h : ∀ (i : Nat) (v v' : Value), l[i]? = some v → l'[i]? = some v' → v' = v) : l' = l := by
  apply List.ext_getElem? 
  intro i
  by_cases hi : i < l.length
  · rw [List.getElem?_eq_getElem hi, List.getElem?_eq_getElem (hl ▸ hi)]
    rw [h i l[i] (l'[i]'(hl ▸ hi)) (List.getElem?_eq_getElem hi) (List.getElem?_eq_getElem (hl ▸ hi))]
  · rw [List.getElem?_eq_none (by omega), List.getElem?_eq_none (by omega)]
theorem VR.flat_eq {ρ : Rho} {v v' : Value} (h : VR ρ v v') (hf : VE.flat v = true) : v' = v := by
  induction h with
  | flat v h => rfl
  | ptr o h => simp [VE.flat] at hf
  | sl o n c h => simp [VE.flat] at hf
  | slo o n c h => simp [VE.flat] at hf
  | sle o o' c' h => simp [VE.flat] at hf
  | agg cs cs' hl _ ih =>
    rw [flat_agg] at hf
    rw [list_ext_opt hl fun i v v' a b => ih i v v' a b (flatL_get hf a)]
  | tuple cs cs' hl _ ih =>
    rw [flat_tuple] at hf
    rw [list_ext_opt hl fun i v v' a b => ih i v v' a b (flatL_get hf a)]
  | func fn hfn as as' cs cs' ha _ hc _ ih ik =>
    simp only [VE.flat, flatA_mk, Bool.and_eq_true] at hf
    rw [list_ext_opt ha fun i v v' a b => ih i v v' a b (flatL_get hf.1.2 a), list_ext_opt hc fun i v v' a b => ik i v v' a b (flatL_get hf.2 a)]
  | yield h => simp [VE.flat, fnOk] at hf
  | map h => simp [VE.flat] at hf
  | any i v' h hb => simp [VE.flat] at hf
theorem LR.flat_eq {ρ : Rho} {l l' : List Value} (h : LR ρ l l') (hf : flatL l = true) : l' = l := list_ext_opt h.len fun i v v' a b => (h.get i v v' a b).flat_eq (flatL_get hf a)
theorem LR.of_flat {ρ : Rho} {l : List Value} (hf : flatL l = true) : LR ρ l l := ⟨rfl, fun i v v' a b => by rw [a] at b; cases b; exact .flat v (flatL_get hf a)⟩
theorem LR.nil {ρ : Rho} : LR ρ [] [] := ⟨rfl, fun i v v' a _ => by simp at a⟩
theorem LR.cons {ρ : Rho} {v v' : Value} {l l' : List Value} (h : VR ρ v v') (k : LR ρ l l') : LR ρ (v :: l) (v' :: l') :=
  ⟨by simp [k.len], fun i x x' a b => by
    cases i with
    | zero => simp at a b; subst a; subst b; exact h
    | succ i => exact k.get i x x' (by simpa using a) (by simpa using b)⟩
theorem LR.cons_inv {ρ : Rho} {v : Value} {l l' : List Value} (h : LR ρ (v :: l) l') : ∃ v' r, l' = v' :: r ∧ VR ρ v v' ∧ LR ρ l r := by
  cases l' with
  | nil => have := h.len; simp at this
  | cons v' r => exact ⟨v', r, rfl, h.get 0 v v' rfl rfl, by have := h.len; simpa using this, fun i x x' a b => h.get (i + 1) x x' (by simpa using a) (by simpa using b)⟩
theorem LR.nil_inv {ρ : Rho} {l' : List Value} (h : LR ρ [] l') : l' = [] := by
  have := h.len; simp at this; exact List.eq_nil_of_length_eq_zero this.symm
theorem LR.append {ρ : Rho} {a a' b b' : List Value} (h : LR ρ a a') (k : LR ρ b b') : LR ρ (a ++ b) (a' ++ b') := by
  refine ⟨by simp [h.len, k.len], fun i v v' x y => ?_⟩
  rw [List.getElem?_append] at x y
  rw [← h.len] at y
  split at x <;> rename_i hi
  · rw [if_pos hi] at y; exact h.get i v v' x y
  · rw [if_neg hi] at y; exact k.get _ v v' x y
theorem LR.take {ρ : Rho} {a a' : List Value} (h : LR ρ a a') (n : Nat) : LR ρ (a.take n) (a'.take n) := by
  refine ⟨by simp [h.len], fun i v v' x y => ?_⟩
  rw [List.getElem?_take] at x y
  split at x <;> simp_all
  exact h.get i v v' x y
theorem LR.drop {ρ : Rho} {a a' : List Value} (h : LR ρ a a') (n : Nat) : LR ρ (a.drop n) (a'.drop n) := by
  refine ⟨by simp [h.len], fun i v v' x y => ?_⟩
  rw [List.getElem?_drop] at x y
  exact h.get _ v v' x y
theorem LR.splice {ρ : Rho} {c c' l l' : List Value} (h : LR ρ c c') (k : LR ρ l l') (o : Nat) : LR ρ (splice c o l) (splice c' o l') := by
  unfold VE.splice
  rw [← k.len]
  exact (h.take o).append (k.append (h.drop _))
theorem LR.getOpt {ρ : Rho} {l l' : List Value} (h : LR ρ l l') {i : Nat} {v : Value} (hi : l[i]? = some v) : ∃ v', l'[i]? = some v' ∧ VR ρ v v' := by
  have hlt : i < l.length := (List.getElem?_eq_some_iff.1 hi).1
  have hlt' : i < l'.length := h.len ▸ hlt
  exact ⟨l'[i], List.getElem?_eq_getElem hlt', h.get i v _ hi (List.getElem?_eq_getElem hlt')⟩
theorem VR.aggL {ρ : Rho} {l l' : List Value} (h : LR ρ l l') : VR ρ (.agg ⟨l⟩) (.agg ⟨l'⟩) := .agg l l' h.len h.get
theorem VR.tupleL {ρ : Rho} {l l' : List Value} (h : LR ρ l l') : VR ρ (.tuple ⟨l⟩) (.tuple ⟨l'⟩) := .tuple l l' h.len h.get
theorem VR.agg_inv {ρ : Rho} {a : Array Value} {v' : Value} (h : VR ρ (.agg a) v') : ∃ l', v' = .agg ⟨l'⟩ ∧ LR ρ a.toList l' := by
  cases h with
  | flat _ h => rw [flat_agg] at h; exact ⟨a.toList, by cases a; rfl, LR.of_flat h⟩
  | agg cs cs' hl h => exact ⟨cs', rfl, hl, h⟩
theorem VR.tuple_inv {ρ : Rho} {a : Array Value} {v' : Value} (h : VR ρ (.tuple a) v') : ∃ l', v' = .tuple ⟨l'⟩ ∧ LR ρ a.toList l' := by
  cases h with
  | flat _ h => rw [flat_tuple] at h; exact ⟨a.toList, by cases a; rfl, LR.of_flat h⟩
  | tuple cs cs' hl h => exact ⟨cs', rfl, hl, h⟩
theorem VR.bool_inv {ρ : Rho} {b : Bool} {v' : Value} (h : VR ρ (.bool b) v') : v' = .bool b := h.flat_eq rfl
theorem VR.int_inv {ρ : Rho} {k : IntKind} {n : Int} {v' : Value} (h : VR ρ (.int k n) v') : v' = .int k n := h.flat_eq rfl
theorem VR.string_inv {ρ : Rho} {b : ByteArray} {v' : Value} (h : VR ρ (.string b) v') : v' = .string b := h.flat_eq rfl
theorem VR.ptr_inv {ρ : Rho} {A o : Nat} {v' : Value} (h : VR ρ (.pointer (some ⟨A, o, none⟩)) v') : ∃ b x, ρ A = some (b, x) ∧ v' = .pointer (some ⟨b, o + x.2, none⟩) := by
  cases h with
  | flat _ h => simp [VE.flat] at h
  | ptr o h => exact ⟨_, _, h, rfl⟩
theorem VR.map_inv {ρ : Rho} {A : Nat} {v' : Value} (h : VR ρ (.map (some A)) v') : ∃ b x, ρ A = some (b, x) ∧ v' = .map (some b) := by
  cases h with
  | flat _ h => simp [VE.flat] at h
  | map h => exact ⟨_, _, h, rfl⟩
theorem VR.cells {ρ : Rho} {v v' : Value} (h : VR ρ v v') : LR ρ v.cells.toList v'.cells.toList := by
  by_cases hv : ∃ a, v = .agg a
  · obtain ⟨a, rfl⟩ := hv
    obtain ⟨l', rfl, hl⟩ := h.agg_inv
    exact hl
  · have e1 : v.cells = #[v] := by cases v <;> first | rfl | exact absurd ⟨_, rfl⟩ hv
    have hv' : ∀ a, v' ≠ .agg a := by
      intro a e; subst e
      cases h with
      | flat _ h => exact hv ⟨_, rfl⟩
      | agg cs cs' hl h => exact hv ⟨_, rfl⟩
      | any i _ h => cases h
    have e2 : v'.cells = #[v'] := by cases v' <;> first | rfl | exact absurd rfl (hv' _)
    rw [e1, e2]
    exact LR.cons h .nil
theorem VR.oneCell {ρ : Rho} {v v' : Value} (h : VR ρ v v') : v'.oneCell' = v.oneCell' := by
  cases h with
  | any i _ h => exact h
  | _ => rfl
theorem LR.oneCells {ρ : Rho} {l l' : List Value} (h : LR ρ l l') (ho : l.all (·.oneCell') = true) : ∀ v ∈ l', v.oneCell' = true := by
  intro v' hv'
  obtain ⟨i, hi⟩ := List.getElem?_of_mem hv'
  have hlt : i < l.length := h.len ▸ (List.getElem?_eq_some_iff.1 hi).1
  have := h.get i l[i] v' (List.getElem?_eq_getElem hlt) hi
  rw [this.oneCell]
  exact List.all_eq_true.1 ho _ (List.getElem_mem hlt)
def Tr.has : Tr → Nat → Bool
  | .e, _ => false
  | .nd _ a b, i => match i with
    | 0 => true
    | j + 1 => bif Nat.beq (j % 2) 0 then a.has (j / 2) else b.has (j / 2)
theorem Tr.has_set (t : Tr) : ∀ (i : Nat) (v : Value) (j : Nat), (t.set i v).has j = t.has j := by
  induction t with
  | e => intros; rfl
  | nd u a b iha ihb =>
    intro i v j
    cases i with
    | zero => cases j <;> rfl
    | succ i =>
      simp only [Tr.set_s]
      cases Nat.beq (i % 2) 0 <;> simp only [cond_true, cond_false] <;> (cases j with
        | zero => rfl
        | succ j => simp only [Tr.has]; cases Nat.beq (j % 2) 0 <;> simp [iha, ihb])
theorem parity {i j : Nat} (h : i / 2 = j / 2) (hp : Nat.beq (i % 2) 0 = Nat.beq (j % 2) 0) : i = j := by
  have e1 : i % 2 = j % 2 := by
    rcases Nat.mod_two_eq_zero_or_one i with a | a <;> rcases Nat.mod_two_eq_zero_or_one j with b | b <;> simp_all
  omega
theorem Tr.get_set (t : Tr) : ∀ (i : Nat) (v : Value) (j : Nat), (t.set i v).get j = if j = i ∧ t.has i = true then v else t.get j := by
  induction t with
  | e => intro i v j; simp [Tr.set_e, Tr.has]
  | nd u a b iha ihb =>
    intro i v j
    cases i with
    | zero => cases j <;> simp [Tr.set_z, Tr.get_z, Tr.get_s, Tr.has]
    | succ i =>
      cases j with
      | zero => simp only [Tr.set_s]; cases Nat.beq (i % 2) 0 <;> simp [Tr.get_z]
      | succ j =>
        have key : ∀ (hp : Nat.beq (i % 2) 0 = Nat.beq (j % 2) 0), (j / 2 = i / 2) = (j + 1 = i + 1) := fun hp => propext ⟨fun h => by rw [parity h hp.symm], fun h => by rw [Nat.succ.inj h]⟩
        have ne : Nat.beq (i % 2) 0 ≠ Nat.beq (j % 2) 0 → ¬ (j + 1 = i + 1) := fun h e => h (by rw [Nat.succ.inj e])
        simp only [Tr.set_s]
        cases hi : Nat.beq (i % 2) 0 <;> cases hj : Nat.beq (j % 2) 0 <;> simp only [cond_true, cond_false, Tr.get_s, Tr.has, hi, hj, iha, ihb]
        · simp only [key (by rw [hi, hj])]
        · rw [if_neg (fun h => ne (by rw [hi, hj]; simp) h.1)]
        · rw [if_neg (fun h => ne (by rw [hi, hj]; simp) h.1)]
        · simp only [key (by rw [hi, hj])]
theorem Tr.get_of_not_has (t : Tr) : ∀ i, t.has i = false → t.get i = undef := by
  induction t with
  | e => intros; rfl
  | nd u a b iha ihb =>
    intro i h
    cases i with
    | zero => simp [Tr.has] at h
    | succ i =>
      simp only [Tr.has] at h
      simp only [Tr.get_s]
      cases hb : Nat.beq (i % 2) 0
      · rw [hb] at h; exact ihb _ h
      · rw [hb] at h; exact iha _ h
theorem Tr.mk_has : ∀ (f n : Nat), n ≤ f → ∀ i, (Tr.mk f n).has i = decide (i < n)
  | 0, n, h, i => by have : n = 0 := by omega
                     subst this; rfl
  | f + 1, n, h, i => by
    cases n with
    | zero => simp [Tr.mk, Tr.has]
    | succ m =>
      cases i with
      | zero => simp [Tr.mk, Tr.has]
      | succ i =>
        simp only [Tr.mk, Tr.has]
        rcases Nat.mod_two_eq_zero_or_one i with hi | hi
        · rw [hi]
          show (Tr.mk f ((m + 1) / 2)).has (i / 2) = _
          rw [Tr.mk_has f _ (by omega)]
          exact decide_eq_decide.2 (by omega)
        · rw [hi]
          show (Tr.mk f (m / 2)).has (i / 2) = _
          rw [Tr.mk_has f _ (by omega)]
          exact decide_eq_decide.2 (by omega)
theorem Tr.mk_get : ∀ (f n i : Nat), (Tr.mk f n).get i = undef
  | 0, n, i => rfl
  | f + 1, n, i => by
    cases n with
    | zero => rfl
    | succ m =>
      cases i with
      | zero => rfl
      | succ i => simp only [Tr.mk, Tr.get_s]; cases Nat.beq (i % 2) 0 <;> simp [Tr.mk_get f]
theorem Tr.fill_has : ∀ (l : List Value) (t : Tr) (i j : Nat), (t.fill l i).has j = t.has j
  | [], t, i, j => rfl
  | v :: l, t, i, j => by rw [Tr.fill, Tr.fill_has l, Tr.has_set]
theorem Tr.fill_get : ∀ (l : List Value) (t : Tr) (i j : Nat), (∀ k, k < i + l.length → t.has k = true) → (t.fill l i).get j = if i ≤ j then (l[j - i]?).getD (t.get j) else t.get j
  | [], t, i, j, _ => by simp [Tr.fill]
  | v :: l, t, i, j, h => by
    rw [Tr.fill, Tr.fill_get l _ _ _ (fun k hk => by rw [Tr.has_set]; exact h k (by simp; omega)), Tr.get_set]
    have h0 := h i (by simp)
    simp only [h0, and_true]
    by_cases h1 : i + 1 ≤ j
    · have e : j - i = (j - (i + 1)) + 1 := by omega
      rw [if_pos h1, if_pos (by omega : i ≤ j), if_neg (by omega), e, List.getElem?_cons_succ]
    · rw [if_neg h1]
      by_cases h2 : j = i
      · subst h2; simp
      · rw [if_neg h2, if_neg (by omega)]
theorem tree_has (n : Nat) (args : List Value) (i : Nat) : (tree n args).has i = decide (i < n) := by
  unfold tree; rw [Tr.fill_has, Tr.mk_has n n (Nat.le_refl _)]
theorem tree_get (n : Nat) (args : List Value) (h : args.length ≤ n) (i : Nat) : (tree n args).get i = args.getD i undef := by
  unfold tree
  rw [Tr.fill_get _ _ _ _ (fun k hk => by rw [Tr.mk_has n n (Nat.le_refl _)]; simp; omega), Tr.mk_get]
  simp
structure TR (ρ : Rho) (t : Tr) (tmps : Array Value) : Prop where
  has : ∀ i, t.has i = decide (i < tmps.size)
  get : ∀ i, VR ρ (t.get i) (tmps.getD i undef)
theorem VR.undef {ρ : Rho} : VR ρ undef undef := .flat _ rfl
theorem TR.mono {ρ ρ' : Rho} (hs : Sub ρ ρ') {t : Tr} {tmps : Array Value} (h : TR ρ t tmps) : TR ρ' t tmps := ⟨h.has, fun i => (h.get i).mono hs⟩
theorem TR.set {ρ : Rho} {t : Tr} {tmps : Array Value} (h : TR ρ t tmps) (d : Nat) {v v' : Value} (hv : VR ρ v v') : TR ρ (t.set d v) (tmps.setIfInBounds d v') := by
  refine ⟨fun i => by rw [Tr.has_set, h.has]; simp, fun i => ?_⟩
  rw [Tr.get_set, h.has]
  have hg := h.get i
  simp only [Array.getD_eq_getD_getElem?] at hg ⊢
  rw [Array.getElem?_setIfInBounds]
  by_cases e : d = i
  · subst e
    by_cases hd : d < tmps.size
    · simp [hd]; exact hv
    · simp [hd] at hg ⊢; exact hg
  · rw [if_neg e, if_neg (fun h => e h.1.symm)]; exact hg
theorem TR.tree {ρ : Rho} {args args' : List Value} (h : LR ρ args args') (n : Nat) :
    TR ρ (tree (max n args.length) args) ((⟨args'⟩ : Array Value) ++ Array.replicate (n - args'.length) undef) := by
  refine ⟨fun i => by rw [tree_has]; exact decide_eq_decide.2 (by simp [h.len]; omega), fun i => ?_⟩
  rw [tree_get _ _ (by omega)]
  have e : ((⟨args'⟩ : Array Value) ++ Array.replicate (n - args'.length) undef).getD i undef = args'.getD i undef := by
    simp only [Array.getD_eq_getD_getElem?, List.getD_eq_getElem?_getD, Array.getElem?_append]
    by_cases hi : i < args'.length
    · simp [hi]
    · simp only [hi, if_false, List.size_toArray, Array.getElem?_replicate]
      rw [List.getElem?_eq_none (by omega)]
      split <;> rfl
  rw [e]
  simp only [List.getD_eq_getElem?_getD]
  cases hi : args[i]? with
  | none =>
    have : args'[i]? = none := by rw [List.getElem?_eq_none_iff] at hi ⊢; rw [← h.len]; exact hi
    rw [this]; exact VR.undef
  | some v =>
    obtain ⟨v', hv', hr⟩ := h.getOpt hi
    rw [hv']; exact hr
theorem TR.setAll {ρ : Rho} : ∀ (ps : List Tmp) (vs vs' : List Value) {t : Tr} {tmps : Array Value}, TR ρ t tmps → LR ρ vs vs' →
    TR ρ (setAll t ps vs) ((ps.zip vs').foldl (fun tmps (p : Tmp × Value) => tmps.setIfInBounds p.1 p.2) tmps)
  | [], vs, vs', t, tmps, h, k => by simpa [VE.setAll] using h
  | p :: ps, [], vs', t, tmps, h, k => by rw [k.nil_inv]; simpa [VE.setAll] using h
  | p :: ps, v :: vs, vs', t, tmps, h, k => by
    obtain ⟨v', r, rfl, hv, hr⟩ := k.cons_inv
    simp only [VE.setAll, List.zip_cons_cons, List.foldl_cons]
    exact TR.setAll ps vs r (h.set p hv) hr
theorem runPure_ok {α : Type} {P : Program} : ∀ (s : Sem α) {a : α}, runPure P s = some a → ∀ w : World, s.run P w = .ok a w
  | .pure a, b, h, w => by simp only [runPure, Option.some.injEq] at h; subst h; rfl
  | .program k, b, h, w => runPure_ok (k P) h w
  | .mark m k, b, h, w => runPure_ok k h w
  | .load .., _, h, _ | .store .., _, h, _ | .new .., _, h, _ | .shape .., _, h, _ | .freeze .., _, h, _ | .frozen .., _, h, _ | .getObj .., _, h, _
  | .setObj .., _, h, _ | .choose .., _, h, _ | .sys .., _, h, _ | .halt .., _, h, _ => by simp [runPure] at h
mutual
theorem veq_eq (v v' : Value) (h : veq v v' = true) : v = v' := by
  cases v with
  | bool a => cases v' <;> first | cases h; done | (simp only [veq] at h; have h := eq_of_beq h; rw [h])
  | int k a => cases v' <;> first | cases h; done | (simp only [veq, Bool.and_eq_true, decide_eq_true_eq] at h; rw [h.1, h.2])
  | string a =>
    cases v' <;> first | cases h; done | skip
    rename_i b
    simp only [veq, decide_eq_true_eq] at h
    have : a = b := by
      cases a; cases b
      congr 1
      exact Array.ext' h
    rw [this]
  | nilFunc => cases v' <;> first | cases h; done | rfl
  | nilIface => cases v' <;> first | cases h; done | rfl
  | pointer a => cases v' <;> first | cases h; done | (simp only [veq, decide_eq_true_eq] at h; rw [h])
  | slice a n c => cases v' <;> first | cases h; done | (simp only [veq, Bool.and_eq_true, decide_eq_true_eq] at h; rw [h.1.1, h.1.2, h.2])
  | map a => cases v' <;> first | cases h; done | (simp only [veq, decide_eq_true_eq] at h; rw [h])
  | func f a b =>
    cases v' <;> first | cases h; done | skip
    rename_i f' a' b'
    simp only [veq, Bool.and_eq_true, decide_eq_true_eq] at h
    rw [h.1.1, veqA_eq a a' h.1.2, veqA_eq b b' h.2]
  | agg a =>
    cases v' <;> first | cases h; done | skip
    rename_i a'
    simp only [veq] at h
    rw [veqA_eq a a' h]
  | tuple a =>
    cases v' <;> first | cases h; done | skip
    rename_i a'
    simp only [veq] at h
    rw [veqA_eq a a' h]
  | _ => cases v' <;> cases h
theorem veqA_eq (a a' : Array Value) (h : veqA a a' = true) : a = a' := by
  cases a with
  | mk l =>
    cases a' with
    | mk l' =>
      simp only [veqA] at h
      rw [veqL_eq l l' h]
theorem veqL_eq (l l' : List Value) (h : veqL l l' = true) : l = l' := by
  cases l with
  | nil => cases l' <;> first | rfl | cases h
  | cons v r =>
    cases l' with
    | nil => cases h
    | cons v' r' =>
      simp only [veqL, Bool.and_eq_true] at h
      rw [veq_eq v v' h.1, veqL_eq r r' h.2]
end
end Go.VE
/- The abstract heap against the machine's: the relation, and what blocks, loads and stores do to it. -/
namespace Go.VE
open Go Go.RowKit
def MemoOk [Memo] (P : Program) (base : Nat) (w0 : World) : Prop :=
  (∀ (f : FuncId) (args : List Value) (v : Value), Memo.look f args = some v → flatL args = true ∧ VE.flat v = true ∧ (∃ fn, P.funcs[f]? = some fn ∧ fn.body.isSome = true ∧ (fn.name == "runtime.NumGoroutine") = false) ∧
    ∀ W, Below base w0 W → Calls P f ⟨args⟩ W fun e W' => e = .returned v ∧ Below W.heap.size W W') ∧
  ∀ (f : FuncId) (cs r : List Value) (v : Value), Memo.sl f = true → Memo.lookS f cs r = some v → flatL cs = true ∧ flatL r = true ∧ VE.flat v = true ∧ (∃ fn, P.funcs[f]? = some fn ∧ fn.body.isSome = true ∧ (fn.name == "runtime.NumGoroutine") = false) ∧
    ∀ W, Below base w0 W → ∀ (a : Option Addr) (n c : Nat), cs.length = n → (cs ≠ [] → ∃ b o, a = some ⟨b, o, none⟩ ∧ b < W.heap.size ∧ n ≤ c ∧ ∀ (j : Nat) x, cs[j]? = some x → W.cell? ⟨b, o + j, none⟩ = some x) →
      Calls P f ⟨.slice a n c :: r⟩ W fun e W' => e = .returned v ∧ Below W.heap.size W W'
structure Cx [Memo] where
  P : Program
  ro : Nat
  base : Nat
  w0 : World
  okc : Code → Bool
  mok : MemoOk P base w0
theorem HT.get_set : ∀ (f : Nat) (t : HT) (i : Nat) (x : AO) (j : Nat), i < f → (HT.set f t i x).get j = if j = i then some x else t.get j := by
  intro f
  induction f with
  | zero => intro t i x j h; omega
  | succ f ih =>
    intro t i x j h
    cases t with
    | e =>
      cases i with
      | zero =>
        cases j with
        | zero => rfl
        | succ j => simp only [HT.set_ez, HT.get_s]; cases Nat.beq (j % 2) 0 <;> simp [HT.get_e]
      | succ i =>
        cases hb : Nat.beq (i % 2) 0 with
        | true =>
          cases j with
          | zero => simp [HT.set_es, hb, HT.get_z, HT.get_e]
          | succ j =>
            simp only [HT.set_es, hb, HT.get_s, HT.get_e, cond_true]
            cases hb2 : Nat.beq (j % 2) 0 with
            | true =>
              have h1 := Nat.eq_of_beq_eq_true hb
              have h2 := Nat.eq_of_beq_eq_true hb2
              simp only [cond_true]
              rw [ih _ _ _ _ (by omega)]
              by_cases e : j / 2 = i / 2
              · rw [if_pos e, if_pos (by omega)]
              · rw [if_neg e, if_neg (by omega)]; rfl
            | false =>
              have h1 := Nat.eq_of_beq_eq_true hb
              simp only [cond_false]
              rw [if_neg (fun e => by have : j = i := by omega
                                      subst this; rw [hb] at hb2; cases hb2)]
        | false =>
          cases j with
          | zero => simp [HT.set_es, hb, HT.get_z, HT.get_e]
          | succ j =>
            simp only [HT.set_es, hb, HT.get_s, HT.get_e, cond_false]
            cases hb2 : Nat.beq (j % 2) 0 with
            | true =>
              simp only [cond_true]
              rw [if_neg (fun e => by have : j = i := by omega
                                      subst this; rw [hb] at hb2; cases hb2)]
            | false =>
              have h1 : ¬ i % 2 = 0 := fun h => by rw [h] at hb; simp [Nat.beq_refl] at hb
              have h2 : ¬ j % 2 = 0 := fun h => by rw [h] at hb2; simp [Nat.beq_refl] at hb2
              simp only [cond_false]
              rw [ih _ _ _ _ (by omega)]
              by_cases e : j / 2 = i / 2
              · rw [if_pos e, if_pos (by omega)]
              · rw [if_neg e, if_neg (by omega)]; rfl
    | nd o a b =>
      cases i with
      | zero =>
        cases j with
        | zero => rfl
        | succ j => simp only [HT.set_z, HT.get_s]; rw [if_neg (by omega)]
      | succ i =>
        cases hb : Nat.beq (i % 2) 0 with
        | true =>
          cases j with
          | zero => simp [HT.set_s, hb, HT.get_z]
          | succ j =>
            simp only [HT.set_s, hb, HT.get_s, cond_true]
            cases hb2 : Nat.beq (j % 2) 0 with
            | true =>
              have h1 := Nat.eq_of_beq_eq_true hb
              have h2 := Nat.eq_of_beq_eq_true hb2
              simp only [cond_true]
              rw [ih _ _ _ _ (by omega)]
              by_cases e : j / 2 = i / 2
              · rw [if_pos e, if_pos (by omega)]
              · rw [if_neg e, if_neg (by omega)]
            | false =>
              simp only [cond_false]
              rw [if_neg (fun e => by have : j = i := by omega
                                      subst this; rw [hb] at hb2; cases hb2)]
        | false =>
          cases j with
          | zero => simp [HT.set_s, hb, HT.get_z]
          | succ j =>
            simp only [HT.set_s, hb, HT.get_s, cond_false]
            cases hb2 : Nat.beq (j % 2) 0 with
            | true =>
              simp only [cond_true]
              rw [if_neg (fun e => by have : j = i := by omega
                                      subst this; rw [hb] at hb2; cases hb2)]
            | false =>
              have h1 : ¬ i % 2 = 0 := fun h => by rw [h] at hb; simp [Nat.beq_refl] at hb
              have h2 : ¬ j % 2 = 0 := fun h => by rw [h] at hb2; simp [Nat.beq_refl] at hb2
              simp only [cond_false]
              rw [ih _ _ _ _ (by omega)]
              by_cases e : j / 2 = i / 2
              · rw [if_pos e, if_pos (by omega)]
              · rw [if_neg e, if_neg (by omega)]
theorem St.at_eq (s : St) (A : Nat) : s.at A = if A < s.n then s.h.t.get A else none := by
  unfold St.at
  by_cases h : A < s.n
  · rw [if_pos h, Nat.blt_eq.mpr h]; rfl
  · rw [if_neg h]
    have : Nat.blt A s.n = false := by
      cases hb : Nat.blt A s.n with
      | false => rfl
      | true => exact absurd (Nat.blt_eq.mp hb) h
    rw [this]; rfl
theorem St.at_lt {s : St} {A : Nat} {o : AO} (h : s.at A = some o) : A < s.n := by
  rw [St.at_eq] at h
  split at h
  · assumption
  · simp at h
theorem St.at_new (s : St) (o : AO) (A : Nat) : (s.new o).at A = if A = s.n then some o else s.at A := by
  have e : (s.new o).at A = if A < s.n + 1 then (HT.set (s.n + 1) s.h.t s.n o).get A else none := St.at_eq _ _
  rw [e, St.at_eq, HT.get_set _ _ _ _ _ (by omega)]
  by_cases h : A = s.n
  · subst h; simp
  · rw [if_neg h]
    by_cases h2 : A < s.n
    · rw [if_pos h2, if_pos (by omega), if_neg h]
    · rw [if_neg h2, if_neg (by omega), if_neg h]
theorem St.at_put (s : St) (_hl : s.h.length = s.n) (A : Nat) (o : AO) (B : Nat) (hA : A < s.n) : (s.put A o).at B = if B = A then some o else s.at B := by
  have e : (s.put A o).at B = if B < s.n then (HT.set (A + 1) s.h.t A o).get B else none := St.at_eq _ _
  rw [e, St.at_eq, HT.get_set _ _ _ _ _ (by omega)]
  by_cases h2 : B < s.n
  · rw [if_pos h2, if_pos h2]
  · rw [if_neg h2, if_neg h2, if_neg (by omega)]
structure LpR (ρ : Rho) (r : Lp) (r' : Loop) : Prop where
  state : r'.state = r.state
  pending : r'.pending = r.pending
  tmps : TR ρ r.t r'.tmps
  params : r'.params.toList = r.params
  assign : r'.assign = r.assign
  body : r'.body = r.body
  defers : ∃ x, ρ r.defers = some (r'.defers, x)
structure ER (ρ : Rho) (e e' : MapEntry) : Prop where
  key : e'.key = e.key
  kf : VE.flat e.key = true
  val : VR ρ e.val e'.val
  born : e'.born = e.born
inductive MR (ρ : Rho) : List MapEntry → List MapEntry → Prop
  | nil : MR ρ [] []
  | cons {e e' : MapEntry} {l l' : List MapEntry} (h : ER ρ e e') (k : MR ρ l l') : MR ρ (e :: l) (e' :: l')
theorem MR.mono {ρ ρ' : Rho} (hs : Sub ρ ρ') {l l' : List MapEntry} (h : MR ρ l l') : MR ρ' l l' := by
  induction h with
  | nil => exact .nil
  | cons h _ ih => exact .cons ⟨h.key, h.kf, h.val.mono hs, h.born⟩ ih
def OR [Memo] (C : Cx) (ρ : Rho) (A b : Nat) (x : Nat × Nat) (w : World) : AO → Prop
  | .map es clock => ∃ es' : Array MapEntry, w.heap[b]? = some (.map es' clock) ∧ MR ρ es es'.toList
  | .iter m since seen last => ∃ (m' : Nat) (y : Nat × Nat), ρ m = some (m', y) ∧ w.heap[b]? = some (.mapIter (some m') since seen.toArray last)
  | .cells c t op => ∃ (c' : Array Value) (t' : TypeId) (f : Nat × Nat), w.heap[b]? = some (.cells c' t' f) ∧ x.2 + c.length ≤ c'.size ∧ LR ρ c ((c'.toList.drop x.2).take c.length) ∧
      (C.ro ≤ A → t' = t ∧ (op = false → x.1 = 0) ∧ c'.size = c.length + x.1 * C.P.cellsOf t ∧ ∀ i, i < c'.size → ¬ (f.1 ≤ i ∧ i < f.2))
  | .dead => True
  | .loop r => ∃ r' : Loop, w.heap[b]? = some (.loop r') ∧ LpR ρ r r' ∧ C.okc r.assign = true ∧ C.okc r.body = true
  | .defd (some []) => w.heap[b]? = some (.deferred (some []))
  | .defd none => ∃ d, w.heap[b]? = some (.deferred d)
  | .defd (some _) => False
theorem OR.later [Memo] {C : Cx} {ρ ρ' : Rho} {A b : Nat} {x : Nat × Nat} {w w' : World} (hs : Sub ρ ρ') (hh : w'.heap[b]? = w.heap[b]?) : ∀ {o : AO}, OR C ρ A b x w o → OR C ρ' A b x w' o
  | .cells _ _ _, ⟨c', t', f, h1, h2, h3, h4⟩ => ⟨c', t', f, hh.trans h1, h2, h3.mono hs, h4⟩
  | .map _ _, ⟨es', h1, h2⟩ => ⟨es', hh.trans h1, h2.mono hs⟩
  | .iter _ _ _ _, ⟨m', y, h1, h2⟩ => ⟨m', y, hs _ _ h1, hh.trans h2⟩
  | .dead, _ => trivial
  | .loop _, ⟨r', h1, h2, h3⟩ => ⟨r', hh.trans h1, ⟨h2.state, h2.pending, h2.tmps.mono hs, h2.params, h2.assign, h2.body, h2.defers.imp fun _ e => hs _ _ e⟩, h3⟩
  | .defd (some []), h => hh.trans h
  | .defd none, ⟨d, h⟩ => ⟨d, hh.trans h⟩
  | .defd (some (_ :: _)), h => h.elim
structure Rel [Memo] (C : Cx) (ρ : Rho) (s : St) (w : World) : Prop where
  len : s.h.length = s.n
  dom : ∀ A p, ρ A = some p → A < s.n
  lt : ∀ A b x, ρ A = some (b, x) → b < w.heap.size
  obj : ∀ A b x o, ρ A = some (b, x) → s.at A = some o → OR C ρ A b x w o
  sh : ∀ A b x, C.ro ≤ A → ρ A = some (b, x) → x.2 = 0
  inj : ∀ A A' b x x' o o', C.ro ≤ A → ρ A = some (b, x) → ρ A' = some (b, x') → s.at A = some o → s.at A' = some o' → A ≠ A' → o = .dead ∨ o' = .dead
  wr : ∀ A b x, C.ro ≤ A → ρ A = some (b, x) → C.base ≤ b
  low : C.base ≤ w.heap.size
  keep : Below C.base C.w0 w
  glob : ∀ g, g < C.P.globals.size → ρ g = some (g, 0, 0)
theorem Rel.drew [Memo] {C : Cx} {ρ : Rho} {s : St} {w : World} (h : Rel C ρ s w) : Rel C ρ s w.drew :=
  ⟨h.len, h.dom, h.lt, fun A b x o hA ho => (h.obj A b x o hA ho).later (Sub.refl _) rfl, h.sh, h.inj, h.wr, h.low, h.keep.drew, h.glob⟩
theorem Rel.lo [Memo] {C : Cx} {ρ : Rho} {s : St} {w : World} (h : Rel C ρ s w) (k : Nat) : Rel C ρ { s with lo := k } w :=
  ⟨h.len, h.dom, h.lt, h.obj, h.sh, h.inj, h.wr, h.low, h.keep, h.glob⟩
def upd (ρ : Rho) (A : Nat) (p : Nat × Nat × Nat) : Rho := fun B => if B = A then some p else ρ B
theorem upd_same (ρ : Rho) (A : Nat) (p : Nat × Nat × Nat) : upd ρ A p A = some p := by simp [upd]
theorem upd_other {ρ : Rho} {A B : Nat} (h : B ≠ A) (p : Nat × Nat × Nat) : upd ρ A p B = ρ B := by simp [upd, h]
theorem Rel.sub_new [Memo] {C : Cx} {ρ : Rho} {s : St} {w : World} (h : Rel C ρ s w) (p : Nat × Nat × Nat) : Sub ρ (upd ρ s.n p) := fun A q e => by
  rw [upd_other (by have := h.dom A q e; omega)]; exact e
theorem ext_new (ρ : Rho) (n : Nat) (p : Nat × Nat × Nat) : Ext n ρ (upd ρ n p) := fun A hA => upd_other (by omega) p
theorem Rel.sub [Memo] {C : Cx} {ρ ρ' : Rho} {s : St} {w : World} (h : Rel C ρ s w) (he : Ext s.n ρ ρ') : Sub ρ ρ' := fun A p e => by rw [he A (h.dom A p e)]; exact e
theorem heap_alloc_old {w : World} {o : Obj} {b : Nat} (h : b < w.heap.size) : (w.alloc o).heap[b]? = w.heap[b]? := Below.heap_alloc w o b h
theorem heap_alloc_self (w : World) (o : Obj) : (w.alloc o).heap[w.heap.size]? = some o := by show (w.heap.push o)[w.heap.size]? = some o; simp
theorem Rel.new [Memo] {C : Cx} {ρ : Rho} {s : St} {w : World} (h : Rel C ρ s w) (o : AO) (o' : Obj) (x : Nat)
    (ho : OR C (upd ρ s.n (w.heap.size, x, 0)) s.n w.heap.size (x, 0) (w.alloc o') o) (hg : C.P.globals.size ≤ s.n) :
    Rel C (upd ρ s.n (w.heap.size, x, 0)) (s.new o) (w.alloc o') := by
  have hs := h.sub_new (w.heap.size, x, 0)
  refine ⟨by simp [St.new, h.len], fun A p e => ?_, fun A b y e => ?_, fun A b y u e hu => ?_, fun A b y hr e => ?_, fun A A' b y y' u u' hr e e' hu hu' hne => ?_, fun A b y hr e => ?_, ?_, h.keep.alloc h.low o', fun g hgl => ?_⟩
  · by_cases hA : A = s.n
    · subst hA; simp [St.new]
    · rw [upd_other hA] at e; have := h.dom A p e; simp [St.new]; omega
  · by_cases hA : A = s.n
    · subst hA; rw [upd_same] at e; cases e; simp
    · rw [upd_other hA] at e; have := h.lt A b y e; simp; omega
  · rw [St.at_new] at hu
    by_cases hA : A = s.n
    · subst hA; rw [upd_same] at e; cases e; simp at hu; subst hu; exact ho
    · rw [upd_other hA] at e; rw [if_neg hA] at hu
      exact (h.obj A b y u e hu).later hs (heap_alloc_old (h.lt A b y e))
  · by_cases hA : A = s.n
    · subst hA; rw [upd_same] at e; cases e; rfl
    · rw [upd_other hA] at e; exact h.sh A b y hr e
  · rw [St.at_new] at hu hu'
    by_cases hA : A = s.n
    · subst hA; rw [upd_same] at e; cases e
      rw [upd_other (Ne.symm hne)] at e'
      have := h.lt _ _ _ e'; omega
    · rw [upd_other hA] at e; rw [if_neg hA] at hu
      by_cases hA' : A' = s.n
      · subst hA'; rw [upd_same] at e'; cases e'
        have := h.lt _ _ _ e; omega
      · rw [upd_other hA'] at e'; rw [if_neg hA'] at hu'
        exact h.inj A A' b y y' u u' hr e e' hu hu' hne
  · by_cases hA : A = s.n
    · subst hA; rw [upd_same] at e; cases e; exact h.low
    · rw [upd_other hA] at e; exact h.wr A b y hr e
  · have := h.low; simp; omega
  · rw [upd_other (by omega)]; exact h.glob g hgl
theorem OR.ofNew [Memo] {C : Cx} {ρ : Rho} {s : St} {w : World} {c : List Value} {c' : Array Value} (hc : LR ρ c c'.toList) (t : TypeId) (hs : Sub ρ (upd ρ s.n (w.heap.size, 0, 0))) :
    OR C (upd ρ s.n (w.heap.size, 0, 0)) s.n w.heap.size (0, 0) (w.alloc (.cells c' t)) (.cells c t false) := by
  have hl := hc.len
  refine ⟨c', t, (0, 0), heap_alloc_self _ _, by simp [hl], ?_, fun _ => ⟨rfl, fun _ => rfl, by simp [hl], fun i _ => by simp⟩⟩
  simp only [List.drop_zero]
  rw [List.take_of_length_le (by rw [hl]; exact Nat.le_refl _)]
  exact hc.mono hs
theorem Rel.block [Memo] {C : Cx} {ρ : Rho} {s : St} {w : World} (h : Rel C ρ s w) {A b : Nat} {x : Nat × Nat} (hA : ρ A = some (b, x)) {c : List Value} (hc : acells (s.at A) = some c) :
    ∃ (c' : Array Value) (t t' : TypeId) (f : Nat × Nat) (op : Bool), s.at A = some (.cells c t op) ∧ w.heap[b]? = some (.cells c' t' f) ∧ x.2 + c.length ≤ c'.size ∧ LR ρ c ((c'.toList.drop x.2).take c.length) ∧
      (C.ro ≤ A → x.2 = 0 ∧ t' = t ∧ (op = false → x.1 = 0) ∧ c'.size = c.length + x.1 * C.P.cellsOf t ∧ ∀ i, i < c'.size → ¬ (f.1 ≤ i ∧ i < f.2)) := by
  cases hs : s.at A with
  | none => rw [hs] at hc; simp [acells] at hc
  | some o =>
    rw [hs] at hc
    cases o with
    | cells d t op =>
      simp [acells] at hc; subst hc
      obtain ⟨c', t', f, h1, h2, h3, h4⟩ := h.obj A b x _ hA hs
      exact ⟨c', t, t', f, op, rfl, h1, h2, h3, fun hr => ⟨h.sh A b x hr hA, h4 hr⟩⟩
    | dead => simp [acells] at hc
    | loop l => simp [acells] at hc
    | defd c => simp [acells] at hc
    | map _ _ => simp [acells] at hc
    | iter _ _ _ _ => simp [acells] at hc
theorem cell_of {w : World} {b : Nat} {c' : Array Value} {t : TypeId} {f : Nat × Nat} (h : w.heap[b]? = some (.cells c' t f)) (i : Nat) : w.cell? ⟨b, i, none⟩ = c'[i]? := by
  simp [World.cell?, h]
theorem addr_add (b o n : Nat) : (⟨b, o, none⟩ : Addr).add n = ⟨b, o + n, none⟩ := by
  unfold Addr.add
  split
  · rename_i h; subst h; rfl
  · rfl
theorem run_loadCellsFrom {P : Program} {w : World} {b o : Nat} {c' : Array Value} {t : TypeId} {f : Nat × Nat} (h : w.heap[b]? = some (.cells c' t f)) :
    ∀ (n i : Nat) (acc : Array Value), o + i + n ≤ c'.size → (loadCellsFrom ⟨b, o, none⟩ i n acc).run P w = .ok (acc ++ ((c'.toList.drop (o + i)).take n).toArray) w
  | 0, i, acc, hl => by simp [loadCellsFrom]
  | n + 1, i, acc, hl => by
    have hlt : o + i < c'.size := by omega
    simp only [loadCellsFrom, Sem.run_bind, run_load, addr_add, cell_of h, Array.getElem?_eq_getElem hlt, Result.andThen_ok]
    rw [run_loadCellsFrom h n (i + 1) _ (by omega)]
    have e : (c'.toList.drop (o + i)).take (n + 1) = c'[o + i] :: (c'.toList.drop (o + (i + 1))).take n := by
      rw [List.drop_eq_getElem_cons (by simpa using hlt), List.take_succ_cons]; rfl
    rw [e]
    congr 1
    apply Array.ext'
    simp
theorem Rel.more [Memo] {C : Cx} {ρ : Rho} {s s0 : St} {w : World} (h : Rel C ρ s w) (hn : s.n ≤ s0.n) (hl : s0.h.length = s0.n) (hs : ∀ A, A < s.n → s0.at A = s.at A) : Rel C ρ s0 w :=
  ⟨hl, fun A p e => Nat.lt_of_lt_of_le (h.dom A p e) hn, h.lt, fun A b x o hA ho => h.obj A b x o hA (by rw [← hs A (h.dom A _ hA)]; exact ho), h.sh,
   fun A A' b x x' o o' hr e e' ho ho' hne => h.inj A A' b x x' o o' hr e e' (by rw [← hs A (h.dom A _ e)]; exact ho) (by rw [← hs A' (h.dom A' _ e')]; exact ho') hne, h.wr, h.low, h.keep, h.glob⟩
theorem Rel.below [Memo] {C : Cx} {ρ : Rho} {s : St} {w w' : World} (h : Rel C ρ s w) (hB : Below w.heap.size w w') : Rel C ρ s w' :=
  ⟨h.len, h.dom, fun A b x e => Nat.lt_of_lt_of_le (h.lt A b x e) hB.size, fun A b x o e ho => (h.obj A b x o e ho).later (Sub.refl _) (hB.block b (h.lt A b x e)), h.sh, h.inj, h.wr, Nat.le_trans h.low hB.size, h.keep.trans (hB.mono h.low), h.glob⟩
end Go.VE
/- Loads, stores and new blocks: the evaluator's against the machine's. -/
namespace Go.VE
open Go Go.RowKit
theorem run_isAgg' {P : Program} {t : TypeId} {d : TypeDesc} (h : P.underlying t = some d) (w : World) : (isAgg t).run P w = .ok (isAggD d) w := by
  simp only [isAgg, Sem.run_bind, run_underlying h, Result.andThen_ok]
  cases d <;> rfl
theorem run_sizeOf' {P : Program} {t : TypeId} {i : TypeInfo} (h : P.info? t = some i) (w : World) : (sizeOf t).run P w = .ok i.size w := by
  simp [sizeOf, typeInfo, h]
theorem isz_info {P : Program} {t : TypeId} {n : Nat} (h : isz P t = some n) : ∃ i, P.info? t = some i ∧ i.size = n := by
  unfold isz at h
  cases hi : P.info? t with
  | none => rw [hi] at h; simp at h
  | some i => rw [hi] at h; exact ⟨i, rfl, by simpa using h⟩
theorem cut_some {c : List Value} {o n : Nat} {l : List Value} (h : cut c o n = some l) : o + n ≤ c.length ∧ l = (c.drop o).take n := by
  unfold cut at h
  cases hb : Nat.ble (o + n) c.length with
  | false => rw [hb] at h; simp at h
  | true => rw [hb] at h; simp at h; exact ⟨Nat.le_of_ble_eq_true hb, h.symm⟩
theorem take_drop_take (c : List Value) (k o n : Nat) (h : o + n ≤ k) : ((c.take k).drop o).take n = (c.drop o).take n := by
  rw [List.drop_take, List.take_take, Nat.min_eq_left (by omega)]
theorem load_sound [Memo] {C : Cx} {ρ : Rho} {s : St} {w : World} (h : Rel C ρ s w) {t : TypeId} {v v' u : Value} (hv : VR ρ v v') (e : aload C.P s t v = some u) :
    ∃ u', (Instr.loadAt t v').run C.P w = .ok u' w ∧ VR ρ u u' := by
  unfold aload at e
  split at e
  case h_2 => simp at e
  case h_1 A o =>
    obtain ⟨b, x, hA, rfl⟩ := hv.ptr_inv
    cases hc : acells (s.at A) with
    | none => rw [hc] at e; simp at e
    | some c =>
      rw [hc] at e
      simp only [Option.bind_some] at e
      obtain ⟨c', tt, tt', f, op, _, hb, hsz, hl, _⟩ := h.block hA hc
      unfold apart at e
      cases hi : C.P.info? t with
      | none => rw [hi] at e; simp at e
      | some i =>
        cases hd : C.P.underlying t with
        | none => rw [hi, hd] at e; simp at e
        | some d =>
          rw [hi, hd] at e
          simp only at e
          cases hg : isAggD d with
          | true =>
            rw [hg] at e
            simp only [cond_true, Option.map_eq_some_iff] at e
            obtain ⟨l, hl', rfl⟩ := e
            obtain ⟨hle, rfl⟩ := cut_some hl'
            refine ⟨.agg ((c'.toList.drop (o + x.2)).take i.size).toArray, ?_, ?_⟩
            · have hr := run_loadCellsFrom (P := C.P) (w := w) (o := o + x.2) hb i.size 0 #[] (by omega)
              simp only [Instr.loadAt, Instr.sureAddr, Sem.run_bind, Sem.run_pure, Result.andThen_ok, loadVar, run_isAgg' hd, hg, if_true, run_sizeOf' hi, loadCells, hr]
              simp
            · have := ((hl.drop o).take i.size)
              rw [take_drop_take _ _ _ _ hle, List.drop_drop, Nat.add_comm] at this
              exact VR.aggL this
          | false =>
            rw [hg] at e
            simp only [cond_false] at e
            obtain ⟨u', hu', hr⟩ := hl.getOpt e
            rw [List.getElem?_take] at hu'
            split at hu'
            · refine ⟨u', ?_, hr⟩
              simp only [Instr.loadAt, Instr.sureAddr, Sem.run_bind, Sem.run_pure, Result.andThen_ok, loadVar, run_isAgg' hd, hg, Bool.false_eq_true, if_false, run_load]
              have : c'[o + x.2]? = some u' := by rw [List.getElem?_drop, Nat.add_comm] at hu'; rw [← Array.getElem?_toList]; exact hu'
              rw [cell_of hb, this]
            · simp at hu'
theorem splice_length {c l : List Value} {o : Nat} (h : o + l.length ≤ c.length) : (splice c o l).length = c.length := by
  unfold splice; simp; omega
theorem splice_take {c l : List Value} {o k : Nat} (h : o + l.length ≤ k) (hk : k ≤ c.length) : (splice c o l).take k = splice (c.take k) o l := by
  unfold splice
  rw [List.take_append, List.take_append, List.take_take, List.take_take]
  have e1 : min k o = o := by omega
  have e2 : min o k = o := by omega
  rw [e1, e2]
  congr 1
  have e3 : (c.take o).length = o := by simp; omega
  rw [e3, List.take_of_length_le (by omega)]
  congr 1
  rw [List.drop_take]
  congr 1
  omega
theorem splice_cons {c l : List Value} {o : Nat} {v : Value} (h : o < c.length) : splice (c.set o v) (o + 1) l = splice c o (v :: l) := by
  unfold splice
  have e1 : (c.set o v).take (o + 1) = c.take o ++ [v] := by
    rw [List.take_add_one, List.take_set_of_le (Nat.le_refl _)]
    simp [h]
  have e2 : (c.set o v).drop (o + 1 + l.length) = c.drop (o + (v :: l).length) := by
    rw [List.drop_set_of_lt (by omega)]
    congr 1
    simp; omega
  rw [e1, e2]
  simp
theorem splice_nil (c : List Value) (o : Nat) : splice c o [] = c := by simp [splice]
theorem run_storeCells' {P : Program} {b o : Nat} {t : TypeId} {f : Nat × Nat} : ∀ (vs : List Value) (i : Nat) (cur : Array Value) (w : World), w.heap[b]? = some (.cells cur t f) →
    o + i + vs.length ≤ cur.size → (∀ j, j < cur.size → ¬ (f.1 ≤ j ∧ j < f.2)) → (∀ v ∈ vs, v.oneCell' = true) →
    (storeCells ⟨b, o, none⟩ vs i).run P w = .ok () (w.setRow b (splice cur.toList (o + i) vs).toArray)
  | [], i, cur, w, hg, hl, hf, _ => by
    have hlt : b < w.heap.size := (Array.getElem?_eq_some_iff.1 hg).1
    have hv : w.heap[b] = .cells cur t f := (Array.getElem?_eq_some_iff.1 hg).2
    simp only [storeCells, splice_nil]
    show Result.ok () w = _
    congr 1
    unfold World.setRow
    cases w with
    | mk heap tape drawn os output =>
      congr 1
      apply Array.ext
      · simp
      · intro k h1 h2
        simp only [Array.getElem_modify]
        split
        · rename_i hk; subst hk; simp at hv; simp [hv]
        · rfl
  | v :: rest, i, cur, w, hg, hl, hf, h1 => by
    simp only [List.length_cons] at hl
    have hi : o + i < cur.size := by omega
    have hcell : w.cell? ⟨b, o + i, none⟩ = some cur[o + i] := by simp [World.cell?, hg, hi]
    have hfro : w.frozen? ⟨b, o + i, none⟩ = false := by
      simp only [World.frozen?, hg]
      have := hf (o + i) hi
      cases f with
      | mk lo hh => simp at this ⊢; exact this
    have hst : (store ((⟨b, o, none⟩ : Addr).add i) v).run P w = .ok () (w.setRow b (cur.setIfInBounds (o + i) v)) := by
      rw [addr_add, run_store P w _ v _ (h1 v (by simp)), hcell]
      simp [hfro, setCell_eq_setRow w b (o + i) cur t f v hg]
    have ih := run_storeCells' (P := P) (o := o) rest (i + 1) (cur.setIfInBounds (o + i) v) (w.setRow b (cur.setIfInBounds (o + i) v)) (setRow_heap w b cur _ t f hg) (by simp; omega)
      (fun j hj => hf j (by simpa using hj)) (fun x hx => h1 x (by simp [hx]))
    simp only [storeCells, Sem.run_bind, hst, Result.andThen_ok, ih, setRow_setRow]
    congr 3
    rw [Array.toList_setIfInBounds, ← splice_cons (by simpa using hi)]
    rfl
theorem Below.setRow {B : Nat} {a w : World} (h : Below B a w) {g : Nat} (hg : B ≤ g) (cs : Array Value) : Below B a (w.setRow g cs) :=
  h.trans ⟨rfl, rfl, rfl, by simp, fun k hk => setRow_other w g k cs (by omega)⟩
theorem Rel.putCells [Memo] {C : Cx} {ρ : Rho} {s : St} {w : World} (h : Rel C ρ s w) {A b : Nat} {x : Nat × Nat} (hA : ρ A = some (b, x)) (hro : C.ro ≤ A) {c c₂ : List Value} {c' c₂' : Array Value} {t : TypeId} {f : Nat × Nat} {op : Bool}
    (hs : s.at A = some (.cells c t op)) (hb : w.heap[b]? = some (.cells c' t f)) (ho : OR C ρ A b x (w.setRow b c₂') (.cells c₂ t op)) : Rel C ρ (s.put A (.cells c₂ t op)) (w.setRow b c₂') := by
  have hAn := St.at_lt hs
  refine ⟨by simp [St.put, h.len], fun B p e => h.dom B p e, fun B d y e => by simpa using h.lt B d y e, fun B d y u e hu => ?_, h.sh, fun B B' d y y' u u' hr e e' hu hu' hne => ?_, h.wr, by simpa using h.low, Below.setRow h.keep (h.wr A b x hro hA) _, h.glob⟩
  · rw [St.at_put s h.len A _ B hAn] at hu
    by_cases hB : B = A
    · subst hB; rw [hA] at e; cases e; simp at hu; subst hu; exact ho
    · rw [if_neg hB] at hu
      by_cases hd : d = b
      · subst hd
        rcases h.inj A B d x y _ u hro hA e hs hu (Ne.symm hB) with hh | hh
        · cases hh
        · subst hh; trivial
      · exact (h.obj B d y u e hu).later (Sub.refl _) (setRow_other w b d c₂' hd)
  · rw [St.at_put s h.len A _ _ hAn] at hu hu'
    have tr : ∀ {D : Nat} {z : AO}, (if D = A then some (AO.cells c₂ t op) else s.at D) = some z → ∃ z', s.at D = some z' ∧ (z' = .dead → z = .dead) := by
      intro D z hz
      by_cases hD : D = A
      · subst hD; exact ⟨_, hs, fun hh => by cases hh⟩
      · rw [if_neg hD] at hz; exact ⟨z, hz, id⟩
    obtain ⟨z, hz, k1⟩ := tr hu
    obtain ⟨z', hz', k2⟩ := tr hu'
    exact (h.inj B B' d y y' z z' hr e e' hz hz' hne).imp k1 k2
theorem write_sound [Memo] {C : Cx} {ρ : Rho} {s s' : St} {w : World} (h : Rel C ρ s w) {A b o : Nat} {x : Nat × Nat} (hA : ρ A = some (b, x)) {l l' : List Value} (hl : LR ρ l l') (e : awrite C.ro s A o l = some s') :
    ∃ w', (storeCells ⟨b, o + x.2, none⟩ l').run C.P w = .ok () w' ∧ Rel C ρ s' w' := by
  unfold awrite at e
  cases l with
  | nil => cases e; rw [hl.nil_inv]; exact ⟨w, rfl, h⟩
  | cons v0 r0 =>
    simp only at e
    generalize v0 :: r0 = l at e hl
    cases hs : s.at A with
    | none => rw [hs] at e; simp [awriteIn] at e
    | some o' =>
      rw [hs] at e
      cases o' with
      | dead => simp [awriteIn] at e
      | loop _ => simp [awriteIn] at e
      | defd _ => simp [awriteIn] at e
      | map _ _ => simp [awriteIn] at e
      | iter _ _ _ _ => simp [awriteIn] at e
      | cells c t op =>
        unfold awriteIn at e
        cases hb : (Nat.ble C.ro A && (Nat.ble (o + l.length) c.length && l.all (·.oneCell'))) with
        | false => simp only [hb, cond_false] at e; cases e
        | true =>
          simp only [hb, cond_true] at e
          simp only [Option.some.injEq] at e
          subst e
          simp only [Bool.and_eq_true] at hb
          obtain ⟨h1, h2, h3⟩ := hb
          have hro := Nat.le_of_ble_eq_true h1
          have hle := Nat.le_of_ble_eq_true h2
          obtain ⟨c', tt, tt', f, op', hs', hblk, _, hlr, hro4⟩ := h.block hA (c := c) (by rw [hs]; rfl)
          rw [hs] at hs'; cases hs'
          obtain ⟨hsh, rfl, hop, hsz, hfz⟩ := hro4 hro
          have hll := hl.len
          rw [hsh] at hlr ⊢
          simp only [List.drop_zero] at hlr
          rw [Nat.add_zero]
          refine ⟨_, run_storeCells' (P := C.P) (o := o) l' 0 c' w hblk (by omega) hfz (hl.oneCells h3), ?_⟩
          refine h.putCells hA hro hs hblk ⟨_, tt', f, setRow_heap w b c' _ tt' f hblk, ?_, ?_, fun _ => ⟨rfl, hop, ?_, ?_⟩⟩
          · simp only [List.size_toArray, Nat.add_zero, hsh, Nat.zero_add]
            rw [splice_length hle, splice_length (by simp; omega)]
            simp; omega
          · simp only [Nat.add_zero, hsh, List.drop_zero]
            rw [splice_length hle, splice_take (by omega) (by simp; omega)]
            exact hlr.splice hl o
          · simp only [List.size_toArray, Nat.add_zero]
            rw [splice_length (by simp; omega), splice_length hle]
            simpa using hsz
          · intro i hi
            refine hfz i ?_
            simp only [List.size_toArray, Nat.add_zero] at hi
            rw [splice_length (by simp; omega)] at hi
            simpa using hi
theorem store_sound [Memo] {C : Cx} {ρ : Rho} {s s' : St} {w : World} (h : Rel C ρ s w) {t : TypeId} {a a' v v' : Value} (ha : VR ρ a a') (hv : VR ρ v v') (e : astore C.P C.ro s t a v = some s') :
    ∃ w', (Instr.storeAt t a' v').run C.P w = .ok () w' ∧ Rel C ρ s' w' := by
  unfold astore at e
  split at e
  case h_2 => cases e
  case h_1 A o n hn =>
    cases hb : Nat.beq n v.cells.size with
    | false => simp only [hb, cond_false] at e; cases e
    | true =>
      simp only [hb, cond_true] at e
      obtain ⟨b, x, hA, rfl⟩ := ha.ptr_inv
      obtain ⟨i, hi, hin⟩ := isz_info hn
      obtain ⟨w', hw, hr⟩ := write_sound h hA hv.cells e
      refine ⟨w', ?_, hr⟩
      have hlen := hv.cells.len
      simp only [Array.length_toList] at hlen
      have hn' : n = v.cells.size := Nat.eq_of_beq_eq_true hb
      simp only [Instr.storeAt, Instr.sureAddr, Sem.run_bind, Sem.run_pure, Result.andThen_ok, storeVar, run_sizeOf' hi]
      rw [if_neg (by rw [← hlen, ← hn', hin]; simp)]
      simpa using hw
end Go.VE
/- The operations without memory: the evaluator's against the machine's. -/
namespace Go.VE
open Go Go.RowKit
theorem flat'_flat {v : Value} (h : flat' v = true) : VE.flat v = true := by
  unfold flat' at h
  cases v <;> simp_all [scal, VE.flat]
theorem aval_sound [Memo] {C : Cx} {ρ : Rho} {s : St} {w : World} (h : Rel C ρ s w) {t : Tr} {a : Act} (ht : TR ρ t a.tmps) (x : Operand) (hx : okX C.P x = true) : VR ρ (aval t x) (a.eval x) := by
  cases x with
  | tmp i => exact ht.get i
  | const v => exact .flat _ (flat'_flat hx)
  | global g =>
    have hg : g < C.P.globals.size := Nat.blt_eq.mp hx
    exact .ptr 0 (h.glob g hg)
  | func f => exact .flat _ rfl
def OpR [Memo] (C : Cx) (ρ : Rho) (t : Tr) (a : Act) : Prop := ∀ x, okX C.P x = true → VR ρ (aval t x) (a.eval x)
def DR (ρ : Rho) (d d' : Deferred) : Prop :=
  match d.target, d'.target with
  | .fn (.func k) cap, .fn (.func k') cap' => k' = k ∧ LR ρ cap.toList cap'.toList ∧ LR ρ d.args.toList d'.args.toList
  | .collected r, .collected b => ∃ x, ρ r = some (b, x)
  | _, _ => False
def NR [Memo] (C : Cx) (ρ : Rho) : AR → Next → Prop
  | .val v, .value v' => VR ρ v v'
  | .skip, .skip => True
  | .enter f args, .enter f' args' => f' = f ∧ LR ρ args args'.toList
  | .round l t assign body, .round b _ tmps assign' body' => (∃ x, ρ l = some (b, x)) ∧ TR ρ t tmps ∧ (assign' = assign ∧ body' = body) ∧ C.okc assign = true ∧ C.okc body = true
  | .dfr d, .defer d' => DR ρ d d'
  | _, _ => False
def Does [Memo] (C : Cx) (n0 : Nat) (ρ : Rho) (w : World) (m : Sem Next) (r : AR) (s' : St) : Prop :=
  ∃ (n : Next) (ρ' : Rho) (w' : World), m.run C.P w = .ok n w' ∧ Ext n0 ρ ρ' ∧ Rel C ρ' s' w' ∧ NR C ρ' r n
theorem Does.same [Memo] {C : Cx} {ρ : Rho} {s : St} {w : World} (h : Rel C ρ s w) {m : Sem Next} {v v' : Value} (hm : m.run C.P w = .ok (.value v') w) (hv : VR ρ v v') : Does C s.n ρ w m (.val v) s :=
  ⟨_, ρ, w, hm, Ext.refl _ _, h, hv⟩
theorem pure_sound [Memo] {C : Cx} {ρ : Rho} {s s' : St} {w : World} (h : Rel C ρ s w) {t : Tr} {a : Act} {o : Oper} {r : AR} (he : execOp a.eval o = execOp (aval t) o)
    (e : resSt s (apure C.P t o) = some (r, s')) : Does C s.n ρ w (execOp a.eval o) r s' := by
  unfold resSt at e
  split at e
  case h_2 => cases e
  case h_1 r' hr =>
    cases e
    unfold apure at hr
    split at hr
    case h_2 => cases hr
    case h_1 v hv =>
      unfold purely at hr
      cases hf : flat' v with
      | false => rw [hf] at hr; cases hr
      | true =>
        rw [hf] at hr; cases hr
        exact Does.same h (by rw [he]; exact runPure_ok _ hv w) (.flat _ (flat'_flat hf))
theorem keq_eq {k k' : IntKind} (h : keq k k' = true) : k = k' := by cases k <;> cases k' <;> simp_all [keq]
theorem runPure_intDiv {P : Program} {op : BinOp} {k : IntKind} {a b : Int} {v : Value} (h : runPure P (Op.intDiv op k a b) = some v) : ∃ n, v = .int k n := by
  unfold Op.intDiv at h
  split at h
  · simp [runtimePanic, program, goPanic, runPure, Bind.bind, Sem.bind] at h
  · cases op <;> simp [stuck, runPure, Pure.pure] at h <;> exact ⟨_, h.symm⟩
theorem runPure_shift {P : Program} {op : BinOp} {k k' : IntKind} {a b : Int} {v : Value} (h : runPure P (Op.shift op k a k' b) = some v) : ∃ n, v = .int k n := by
  unfold Op.shift at h
  split at h
  · simp [runtimePanic, program, goPanic, runPure, Bind.bind, Sem.bind] at h
  · cases op <;> simp [stuck, runPure, Pure.pure] at h <;> exact ⟨_, h.symm⟩
theorem runPure_intBits {P : Program} {op : BinOp} {k : IntKind} {a b : Int} {v : Value} (h : runPure P (Op.intBits op k a b) = some v) : ∃ n, v = .int k n := by
  unfold Op.intBits at h
  cases op <;> simp [stuck, runPure, Pure.pure] at h <;> exact ⟨_, h.symm⟩
theorem binInt_sound {P : Program} {op : BinOp} {ty : TypeId} {x y : Operand} {k k' : IntKind} {a b : Int} {v : Value} (e : abinInt P op k a k' b = some v) (w : World) :
    (do eqGuard op ty x y (.int k a) (.int k' b); binOp op ty (.int k a) (.int k' b) : Sem Value).run P w = .ok v w ∧ VE.flat v = true := by
  have hq : (eqGuard op ty x y (.int k a) (.int k' b)).run P w = .ok () w := by
    unfold eqGuard
    cases op <;> rfl
  rw [Sem.run_bind, hq, Result.andThen_ok]
  have key : ∀ {β : Type} {b : Bool} {u : Option β} {z : β}, (bif b then u else none) = some z → b = true ∧ u = some z := by
    intro β b u z hh; cases b
    · cases hh
    · exact ⟨rfl, hh⟩
  cases op <;> simp only [abinInt] at e <;> (try (obtain ⟨hk, e2⟩ := key e; clear e; obtain rfl := keq_eq hk))
  case shl => obtain ⟨n, rfl⟩ := runPure_shift e; exact ⟨runPure_ok _ e w, rfl⟩
  case shr => obtain ⟨n, rfl⟩ := runPure_shift e; exact ⟨runPure_ok _ e w, rfl⟩
  case quo => obtain ⟨n, rfl⟩ := runPure_intDiv e2; exact ⟨by have := runPure_ok _ e2 w; simpa [binOp] using this, rfl⟩
  case rem => obtain ⟨n, rfl⟩ := runPure_intDiv e2; exact ⟨by have := runPure_ok _ e2 w; simpa [binOp] using this, rfl⟩
  case and => obtain ⟨n, rfl⟩ := runPure_intBits e2; exact ⟨by have := runPure_ok _ e2 w; simpa [binOp] using this, rfl⟩
  case or => obtain ⟨n, rfl⟩ := runPure_intBits e2; exact ⟨by have := runPure_ok _ e2 w; simpa [binOp] using this, rfl⟩
  case xor => obtain ⟨n, rfl⟩ := runPure_intBits e2; exact ⟨by have := runPure_ok _ e2 w; simpa [binOp] using this, rfl⟩
  case andNot => obtain ⟨n, rfl⟩ := runPure_intBits e2; exact ⟨by have := runPure_ok _ e2 w; simpa [binOp] using this, rfl⟩
  all_goals (cases e2; exact ⟨by simp [binOp, Op.intArith, Op.intCmp], rfl⟩)
theorem VR.slice_some {ρ : Rho} {a : Addr} {n c : Nat} {u' : Value} (h : VR ρ (.slice (some a) n c) u') : ∃ (a' : Addr) (c' : Nat), u' = .slice (some a') n c' := by
  cases h with
  | flat _ h => simp [VE.flat] at h
  | sl o n c h => exact ⟨_, _, rfl⟩
  | slo o n c h => exact ⟨_, _, rfl⟩
  | sle o o' c' h => exact ⟨_, _, rfl⟩
theorem VR.pointer_some {ρ : Rho} {a : Addr} {u' : Value} (h : VR ρ (.pointer (some a)) u') : ∃ (a' : Addr), u' = .pointer (some a') := by
  cases h with
  | flat _ h => simp [VE.flat] at h
  | ptr o h => exact ⟨_, rfl⟩
theorem VR.func_inv {ρ : Rho} {fn : Fn} {a c : Array Value} {u' : Value} (h : VR ρ (.func fn a c) u') : ∃ (fn' : Fn) (a' c' : Array Value), u' = .func fn' a' c' := by
  cases h with
  | flat _ h => exact ⟨_, _, _, rfl⟩
  | func fn hf as as' cs cs' => exact ⟨_, _, _, rfl⟩
  | yield h => exact ⟨_, _, _, rfl⟩
theorem aEqNil_cases {d : TypeDesc} {u v : Value} {b : Bool} (h : aEqNil (some d) u v = some b) : b = false ∧
    ((∃ e a n c n' c', d = .slice e ∧ u = .slice (some a) n c ∧ v = .slice none n' c') ∨ (∃ e a n c n' c', d = .slice e ∧ v = .slice (some a) n c ∧ u = .slice none n' c') ∨
     (∃ e a, d = .pointer e ∧ u = .pointer (some a) ∧ v = .pointer none) ∨ (∃ e a, d = .pointer e ∧ v = .pointer (some a) ∧ u = .pointer none) ∨
     (∃ p q z f a c, d = .func p q z ∧ u = .func f a c ∧ v = .nilFunc) ∨ (∃ p q z f a c, d = .func p q z ∧ v = .func f a c ∧ u = .nilFunc)) := by
  unfold aEqNil at h
  split at h
  · rename_i hd; cases hd; cases h; exact ⟨rfl, .inl ⟨_, _, _, _, _, _, rfl, rfl, rfl⟩⟩
  · rename_i hd; cases hd; cases h; exact ⟨rfl, .inr (.inl ⟨_, _, _, _, _, _, rfl, rfl, rfl⟩)⟩
  · rename_i hd; cases hd; cases h; exact ⟨rfl, .inr (.inr (.inl ⟨_, _, rfl, rfl, rfl⟩))⟩
  · rename_i hd; cases hd; cases h; exact ⟨rfl, .inr (.inr (.inr (.inl ⟨_, _, rfl, rfl, rfl⟩)))⟩
  · rename_i hd; cases hd; cases h; exact ⟨rfl, .inr (.inr (.inr (.inr (.inl ⟨_, _, _, _, _, _, rfl, rfl, rfl⟩))))⟩
  · rename_i hd; cases hd; cases h; exact ⟨rfl, .inr (.inr (.inr (.inr (.inr ⟨_, _, _, _, _, _, rfl, rfl, rfl⟩))))⟩
  · cases h
theorem eqNil_sound [Memo] {C : Cx} {ρ : Rho} {w : World} {op : BinOp} {ty : TypeId} {x y : Operand} {u v u' v' r : Value} (hu : VR ρ u u') (hv : VR ρ v v') (e : aeqNil C.P op ty u v = some r) :
    (do eqGuard op ty x y u' v'; binOp op ty u' v' : Sem Value).run C.P w = .ok r w ∧ VE.flat r = true := by
  have e0 : ∃ d, C.P.underlying ty = some d ∧ aEqNil (some d) u v = some false ∧ ((op = .eql ∧ r = .bool false) ∨ (op = .neq ∧ r = .bool true)) := by
    unfold aeqNil at e
    cases hd : C.P.underlying ty with
    | none => rw [hd] at e; cases op <;> simp [aEqNil] at e
    | some d =>
      rw [hd] at e
      refine ⟨d, rfl, ?_⟩
      cases hq : aEqNil (some d) u v with
      | none => rw [hq] at e; cases op <;> simp at e
      | some b =>
        obtain rfl := (aEqNil_cases hq).1
        rw [hq] at e
        cases op <;> simp at e
        · exact ⟨rfl, .inl ⟨rfl, e.symm⟩⟩
        · exact ⟨rfl, .inr ⟨rfl, e.symm⟩⟩
  obtain ⟨d, hd, hq, hop⟩ := e0
  have hund : ∀ w, (underlying ty).run C.P w = .ok d w := run_underlying hd
  have fin : (Op.equal ty u' v').run C.P w = .ok false w → (∀ op', (eqGuard op' ty x y u' v').run C.P w = .ok () w) →
      binOp .eql ty u' v' = (do pure (.bool (← Op.equal ty u' v'))) → binOp .neq ty u' v' = (do pure (.bool (!(← Op.equal ty u' v')))) →
      (do eqGuard op ty x y u' v'; binOp op ty u' v' : Sem Value).run C.P w = .ok r w ∧ VE.flat r = true := by
    intro h1 h2 h3 h4
    rcases hop with ⟨rfl, rfl⟩ | ⟨rfl, rfl⟩
    · exact ⟨by rw [Sem.run_bind, h2, Result.andThen_ok, h3, Sem.run_bind, h1]; rfl, rfl⟩
    · exact ⟨by rw [Sem.run_bind, h2, Result.andThen_ok, h4, Sem.run_bind, h1]; rfl, rfl⟩
  have grd : ∀ (op' : BinOp) (p q : Value), (∀ a, p ≠ .agg a) → p ≠ .nilIface → (eqGuard op' ty x y p q).run C.P w = .ok () w := by
    intro op' p q h1 h2
    unfold eqGuard
    cases op' <;> first | rfl | (cases p <;> first | rfl | exact absurd rfl (h1 _) | exact absurd rfl h2)
  rcases (aEqNil_cases hq).2 with ⟨e, a, n, c, n', c', rfl, rfl, rfl⟩ | ⟨e, a, n, c, n', c', rfl, rfl, rfl⟩ | ⟨e, a, rfl, rfl, rfl⟩ | ⟨e, a, rfl, rfl, rfl⟩ | ⟨p, q, z, f, a, c, rfl, rfl, rfl⟩ | ⟨p, q, z, f, a, c, rfl, rfl, rfl⟩
  · obtain ⟨a', cc, rfl⟩ := hu.slice_some
    obtain rfl := hv.flat_eq rfl
    exact fin ((fun k => (by simp [Op.equalIn, hund] : (Op.equalIn (k + 1) ty _ _).run C.P w = .ok false w)) 9999) (fun op' => grd op' _ _ (by simp) (by simp)) rfl rfl
  · obtain ⟨a', cc, rfl⟩ := hv.slice_some
    obtain rfl := hu.flat_eq rfl
    exact fin ((fun k => (by simp [Op.equalIn, hund] : (Op.equalIn (k + 1) ty _ _).run C.P w = .ok false w)) 9999) (fun op' => grd op' _ _ (by simp) (by simp)) rfl rfl
  · obtain ⟨a', rfl⟩ := hu.pointer_some
    obtain rfl := hv.flat_eq rfl
    exact fin ((fun k => (by simp [Op.equalIn, hund] : (Op.equalIn (k + 1) ty _ _).run C.P w = .ok false w)) 9999) (fun op' => grd op' _ _ (by simp) (by simp)) rfl rfl
  · obtain ⟨a', rfl⟩ := hv.pointer_some
    obtain rfl := hu.flat_eq rfl
    exact fin ((fun k => (by simp [Op.equalIn, hund] : (Op.equalIn (k + 1) ty _ _).run C.P w = .ok false w)) 9999) (fun op' => grd op' _ _ (by simp) (by simp)) rfl rfl
  · obtain ⟨f', a', cc, rfl⟩ := hu.func_inv
    obtain rfl := hv.flat_eq rfl
    exact fin ((fun k => (by simp [Op.equalIn, hund] : (Op.equalIn (k + 1) ty _ _).run C.P w = .ok false w)) 9999) (fun op' => grd op' _ _ (by simp) (by simp)) rfl rfl
  · obtain ⟨f', a', cc, rfl⟩ := hv.func_inv
    obtain rfl := hu.flat_eq rfl
    exact fin ((fun k => (by simp [Op.equalIn, hund] : (Op.equalIn (k + 1) ty _ _).run C.P w = .ok false w)) 9999) (fun op' => grd op' _ _ (by simp) (by simp)) rfl rfl
end Go.VE
/- Structs, arrays, places and new blocks: the evaluator's against the machine's. -/
namespace Go.VE
open Go Go.RowKit
theorem part_sound {P : Program} {ρ : Rho} {t : TypeId} {cs : List Value} {cs' : Array Value} {off : Nat} {u : Value} (hl : LR ρ cs cs'.toList) (e : apart P t cs off = some u) (w : World) :
    ∃ u', (part t cs' off).run P w = .ok u' w ∧ VR ρ u u' := by
  unfold apart at e
  cases hi : P.info? t with
  | none => rw [hi] at e; simp at e
  | some i =>
    cases hd : P.underlying t with
    | none => rw [hi, hd] at e; simp at e
    | some d =>
      rw [hi, hd] at e
      simp only at e
      cases hg : isAggD d with
      | true =>
        rw [hg] at e
        simp only [cond_true, Option.map_eq_some_iff] at e
        obtain ⟨l, hl', rfl⟩ := e
        obtain ⟨hle, rfl⟩ := cut_some hl'
        refine ⟨.agg (cs'.extract off (off + i.size)), ?_, ?_⟩
        · simp [part, run_isAgg' hd, hg, run_sizeOf' hi]
        · have e1 : cs'.extract off (off + i.size) = ((cs'.toList.drop off).take i.size).toArray := by
            apply Array.ext'
            simp [List.extract_eq_take_drop]
          rw [e1]
          exact VR.aggL ((hl.drop off).take i.size)
      | false =>
        rw [hg] at e
        simp only [cond_false] at e
        obtain ⟨u', hu', hr⟩ := hl.getOpt e
        refine ⟨u', ?_, hr⟩
        have : cs'[off]? = some u' := by rw [← Array.getElem?_toList]; exact hu'
        simp [part, run_isAgg' hd, hg, this]
theorem bind_some {α β : Type} {x : Option α} {f : α → Option β} {b : β} (h : x.bind f = some b) : ∃ a, x = some a ∧ f a = some b := by
  cases x with
  | none => cases h
  | some a => exact ⟨a, rfl, h⟩
theorem withSt_some {s s' : St} {x : Option Value} {r : AR} (h : withSt s x = some (r, s')) : ∃ v, x = some v ∧ r = .val v ∧ s' = s := by
  cases x with
  | none => cases h
  | some v => cases h; exact ⟨v, rfl, rfl, rfl⟩
theorem field_sound {P : Program} {ρ : Rho} {t : TypeId} {x x' u : Value} {f : Nat} (hx : VR ρ x x') (e : afield P t x f = some u) (w : World) : ∃ u', (Instr.field t x' f).run P w = .ok u' w ∧ VR ρ u u' := by
  unfold afield at e
  split at e
  case h_2 => cases e
  case h_1 fs cs hd =>
    obtain ⟨fd, hf, e⟩ := bind_some e
    obtain ⟨l', rfl, hl⟩ := hx.agg_inv
    obtain ⟨u', h1, h2⟩ := part_sound (P := P) (cs' := ⟨l'⟩) hl e w
    refine ⟨u', ?_, h2⟩
    have hf' : fs[f]? = some fd := by rw [← Array.getElem?_toList]; exact hf
    simp [Instr.field, run_underlying hd, hf', asAgg, h1]
theorem fieldAddr_sound {P : Program} {ρ : Rho} {t : TypeId} {x x' u : Value} {f : Nat} (hx : VR ρ x x') (e : afieldAddr P t x f = some u) (w : World) : ∃ u', (Instr.fieldAt t x' f).run P w = .ok u' w ∧ VR ρ u u' := by
  unfold afieldAddr at e
  split at e
  case h_2 => cases e
  case h_1 fs A o hd =>
    obtain ⟨fd, hf, e⟩ := bind_some e
    obtain ⟨b, y, hA, rfl⟩ := hx.ptr_inv
    have hf' : fs[f]? = some fd := by rw [← Array.getElem?_toList]; exact hf
    split at e
    case h_2 => cases e
    case h_1 n hz =>
      cases e
      obtain ⟨i, hi, hin⟩ := isz_info hz
      refine ⟨.pointer (some ⟨b, o + fd.offset + y.2, none⟩), ?_, .ptr _ hA⟩
      rw [show o + fd.offset + y.2 = o + y.2 + fd.offset by omega]
      simp [Instr.fieldAt, run_underlying hd, hf', Instr.sureAddr, fieldPlace, run_sizeOf' hi, hin, addr_add]
theorem index_sound {P : Program} {ρ : Rho} {t : TypeId} {x x' i i' u : Value} (hx : VR ρ x x') (hi : VR ρ i i') (e : aindex P t x i = some u) (w : World) : ∃ u', (Instr.index t x' i').run P w = .ok u' w ∧ VR ρ u u' := by
  unfold aindex at e
  split at e
  case h_2 => cases e
  case h_1 len elem cs k n hd =>
    obtain ⟨sz, hz, e⟩ := bind_some e
    obtain ⟨inf, hif, rfl⟩ := isz_info hz
    split at e
    case isFalse => cases e
    case isTrue hb =>
      obtain ⟨l', rfl, hl⟩ := hx.agg_inv
      obtain rfl := hi.int_inv
      obtain ⟨u', h1, h2⟩ := part_sound (P := P) (cs' := ⟨l'⟩) hl e w
      refine ⟨u', ?_, h2⟩
      simp [Instr.index, asIntOf, run_underlying hd, hb, run_sizeOf' hif, h1]
theorem VR.slice_addr {ρ : Rho} {A o n c : Nat} {m : Option Nat} {v' : Value} (h : VR ρ (.slice (some ⟨A, o, m⟩) n c) v') :
    ∃ b x o' c', ρ A = some (b, x) ∧ v' = .slice (some ⟨b, o', none⟩) n c' ∧ ((m = none ∧ o' = o + x.2 ∧ c' = c) ∨ (m = some 0 ∧ o' = o + x.2 ∧ c' = c + x.1) ∨ (m = some 1 ∧ n = 0 ∧ c = 0)) := by
  cases h with
  | flat _ h => simp [VE.flat] at h
  | sl o n c h => exact ⟨_, _, _, _, h, rfl, .inl ⟨rfl, rfl, rfl⟩⟩
  | slo o n c h => exact ⟨_, _, _, _, h, rfl, .inr (.inl ⟨rfl, rfl, rfl⟩)⟩
  | sle o o' c' h => exact ⟨_, _, _, _, h, rfl, .inr (.inr ⟨rfl, rfl, rfl⟩)⟩
theorem aplace_some {A o sz len : Nat} {i : Int} {u : Value} (h : aplace A o sz len i = some u) : 0 ≤ i ∧ i < len ∧ u = .pointer (some ⟨A, o + i.toNat * sz, none⟩) := by
  unfold aplace at h
  split at h
  · rename_i hb; cases h; exact ⟨hb.1, hb.2, rfl⟩
  · cases h
theorem arrptr_sound {P : Program} {ρ : Rho} {t : TypeId} {x x' u : Value} (hx : VR ρ x x') (e : aarrptr P t x = some u) (w : World) :
    ∃ u', (Instr.arrayAt t x').run P w = .ok u' w ∧ VR ρ u u' := by
  unfold aarrptr at e
  split at e
  case h_2 => cases e
  case h_1 k elem A o m n c hd =>
    split at e
    case isFalse => cases e
    case isTrue hle =>
      cases e
      obtain ⟨b, y, o', c', hA, rfl, hm⟩ := hx.slice_addr
      have ho : o' = o + y.2 := by
        rcases hm with ⟨_, h, _⟩ | ⟨_, h, _⟩ | ⟨_, h, _⟩
        · exact h
        · exact h
        · omega
      subst ho
      refine ⟨.pointer (some ⟨b, o + y.2, none⟩), ?_, .ptr _ hA⟩
      simp [Instr.arrayAt, run_underlying hd, Nat.not_lt.2 hle]
theorem indexAddr_sound {P : Program} {ρ : Rho} {t : TypeId} {x x' i i' u : Value} (hx : VR ρ x x') (hi : VR ρ i i') (e : aindexAddr P t x i = some u) (w : World) :
    ∃ u', (Instr.indexAt t x' i').run P w = .ok u' w ∧ VR ρ u u' := by
  unfold aindexAddr at e
  split at e
  case h_1 len elem A o k n hd =>
    obtain ⟨sz, hz, e⟩ := bind_some e
    obtain ⟨inf, hif, rfl⟩ := isz_info hz
    obtain ⟨h0, h1, rfl⟩ := aplace_some e
    obtain ⟨b, y, hA, rfl⟩ := hx.ptr_inv
    obtain rfl := hi.int_inv
    refine ⟨.pointer (some ⟨b, o + n.toNat * inf.size + y.2, none⟩), ?_, .ptr _ hA⟩
    rw [show o + n.toNat * inf.size + y.2 = o + y.2 + n.toNat * inf.size by omega]
    simp [Instr.indexAt, asIntOf, run_underlying hd, Instr.sureAddr, h0, h1, run_sizeOf' hif, addr_add]
  case h_2 elem A o m len c k n hd =>
    obtain ⟨sz, hz, e⟩ := bind_some e
    obtain ⟨inf, hif, rfl⟩ := isz_info hz
    obtain ⟨h0, h1, rfl⟩ := aplace_some e
    obtain ⟨b, y, o', c', hA, rfl, hm⟩ := hx.slice_addr
    obtain rfl := hi.int_inv
    have ho : o' = o + y.2 := by
      rcases hm with ⟨_, h, _⟩ | ⟨_, h, _⟩ | ⟨_, h, _⟩
      · exact h
      · exact h
      · omega
    subst ho
    refine ⟨.pointer (some ⟨b, o + n.toNat * inf.size + y.2, none⟩), ?_, .ptr _ hA⟩
    rw [show o + n.toNat * inf.size + y.2 = o + y.2 + n.toNat * inf.size by omega]
    simp [Instr.indexAt, asIntOf, run_underlying hd, h0, h1, run_sizeOf' hif, addr_add]
  case h_3 => cases e
theorem abound_some {v : Option Value} {d y h : Nat} (e : abound v d y = some h) : (v = none ∧ h = d) ∨ (∃ k n, v = some (.int k n) ∧ 0 ≤ n ∧ n ≤ y ∧ h = n.toNat) := by
  unfold abound at e
  split at e
  · cases e; exact .inl ⟨rfl, rfl⟩
  · rename_i k i
    split at e
    · rename_i hb; cases e; exact .inr ⟨k, i, rfl, hb.1, hb.2, rfl⟩
    · cases e
  · cases e
def OptR (ρ : Rho) (v v' : Option Value) : Prop := (v = none ∧ v' = none) ∨ (∃ x x', v = some x ∧ v' = some x' ∧ VR ρ x x')
theorem OptR.bound {ρ : Rho} {v v' : Option Value} {d y h : Nat} (hv : OptR ρ v v') (e : abound v d y = some h) : (v' = none ∧ v = none ∧ h = d) ∨ (∃ k n, v' = some (.int k n) ∧ v.isSome = true ∧ 0 ≤ n ∧ n ≤ y ∧ h = n.toNat) := by
  rcases abound_some e with ⟨rfl, rfl⟩ | ⟨k, n, rfl, h0, h1, rfl⟩
  · rcases hv with ⟨_, rfl⟩ | ⟨x, x', h, _⟩
    · exact .inl ⟨rfl, rfl, rfl⟩
    · cases h
  · rcases hv with ⟨h, _⟩ | ⟨x, x', h, rfl, hx⟩
    · cases h
    · cases h; obtain rfl := hx.int_inv; exact .inr ⟨k, n, rfl, rfl, h0, h1, rfl⟩
theorem run_sliceBound {P : Program} {k : IntKind} {n : Int} {y : Nat} (h0 : 0 ≤ n) (h1 : n ≤ y) (code : BoundsCode) (w : World) : (Instr.sliceBound (.int k n) y code).run P w = .ok n.toNat w := by
  simp [Instr.sliceBound, asIntOf, h0, h1]
theorem run_bounds {P : Program} {ρ : Rho} {lo lo' hi hi' : Option Value} {isS : Bool} {len cap l h : Nat} (hh : OptR ρ hi hi') (hl : OptR ρ lo lo') {y : Nat} (hy : y ≤ cap) (e1 : abound hi len y = some h) (e2 : abound lo 0 h = some l) (w : World) :
    (Instr.sliceBounds isS len cap lo' hi' none).run P w = .ok (l, h, cap) w := by
  have a1 := hh.bound e1
  have a2 := hl.bound e2
  unfold Instr.sliceBounds
  simp only [Option.isSome_none, Bool.false_eq_true, if_false, Sem.run_bind, Sem.run_pure, Result.andThen_ok]
  rcases a1 with ⟨rfl, _, rfl⟩ | ⟨k, n, rfl, _, h0, h1, rfl⟩ <;> rcases a2 with ⟨rfl, _, rfl⟩ | ⟨k', n', rfl, _, h0', h1', rfl⟩
  · simp
  · simp [run_sliceBound h0' h1']
  · simp [run_sliceBound (P := P) h0 (Int.le_trans h1 (by omega : (y : Int) ≤ cap))]
  · simp [run_sliceBound (P := P) h0 (Int.le_trans h1 (by omega : (y : Int) ≤ cap)), run_sliceBound h0' h1']
theorem run_bounds3 {P : Program} {ρ : Rho} {lo lo' hi hi' mx mx' : Option Value} {isS : Bool} {len cap l h m : Nat} (hm : OptR ρ mx mx') (hh : OptR ρ hi hi') (hl : OptR ρ lo lo') (hms : mx.isSome = true) (hhs : hi.isSome = true) {y d d' : Nat} (hy : y ≤ cap)
    (e0 : abound mx d y = some m) (e1 : abound hi d' m = some h) (e2 : abound lo 0 h = some l) (w : World) :
    (Instr.sliceBounds isS len cap lo' hi' mx').run P w = .ok (l, h, m) w := by
  have a0 := hm.bound e0
  have a1 := hh.bound e1
  have a2 := hl.bound e2
  unfold Instr.sliceBounds
  rcases a0 with ⟨_, rfl, _⟩ | ⟨k0, n0, rfl, _, h00, h01, rfl⟩
  · cases hms
  rcases a1 with ⟨_, rfl, _⟩ | ⟨k, n, rfl, _, h0, h1, rfl⟩
  · cases hhs
  simp only [Sem.run_bind, Sem.run_pure, Result.andThen_ok, run_sliceBound (P := P) h00 (Int.le_trans h01 (by omega : (y : Int) ≤ cap)), run_sliceBound (P := P) h0 h1]
  rcases a2 with ⟨rfl, _, rfl⟩ | ⟨k', n', rfl, _, h0', h1', rfl⟩
  · simp
  · simp [run_sliceBound h0' h1']
theorem map_addr_add (b o n : Nat) : (some (⟨b, o, none⟩ : Addr)).map (·.add n) = some ⟨b, o + n, none⟩ := by simp [addr_add]
theorem slice_sound {P : Program} {ρ : Rho} {t : TypeId} {x x' u : Value} {lo lo' hi hi' mx mx' : Option Value} (hx : VR ρ x x') (hl : OptR ρ lo lo') (hh : OptR ρ hi hi') (hm : OptR ρ mx mx')
    (e : asliceOp P t x lo hi mx = some u) (w : World) : ∃ u', (Instr.sliceAt t x' lo' hi' mx').run P w = .ok u' w ∧ VR ρ u u' := by
  unfold asliceOp at e
  split at e
  case h_3 => cases e
  case h_1 n elem hd =>
    split at e
    case h_2 => cases e
    case h_1 A o sz hz =>
      obtain ⟨inf, hif, rfl⟩ := isz_info hz
      obtain ⟨b, y, hA, rfl⟩ := hx.ptr_inv
      have hm' : mx' = none := by
        rcases hm with ⟨_, h⟩ | ⟨_, _, h, _⟩
        · exact h
        · cases h
      subst hm'
      unfold sliceArr at e
      obtain ⟨h, e1, e⟩ := bind_some e
      obtain ⟨l, e2, e⟩ := bind_some e
      cases e
      refine ⟨.slice (some (if n = l then ⟨b, o + y.2, none⟩ else ⟨b, o + y.2 + l * inf.size, none⟩)) (h - l) (n - l), ?_, ?_⟩
      · simp [Instr.sliceAt, run_underlying hd, Instr.sureAddr, run_bounds (P := P) hh hl (Nat.le_refl _) e1 e2, run_sizeOf' hif, addr_add]
      · split
        · exact .sl _ _ _ hA
        · rw [show o + y.2 + l * inf.size = o + l * inf.size + y.2 by omega]; exact .sl _ _ _ hA
  case h_2 elem hd =>
    split at e
    case h_2 => cases e
    case h_1 A o mk len cap sz hz =>
      obtain ⟨inf, hif, rfl⟩ := isz_info hz
      obtain ⟨b, y, o', c', hA, rfl, hmk⟩ := hx.slice_addr
      have hs : (Instr.sliceAt t (.slice (some ⟨b, o', none⟩) len c') lo' hi' mx').run P w = (Instr.slice t (.slice (some ⟨b, o', none⟩) len c') lo' hi' mx').run P w := by
        simp [Instr.sliceAt, run_underlying hd]
      rw [hs]
      split at e
      case h_3 => cases e
      case h_1 =>
        have hm' : mx' = none := by
          rcases hm with ⟨_, h⟩ | ⟨_, _, h, _⟩
          · exact h
          · cases h
        subst hm'
        unfold sliceTwo at e
        obtain ⟨h, e1, e3⟩ := bind_some e
        obtain ⟨l, e2, e4⟩ := bind_some e3
        clear e e3
        rcases hmk with ⟨rfl, rfl, rfl⟩ | ⟨rfl, rfl, rfl⟩ | ⟨rfl, rfl, rfl⟩
        · cases e4
          refine ⟨.slice (some (if c' = l then ⟨b, o + y.2, none⟩ else ⟨b, o + y.2 + l * inf.size, none⟩)) (h - l) (c' - l), ?_, ?_⟩
          · simp only [Instr.slice, Sem.run_bind, run_underlying hd, Result.andThen_ok, run_bounds (P := P) hh hl (Nat.le_refl _) e1 e2, run_sizeOf' hif, map_addr_add, Sem.run_pure]
            split <;> rfl
          · split
            · exact .sl _ _ _ hA
            · rw [show o + y.2 + l * inf.size = o + l * inf.size + y.2 by omega]; exact .sl _ _ _ hA
        · simp only at e4
          split at e4
          · rename_i hlt
            cases e4
            refine ⟨.slice (some ⟨b, o + l * inf.size + y.2, none⟩) (h - l) (cap - l + y.1), ?_, .slo _ _ _ hA⟩
            simp only [Instr.slice, Sem.run_bind, run_underlying hd, Result.andThen_ok, run_bounds (P := P) hh hl (Nat.le_add_right _ _) e1 e2, run_sizeOf' hif, map_addr_add, Sem.run_pure]
            rw [if_neg (by omega), show cap + y.1 - l = cap - l + y.1 by omega, show o + y.2 + l * inf.size = o + l * inf.size + y.2 by omega]
          · split at e4
            · rename_i hq
              obtain ⟨rfl, rfl⟩ := hq
              cases e4
              by_cases hy : y.1 = 0
              · refine ⟨.slice (some ⟨b, o + y.2, none⟩) 0 0, ?_, .sle _ _ _ hA⟩
                simp only [Instr.slice, Sem.run_bind, run_underlying hd, Result.andThen_ok, run_bounds (P := P) hh hl (Nat.le_add_right _ _) e1 e2, run_sizeOf' hif, map_addr_add, Sem.run_pure]
                simp [hy]
              · refine ⟨.slice (some ⟨b, o + y.2 + cap * inf.size, none⟩) 0 y.1, ?_, .sle _ _ _ hA⟩
                simp only [Instr.slice, Sem.run_bind, run_underlying hd, Result.andThen_ok, run_bounds (P := P) hh hl (Nat.le_add_right _ _) e1 e2, run_sizeOf' hif, map_addr_add, Sem.run_pure]
                simp [hy]
            · cases e4
        · cases e4
      case h_2 mv hv =>
        unfold sliceThree at e
        have hc : cap ≤ c' ∧ o' = o + y.2 ∧ ((abound (some mv) 0 cap).bind fun m => (abound (some hv) 0 m).bind fun h => (abound lo 0 h).bind fun l =>
            some (.slice (some (if m = l then ⟨A, o, none⟩ else ⟨A, o + l * inf.size, none⟩)) (h - l) (m - l))) = some u := by
          rcases hmk with ⟨rfl, rfl, rfl⟩ | ⟨rfl, rfl, rfl⟩ | ⟨rfl, rfl, rfl⟩
          · exact ⟨Nat.le_refl _, rfl, e⟩
          · exact ⟨Nat.le_add_right _ _, rfl, e⟩
          · cases e
        obtain ⟨hcc, rfl, e⟩ := hc
        obtain ⟨m, e0, e⟩ := bind_some e
        obtain ⟨h, e1, e⟩ := bind_some e
        obtain ⟨l, e2, e⟩ := bind_some e
        cases e
        refine ⟨.slice (some (if m = l then ⟨b, o + y.2, none⟩ else ⟨b, o + y.2 + l * inf.size, none⟩)) (h - l) (m - l), ?_, ?_⟩
        · simp only [Instr.slice, Sem.run_bind, run_underlying hd, Result.andThen_ok, run_bounds3 (P := P) hm hh hl rfl rfl hcc e0 e1 e2, run_sizeOf' hif, map_addr_add, Sem.run_pure]
          split <;> rfl
        · split
          · exact .sl _ _ _ hA
          · rw [show o + y.2 + l * inf.size = o + l * inf.size + y.2 by omega]; exact .sl _ _ _ hA
end Go.VE
