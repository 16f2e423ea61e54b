/-
  The evaluator: regions that draw their order; where a call begins; a law's row out of one evaluation.
-/
import Derived.Test.YtedoeeeomfgjnaaDoorVe3
import Derived.ChangeArms
import Derived.DataReads
import Derived.OpenShut
import Derived.Carry
import Derived.ProofKit
import Derived.Lay
import Derived.LaidLaws
import Derived.MakeChecks
import Derived.Handed
set_option linter.unusedSimpArgs false
set_option linter.unusedVariables false
/- A region that draws its order: one pass over its operations. -/
namespace Go.VE
open Go Go.RowKit
theorem still_kind {o : Oper} (ha : isAct o = false) (hz : isFresh o = false) : kindOf o = .pure ∨ kindOf o = .load := by
  unfold isAct at ha
  unfold isFresh at hz
  cases hk : kindOf o <;> rw [hk] at ha hz
  · exact .inl rfl
  · exact .inr rfl
  · cases hz
  · cases ha
theorem fresh_act {o : Oper} (h : isFresh o = true) : isAct o = false := by
  unfold isFresh at h
  unfold isAct
  cases hk : kindOf o <;> rw [hk] at h <;> first | rfl | cases h
structure Grew (s s' : St) : Prop where
  n : s.n ≤ s'.n
  lo : s'.lo = s.lo
  same : ∀ A, A < s.n → s'.at A = s.at A
  len : s.h.length = s.n → s'.h.length = s'.n
theorem Grew.refl (s : St) : Grew s s := ⟨Nat.le_refl _, rfl, fun _ _ => rfl, id⟩
theorem Grew.trans {a b c : St} (h : Grew a b) (k : Grew b c) : Grew a c :=
  ⟨Nat.le_trans h.n k.n, k.lo.trans h.lo, fun A hA => (k.same A (Nat.lt_of_lt_of_le hA h.n)).trans (h.same A hA), fun e => k.len (h.len e)⟩
theorem Grew.new (s : St) (o : AO) : Grew s (s.new o) :=
  ⟨by simp [St.new], rfl, fun A hA => by rw [St.at_new, if_neg (by omega)], fun h => by simp [St.new, h]⟩
theorem Grew.kept {a b : St} (h : Grew a b) (hl : a.h.length = a.n) : Kept a b := ⟨h.n, Nat.le_of_eq h.lo, fun A hA _ => h.same A hA, h.len hl⟩
theorem fresh_kind {o : Oper} (h : isFresh o = true) : okind o.op = .fresh ∧ o.guard = none := by
  unfold isFresh at h
  split at h
  case h_2 => cases h
  case h_1 hk =>
    unfold kindOf at hk
    split at hk
    case h_1 hz =>
      refine ⟨hz, ?_⟩
      cases hg : o.guard with
      | none => rfl
      | some g => rw [hg] at hk; cases hk
    case h_2 hz => exact absurd hk hz
theorem aop_new {P : Program} {ro : Nat} {t : Tr} {o : Oper} {s s' : St} {r : AR} (hk : isFresh o = true) (e : aop P ro t o s = some (r, s')) : ∃ v ob, r = .val v ∧ s' = s.new ob := by
  obtain ⟨hz, _⟩ := fresh_kind hk
  unfold aop at e
  cases hop : o.op <;> rw [hop] at e hz <;> simp only at e <;> simp only [okind] at hz <;> (try cases hz)
  case alloc =>
    unfold aalloc at e
    split at e
    case h_2 => cases e
    case h_1 =>
      split at e
      case h_2 => cases e
      case h_1 => obtain ⟨_, e⟩ := bif_some e; cases e; exact ⟨_, _, rfl, rfl⟩
  case box => cases e; exact ⟨_, _, rfl, rfl⟩
  case buildSlice =>
    obtain ⟨v, e1, hr⟩ := valSt_some e
    clear e
    unfold abuildSlice at e1
    split at e1
    case h_2 => cases e1
    case h_1 =>
      split at e1
      case h_2 => cases e1
      case h_1 =>
        split at e1
        case h_2 => cases e1
        case h_1 =>
          split at e1
          case isFalse => cases e1
          case isTrue =>
            obtain ⟨cs, _, e2⟩ := Option.map_eq_some_iff.1 e1
            cases e2; exact ⟨_, _, hr, rfl⟩
  case makeSlice =>
    obtain ⟨v, e1, hr⟩ := valSt_some e
    clear e
    unfold amakeSlice at e1
    split at e1
    case h_2 => cases e1
    case h_1 =>
      split at e1
      case h_2 => cases e1
      case h_1 =>
        split at e1
        case h_2 => cases e1
        case h_1 =>
          split at e1
          case isFalse => cases e1
          case isTrue => cases e1; exact ⟨_, _, hr, rfl⟩
  case call c => split at hz <;> cases hz
theorem astep_still [Memo] {P : Program} {ro : Nat} {E : Ev} {o : Oper} {fr fr' : Fr} {s s' : St} (ha : isAct o = false) (hz : isFresh o = false) (e : astep P ro E o fr s = some (fr', s')) (hn : isLoad o = true → s'.n = s.n) :
    s' = s ∧ ∃ v, aop P ro fr.t o s = some (.val v, s) ∧ fr' = fr.put o.dst v := by
  unfold astep at e
  cases hop : aop P ro fr.t o s with
  | none => rw [hop] at e; cases e
  | some rs =>
    obtain ⟨r, s1⟩ := rs
    rw [hop] at e
    have : s1 = s ∧ ∃ v, r = .val v := by
      rcases still_kind ha hz with hk | hk
      · obtain ⟨h1, h2, _⟩ := aop_free hk s r s1 hop; exact ⟨h1, h2⟩
      · have hl : isLoad o = true := by unfold isLoad; rw [hk]
        obtain ⟨v, rfl⟩ := aop_load_val hk hop
        cases e
        exact aop_load hk hop (hn hl)
    obtain ⟨rfl, v, rfl⟩ := this
    cases e
    exact ⟨rfl, v, rfl, rfl⟩
theorem astep_fresh [Memo] {P : Program} {ro : Nat} {E : Ev} {o : Oper} {fr fr' : Fr} {s s' : St} (hz : isFresh o = true) (e : astep P ro E o fr s = some (fr', s')) :
    ∃ v ob, s' = s.new ob ∧ aop P ro fr.t o s = some (.val v, s') ∧ fr' = fr.put o.dst v := by
  unfold astep at e
  cases hop : aop P ro fr.t o s with
  | none => rw [hop] at e; cases e
  | some rs =>
    obtain ⟨r, s1⟩ := rs
    rw [hop] at e
    obtain ⟨v, ob, rfl, rfl⟩ := aop_new hz hop
    cases e
    exact ⟨v, ob, rfl, rfl, rfl⟩
theorem astep_grew [Memo] {P : Program} {ro : Nat} {E : Ev} {o : Oper} {fr fr' : Fr} {s s' : St} (ha : isAct o = false) (e : astep P ro E o fr s = some (fr', s')) (hn : isLoad o = true → s'.n = s.n) : Grew s s' := by
  cases hz : isFresh o with
  | true => obtain ⟨_, ob, rfl, _⟩ := astep_fresh hz e; exact .new _ _
  | false => obtain ⟨rfl, _⟩ := astep_still ha hz e hn; exact .refl _
theorem aload_grew {P : Program} {s s' : St} (h : Grew s s') {t : TypeId} {a v : Value} (e : aload P s t a = some v) : aload P s' t a = some v := by
  unfold aload at e ⊢
  split at e
  case h_2 => cases e
  case h_1 A o =>
    cases hs : s.at A with
    | none => rw [hs] at e; cases e
    | some u => rw [h.same A (St.at_lt hs)]; exact e
theorem afirst_grew {s s' : St} (h : Grew s s') {size n : Nat} {x : Value} {c : List Value} (e : afirst s size n x = some c) : afirst s' size n x = some c := by
  unfold afirst at e ⊢
  split at e
  · exact e
  · rename_i A o m l cp
    split at e
    · exact e
    · rename_i k hk
      obtain ⟨hm, e⟩ := bif_some e
      cases hs : s.at A with
      | none => rw [hs] at e; cases e
      | some u =>
        rw [hm, cond_true, h.same A (St.at_lt hs)]
        exact e
  · exact e
  · cases e
theorem ament_grew {s s' : St} (h : Grew s s') {m : Value} {es : List MapEntry} (e : ament s m = some es) : ament s' m = some es := by
  unfold ament at e ⊢
  split at e
  · exact e
  · rename_i A
    cases hs : s.at A with
    | none => rw [hs] at e; cases e
    | some u =>
      rw [hs] at e
      rw [h.same A (St.at_lt hs), hs]
      exact e
  · cases e
theorem alookup_grew {P : Program} {s s' : St} (h : Grew s s') {ty : TypeId} {m k v : Value} {ok : Bool} (e : alookup P s ty m k ok = some v) : alookup P s' ty m k ok = some v := by
  unfold alookup at e ⊢
  split at e
  case h_2 => cases e
  case h_1 kd kt et hty =>
    obtain ⟨i, hi, e1⟩ := bind_some e
    obtain ⟨z, hz, e2⟩ := bind_some e1
    obtain ⟨es, hes, e3⟩ := bind_some e2
    simp only [hi, hz, Option.bind_some, ament_grew h hes]
    exact e3
theorem aop_load_grew {P : Program} {ro : Nat} {t : Tr} {o : Oper} {s s' : St} (h : Grew s s') {v : Value} (hk : kindOf o = .load) (e : aop P ro t o s = some (.val v, s)) : aop P ro t o s' = some (.val v, s') := by
  unfold kindOf at hk
  split at hk
  case h_1 => cases hg : o.guard.isNone <;> rw [hg] at hk <;> cases hk
  case h_2 =>
  cases hop : o.op <;> simp only [hop, okind] at hk <;> (try cases hk) <;> simp only [aop, hop] at e ⊢
  case load ty a =>
    obtain ⟨v', h1, h2, _⟩ := withSt_some e
    cases h2
    rw [aload_grew h h1]
    rfl
  case lookup ty x i ok =>
    obtain ⟨v', h1, h2, _⟩ := withSt_some e
    cases h2
    rw [alookup_grew h h1]
    rfl
  case convert src dst x =>
    unfold aconv at e ⊢
    split at e
    · split at e
      · obtain ⟨hu, e⟩ := bif_some e
        obtain ⟨v', h1, h2, _⟩ := withSt_some e
        cases h2
        unfold astr at h1
        obtain ⟨c, hc, h1⟩ := bind_some h1
        rw [hu]
        simp only [cond_true, astr, afirst_grew h hc, Option.bind_some, h1]
        rfl
      · cases e
    · split at e
      · unfold newBytes at e
        split at e
        · have := congrArg (fun x => (x.map fun y => y.2.n).getD 0) e
          simp [St.new] at this
        · cases e
      · exact (aun_some e).2.2 s'
    · exact (aun_some e).2.2 s'
  case call c => split at hk <;> cases hk
theorem Fr.put_has (fr : Fr) (dst : Option Tmp) (v : Value) (d : Nat) : (fr.put dst v).t.has d = fr.t.has d := by
  cases dst with
  | none => rfl
  | some e => exact Tr.has_set _ _ _ _
theorem Fr.put_get_ne {fr : Fr} {dst : Option Tmp} {v : Value} {d : Nat} (h : dst ≠ some d) : (fr.put dst v).t.get d = fr.t.get d := by
  cases dst with
  | none => rfl
  | some e =>
    show (fr.t.set e v).get d = _
    rw [Tr.get_set, if_neg]
    rintro ⟨rfl, _⟩
    exact h rfl
theorem Fr.put_get_eq {fr : Fr} {dst : Option Tmp} {v : Value} {d : Nat} (h : dst = some d) (hh : fr.t.has d = true) : (fr.put dst v).t.get d = v := by
  subst h
  show (fr.t.set d v).get d = _
  rw [Tr.get_set, if_pos ⟨rfl, hh⟩]
theorem Fr.put_ds (fr : Fr) (dst : Option Tmp) (v : Value) : (fr.put dst v).ds = fr.ds := by cases dst <;> rfl
theorem putOp_some {o : Oper} {i : Nat} {t : Tr} {s s1 : St} {x : Option Run} {r : Run} (h : putOp o i t s s1 x = some r) :
    ∃ r', x = some r' ∧ r = { fr := r'.fr, s := r'.s, snaps := bif isAct o then (i, s, s1) :: r'.snaps else r'.snaps, lds := bif isLoad o then (i, o, t) :: r'.lds else r'.lds, frs := bif isFresh o then (i, s.n, (s1.at s.n).getD .dead) :: r'.frs else r'.frs } := by
  unfold putOp at h
  split at h
  · cases h; exact ⟨_, rfl, rfl⟩
  · cases h
theorem quiet_spec {o : Oper} {s s1 : St} (h : quiet o s s1 = true) (hl : isLoad o = true) : s1.n = s.n := by
  unfold quiet at h
  rw [hl] at h
  exact Nat.eq_of_beq_eq_true (by simpa using h)
def Fact [Memo] (P : Program) (ro : Nat) (E : Ev) (all : List Oper) (t0 : Tr) (pre : List (Nat × Oper)) (j : Nat) (o : Oper) (post : List (Nat × Oper)) (r : Run) : Prop :=
  ∃ (u : Fr) (sq s1 : St) (k : Nat) (v : Value),
    (∀ d, (∀ x ∈ pre, x.2.dst ≠ some d) → u.t.get d = t0.get d) ∧
    (∀ d, (∀ x ∈ post, x.2.dst ≠ some d) → o.dst ≠ some d → u.t.get d = r.fr.t.get d) ∧
    (isAct o = true → r.snaps[k]? = some (j, sq, s1)) ∧ (isAct o = false → Grew sq (stK r.snaps r.s k)) ∧ (isLoad o = true → (j, o, u.t) ∈ r.lds) ∧
    (isFresh o = true → (j, sq.n, (s1.at sq.n).getD .dead) ∈ r.frs) ∧
    (∀ d, o.dst = some d → t0.has d = true → r.fr.t.get d = v) ∧
    (awanted all o u.t = true → ∀ fr2 : Fr, (∀ x ∈ o.op.operands, aval fr2.t x = aval u.t x) → astep P ro E o fr2 sq = some (fr2.put o.dst v, s1)) ∧
    (awanted all o u.t = false → v = undef ∧ s1 = sq) ∧ (isLoad o = true → s1.n = sq.n)
theorem arun_spec [Memo] {P : Program} {ro : Nat} {E : Ev} {all : List Oper} : ∀ (l : List (Nat × Oper)) (fr : Fr) (s : St) (r : Run), arun P ro E all l fr s = some r → (∀ x ∈ l, isDefer x.2.op = false) →
    l.Pairwise (fun x y => ∀ d, x.2.dst = some d → y.2.dst ≠ some d) →
    (r.fr.rnd = fr.rnd ∧ r.fr.ds = fr.ds ∧ (∀ d, r.fr.t.has d = fr.t.has d) ∧ (∀ d, (∀ x ∈ l, x.2.dst ≠ some d) → r.fr.t.get d = fr.t.get d)) ∧
    Grew s (stK r.snaps r.s 0) ∧ r.snaps.map (·.1) = actIdx l ∧ (∀ k a sa s1, r.snaps[k]? = some (a, sa, s1) → Grew s1 (stK r.snaps r.s (k + 1))) ∧
    (∀ x ∈ r.frs, ∃ o, (x.1, o) ∈ l ∧ isFresh o = true) ∧
    ∀ pre j o post, l = pre ++ (j, o) :: post → Fact P ro E all fr.t pre j o post r
  | [], fr, s, r, e, _, _ => by
    cases e
    refine ⟨⟨rfl, rfl, fun _ => rfl, fun _ _ => rfl⟩, .refl _, rfl, fun k a sa s1 h => (by simp at h), fun x hx => (by cases hx), fun pre j o post h => ?_⟩
    cases pre <;> cases h
  | (i, o) :: l, fr, s, r, e, hnd, hap => by
    obtain ⟨hap1, hap2⟩ := List.pairwise_cons.1 hap
    have hnd' : ∀ x ∈ l, isDefer x.2.op = false := fun x hx => hnd x (by simp [hx])
    have hstep : ∃ v s1 r', (awanted all o fr.t = true → ∀ fr2 : Fr, (∀ x ∈ o.op.operands, aval fr2.t x = aval fr.t x) → astep P ro E o fr2 s = some (fr2.put o.dst v, s1)) ∧ (awanted all o fr.t = false → v = undef ∧ s1 = s) ∧
        arun P ro E all l (fr.put o.dst v) s1 = some r' ∧ (isAct o = false → Grew s s1) ∧ (isLoad o = true → s1.n = s.n) ∧
        r = { fr := r'.fr, s := r'.s, snaps := bif isAct o then (i, s, s1) :: r'.snaps else r'.snaps, lds := bif isLoad o then (i, o, fr.t) :: r'.lds else r'.lds, frs := bif isFresh o then (i, s.n, (s1.at s.n).getD .dead) :: r'.frs else r'.frs } := by
      simp only [arun] at e
      cases hw : awanted all o fr.t with
      | true =>
        rw [hw] at e
        simp only [cond_true] at e
        cases hst : astep P ro E o fr s with
        | none => rw [hst] at e; cases e
        | some p =>
          obtain ⟨fr1, s1⟩ := p
          rw [hst] at e
          obtain ⟨v, rfl, hall⟩ := astep_congr (hnd (i, o) (by simp)) hst
          simp only [arun1] at e
          obtain ⟨hq, e⟩ := bif_some e
          have hn := quiet_spec hq
          obtain ⟨r', hr', hr⟩ := putOp_some e
          exact ⟨v, s1, r', fun _ => hall, fun h => (by cases h), hr', fun ha => astep_grew ha hst hn, hn, hr⟩
      | false =>
        rw [hw] at e
        obtain ⟨r', hr', hr⟩ := putOp_some e
        exact ⟨undef, s, r', fun h => (by cases h), fun _ => ⟨rfl, rfl⟩, hr', fun _ => .refl _, fun _ => rfl, hr⟩
    obtain ⟨v, s1, r', hw1, hw2, hrest, hgr, hln, rfl⟩ := hstep
    obtain ⟨⟨h1, h2, h3, h4⟩, h5, h6, h7, h7b, h8⟩ := arun_spec l (fr.put o.dst v) s1 r' hrest hnd' hap2
    refine ⟨⟨h1.trans (Fr.put_rnd _ _ _), h2.trans (Fr.put_ds _ _ _), fun d => (h3 d).trans (Fr.put_has _ _ _ _), fun d hd => ?_⟩, ?_, ?_, fun k a sa sb hk => ?_, fun x hx => ?_, fun pre j o' post hl => ?_⟩
    · exact (h4 d fun x hx => hd x (by simp [hx])).trans (Fr.put_get_ne (hd (i, o) (by simp)))
    · simp only
      cases ha : isAct o with
      | true => exact .refl _
      | false => exact (hgr ha).trans h5
    · simp only [actIdx]
      cases ha : isAct o with
      | true => simp [h6]
      | false => simp [h6]
    · simp only at hk ⊢
      cases ha : isAct o with
      | true =>
        rw [ha] at hk
        simp only [cond_true] at hk ⊢
        cases k with
        | zero =>
          simp only [List.getElem?_cons_zero, Option.some.injEq, Prod.mk.injEq] at hk
          obtain ⟨_, _, rfl⟩ := hk
          exact h5
        | succ k =>
          simp only [List.getElem?_cons_succ] at hk
          exact h7 k a sa sb hk
      | false =>
        rw [ha] at hk
        exact h7 k a sa sb hk
    · simp only at hx
      cases hz : isFresh o with
      | true =>
        rw [hz] at hx
        simp only [cond_true] at hx
        rcases List.mem_cons.1 hx with rfl | hx
        · exact ⟨o, by simp, hz⟩
        · obtain ⟨q, h9, h10⟩ := h7b x hx
          exact ⟨q, by simp [h9], h10⟩
      | false =>
        rw [hz] at hx
        obtain ⟨q, h9, h10⟩ := h7b x hx
        exact ⟨q, by simp [h9], h10⟩
    · cases pre with
      | nil =>
        simp only [List.nil_append, List.cons.injEq, Prod.mk.injEq] at hl
        obtain ⟨⟨rfl, rfl⟩, rfl⟩ := hl
        refine ⟨fr, s, s1, 0, v, fun d _ => rfl, fun d hd hne => ?_, fun ha => ?_, fun ha => ?_, fun ha => ?_, fun ha => ?_, fun d hd hh => ?_, hw1, hw2, hln⟩
        · exact ((h4 d hd).trans (Fr.put_get_ne hne)).symm
        · simp [ha]
        · simp only [ha, cond_false]; exact (hgr ha).trans h5
        · simp [ha]
        · simp [ha]
        · simp only
          rw [h4 d fun x hx => hap1 x hx d hd]
          exact Fr.put_get_eq hd hh
      | cons x pre =>
        simp only [List.cons_append, List.cons.injEq] at hl
        obtain ⟨rfl, hl⟩ := hl
        obtain ⟨u, sq, sb, k, v', f1, f2, f3, f4, f5, f6, f7, f8, f9, f10⟩ := h8 pre j o' post hl
        refine ⟨u, sq, sb, bif isAct o then k + 1 else k, v', fun d hd => ?_, f2, fun ha => ?_, fun ha => ?_, fun ha => ?_, fun ha => ?_, fun d hd hh => ?_, f8, f9, f10⟩
        · exact (f1 d fun x hx => hd x (by simp [hx])).trans (Fr.put_get_ne (hd (i, o) (by simp)))
        · have := f3 ha
          simp only
          cases isAct o
          · exact this
          · simpa using this
        · have := f4 ha
          simp only
          cases isAct o
          · exact this
          · exact this
        · have := f5 ha
          simp only
          cases isLoad o
          · exact this
          · simp [this]
        · have := f6 ha
          simp only
          cases isFresh o
          · exact this
          · simp [this]
        · exact f7 d hd (by rw [Fr.put_has]; exact hh)
end Go.VE
/- A region that draws its order: sound. -/
namespace Go.VE
open Go Go.RowKit
theorem sub_upd {ρ : Rho} {p : Nat} (hp : ρ p = none) (q : Nat × Nat × Nat) : Sub ρ (upd ρ p q) := fun A r e => by
  rw [upd_other (fun hA => by subst hA; rw [hp] at e; cases e)]; exact e
theorem Rel.phantom [Memo] {C : Cx} {ρ : Rho} {s : St} {w : World} (h : Rel C ρ s w) {p : Nat} (hp : ρ p = none) {c c' : List Value} {t : TypeId} (hs : s.at p = some (.cells c t false)) (hc : LR ρ c c') :
    Rel C (upd ρ p (w.heap.size, 0, 0)) s (w.alloc (.cells ⟨c'⟩ t)) := by
  have hsub := sub_upd hp (w.heap.size, 0, 0)
  have hlen : c'.length = c.length := hc.len.symm
  refine ⟨h.len, fun A q e => ?_, fun A b y e => ?_, fun A b y u e hu => ?_, fun A b y hr e => ?_, fun A A' b y y' u u' hr e e' hu hu' hne => ?_, fun A b y hr e => ?_, ?_, h.keep.alloc h.low _, fun g hgl => ?_⟩
  · by_cases hA : A = p
    · subst hA; exact St.at_lt hs
    · rw [upd_other hA] at e; exact h.dom A q e
  · by_cases hA : A = p
    · subst hA; rw [upd_same] at e; cases e; simp
    · rw [upd_other hA] at e; have := h.lt A b y e; simp; omega
  · by_cases hA : A = p
    · subst hA; rw [upd_same] at e; cases e
      rw [hs] at hu; cases hu
      refine ⟨⟨c'⟩, t, (0, 0), heap_alloc_self _ _, by simp [hlen], ?_, fun _ => ⟨rfl, fun _ => rfl, by simp [hlen], fun i _ => by simp⟩⟩
      simp only [List.drop_zero]
      rw [List.take_of_length_le (by omega)]
      exact hc.mono hsub
    · rw [upd_other hA] at e
      exact (h.obj A b y u e hu).later hsub (heap_alloc_old (h.lt A b y e))
  · by_cases hA : A = p
    · subst hA; rw [upd_same] at e; cases e; rfl
    · rw [upd_other hA] at e; exact h.sh A b y hr e
  · by_cases hA : A = p
    · subst hA; rw [upd_same] at e; cases e
      rw [upd_other (Ne.symm hne)] at e'
      have := h.lt _ _ _ e'; omega
    · rw [upd_other hA] at e
      by_cases hA' : A' = p
      · subst hA'; rw [upd_same] at e'; cases e'
        have := h.lt _ _ _ e; omega
      · rw [upd_other hA'] at e'
        exact h.inj A A' b y y' u u' hr e e' hu hu' hne
  · by_cases hA : A = p
    · subst hA; rw [upd_same] at e; cases e; exact h.low
    · rw [upd_other hA] at e; exact h.wr A b y hr e
  · have := h.low; simp; omega
  · rw [upd_other (fun hA => by subst hA; rw [h.glob _ hgl] at hp; cases hp)]
    exact h.glob g hgl
def Makes [Memo] (C : Cx) (t : Tr) (o : Oper) (p : Nat) (c : List Value) (ty : TypeId) (v : Value) : Prop :=
  ∀ (ρ : Rho) (a : Act) (w : World), OpR C ρ t a → okOp C.P o.op = true → ∃ (c' : List Value) (v' : Value), LR ρ c c' ∧ (execOp a.eval o).run C.P w = .ok (.value v') (w.alloc (.cells ⟨c'⟩ ty)) ∧ ∀ ρ' : Rho, ρ' p = some (w.heap.size, 0, 0) → VR ρ' v v'
theorem fresh_sound [Memo] {C : Cx} {t : Tr} {o : Oper} {s s' : St} {r : AR} (hk : isFresh o = true) (e : aop C.P C.ro t o s = some (r, s')) : ∃ c ty v, r = .val v ∧ s' = s.new (.cells c ty false) ∧ Makes C t o s.n c ty v := by
  obtain ⟨hz, _⟩ := fresh_kind hk
  unfold aop at e
  cases hop : o.op <;> rw [hop] at e hz <;> simp only at e <;> simp only [okind] at hz <;> (try cases hz)
  case alloc ty =>
    unfold aalloc at e
    split at e
    case h_2 => cases e
    case h_1 i hi =>
      split at e
      case h_2 => cases e
      case h_1 z hzz =>
        obtain ⟨hf, e⟩ := bif_some e
        cases e
        refine ⟨_, _, _, rfl, rfl, fun ρ a w ht ho => ⟨z.cells.toList, .pointer (some ⟨w.heap.size, 0, none⟩), LR.of_flat (flat_cells hf), ?_, fun ρ' hp => .ptr 0 hp⟩⟩
        simp [execOp, hop, Instr.alloc, zeroValue, typeInfo, hi, hzz, newVar, newRow]
  case box ty x =>
    cases e
    refine ⟨_, _, _, rfl, rfl, fun ρ a w ht ho => ⟨(a.eval x).cells.toList, .pointer (some ⟨w.heap.size, 0, none⟩), ?_, ?_, fun ρ' hp => .ptr 0 hp⟩⟩
    · rw [hop] at ho
      exact (ht x ho).cells
    · simp [execOp, hop, Instr.box, newVar, newRow]
  case buildSlice ty len ps =>
    obtain ⟨v, e1, hr⟩ := valSt_some e
    clear e
    unfold abuildSlice at e1
    split at e1
    case h_2 => cases e1
    case h_1 elem hse =>
      have hd := sliceElem_some hse
      split at e1
      case h_2 => cases e1
      case h_1 i hi =>
        split at e1
        case h_2 => cases e1
        case h_1 z hz =>
          split at e1
          case isFalse => cases e1
          case isTrue hc =>
            obtain ⟨hf, hle, hsz⟩ := hc
            obtain ⟨cs, hcs, e2⟩ := Option.map_eq_some_iff.1 e1
            cases e2
            have hzf : flatL (zeroList z.cells (len * i.size)) = true := zeroList_flat (flat_cells hf) (by rw [hsz]; rcases Nat.eq_zero_or_pos i.size with h0 | h0; (left; rw [h0]; simp); (right; exact h0))
            refine ⟨_, _, _, hr, rfl, fun ρ a w ht ho => ?_⟩
            rw [hop] at ho
            have hp : PR ρ (partVals t ps.toList) (ps.map fun p => (p.1, a.eval p.2)).toList := by
              rw [Array.toList_map]; exact partVals_sound ht _ ho
            have hex : execOp a.eval o = (do pure (.value (← Instr.buildSlice ty len (ps.map fun p => (p.1, a.eval p.2))))) := by simp [execOp, hop]
            rw [hex]
            generalize (ps.map fun p => (p.1, a.eval p.2)) = parts' at hp ⊢
            obtain ⟨cs', k1, k2⟩ := fill_sound (pl' := fun j => some (j * i.size, i.size)) (fun _ _ h => h) hp (c' := (Array.range (len * i.size)).map fun j => z.cells[j % z.cells.size]!) (by rw [zeroList_eq]; exact LR.of_flat hzf) hcs
            refine ⟨cs'.toList, .slice (some ⟨w.heap.size, 0, none⟩) len len, k2, ?_, fun ρ' hp => .sl _ _ _ hp⟩
            have hrun : (Instr.buildSlice ty len parts').run C.P w = .ok (.slice (some ⟨w.heap.size, 0, none⟩) len len) (w.alloc (.cells cs' elem)) := by
              by_cases h0 : len * i.size = 0
              · have e0 : ∀ f : Nat → Value, (Array.range 0).map f = #[] := fun f => by simp
                rw [h0, e0] at k1
                simp [Instr.buildSlice, run_underlying hd, run_sizeOf' hi, h0, e0, k1, newRow]
              · simp [Instr.buildSlice, run_underlying hd, run_sizeOf' hi, h0, zeroValue, typeInfo, hi, hz, k1, newRow, Nat.not_lt.2 hle]
            simp [hrun]
  case makeSlice ty l c =>
    obtain ⟨v, e1, hr⟩ := valSt_some e
    clear e
    unfold amakeSlice at e1
    split at e1
    case h_2 => cases e1
    case h_1 elem k lv k2 cv hse hl0 hc0 =>
      have hd := sliceElem_some hse
      split at e1
      case h_2 => cases e1
      case h_1 i hi =>
        split at e1
        case h_2 => cases e1
        case h_1 z hz =>
          split at e1
          case isFalse => cases e1
          case isTrue hcc =>
            obtain ⟨hf, h0, h1, h2, h3, hsz⟩ := hcc
            cases e1
            have hzf : flatL (zeroList z.cells (cv.toNat * i.size)) = true := zeroList_flat (flat_cells hf) (by rw [hsz]; rcases Nat.eq_zero_or_pos i.size with h0 | h0; (left; rw [h0]; simp); (right; exact h0))
            refine ⟨_, _, _, hr, rfl, fun ρ a w ht ho => ?_⟩
            rw [hop] at ho
            simp only [okOp, Bool.and_eq_true] at ho
            have hl := ht l ho.1
            have hc := ht c ho.2
            rw [hl0] at hl
            rw [hc0] at hc
            have hl := hl.int_inv
            have hc := hc.int_inv
            refine ⟨((Array.range (cv.toNat * i.size)).map fun j => z.cells[j % z.cells.size]!).toList, .slice (some ⟨w.heap.size, 0, none⟩) lv.toNat cv.toNat, by rw [zeroList_eq]; exact LR.of_flat hzf, ?_, fun ρ' hp => .sl _ _ _ hp⟩
            have wc : IntKind.i64.wrap cv = cv := IntWalk.i64_in _ (by omega)
            have wl : IntKind.i64.wrap lv = lv := IntWalk.i64_in _ (by omega)
            have e0 : ∀ f : Nat → Value, (Array.range 0).map f = #[] := fun f => by simp
            have hb1 : ¬ (281474976710656 < (i.bytes : Int) * cv) := by omega
            have hrun : (Instr.makeSlice ty (a.eval l) (a.eval c)).run C.P w = .ok (.slice (some ⟨w.heap.size, 0, none⟩) lv.toNat cv.toNat) (w.alloc (.cells ((Array.range (cv.toNat * i.size)).map fun j => z.cells[j % z.cells.size]!) elem)) := by
              rw [hl, hc]
              by_cases h00 : cv.toNat * i.size = 0
              · simp [Instr.makeSlice, run_underlying hd, asInt, asIntOf, typeInfo, hi, wc, wl, hb1, run_sizeOf' hi, h00, e0, newRow, Int.not_lt.2 h0, Int.not_lt.2 h1, Int.not_lt.2 (Int.le_trans h0 h1)]
              · simp [Instr.makeSlice, run_underlying hd, asInt, asIntOf, typeInfo, hi, wc, wl, hb1, run_sizeOf' hi, h00, zeroValue, hz, newRow, Int.not_lt.2 h0, Int.not_lt.2 h1, Int.not_lt.2 (Int.le_trans h0 h1)]
            generalize (Array.map (fun j => z.cells[j % z.cells.size]!) (Array.range (cv.toNat * i.size))) = arr at hrun ⊢
            simp [execOp, hop, hrun]
  case call c => split at hz <;> cases hz
theorem sameAO_spec {c : List Value} {t : TypeId} {x : Option AO} (h : sameAO (.cells c t false) x = true) : x = some (.cells c t false) := by
  unfold sameAO at h
  split at h
  case h_2 => cases h
  case h_1 heq =>
    cases heq
    simp only [Bool.and_eq_true] at h
    rw [Nat.eq_of_beq_eq_true h.1, veqL_eq _ _ h.2]
section
variable [Memo] {C : Cx} {E : Ev}
theorem arun_kept (hE : SoundE C E) (hC : ∀ c, C.okc c = true → okCode C.P c = true) {all : List Oper} : ∀ (l : List (Nat × Oper)) {fr : Fr} {s : St} {r : Run}, arun C.P C.ro E all l fr s = some r → s.h.length = s.n → r.fr.rnd = fr.rnd ∧ Kept s r.s
  | [], fr, s, r, e, hl => by cases e; exact ⟨rfl, .refl hl⟩
  | (i, o) :: l, fr, s, r, e, hl => by
    simp only [arun] at e
    cases hw : awanted all o fr.t with
    | true =>
      rw [hw] at e
      simp only [cond_true] at e
      cases hst : astep C.P C.ro E o fr s with
      | none => rw [hst] at e; cases e
      | some p =>
        obtain ⟨fr1, s1⟩ := p
        rw [hst] at e
        simp only [arun1] at e
        obtain ⟨_, e⟩ := bif_some e
        obtain ⟨r', hr', rfl⟩ := putOp_some e
        obtain ⟨⟨h1, h2⟩, _⟩ := step_sound hE hC hst hl
        obtain ⟨h3, h4⟩ := arun_kept hE hC l hr' h2.len
        exact ⟨h3.trans h1, h2.trans h4⟩
    | false =>
      rw [hw] at e
      obtain ⟨r', hr', rfl⟩ := putOp_some e
      obtain ⟨h3, h4⟩ := arun_kept hE hC l hr' hl
      exact ⟨h3.trans (Fr.put_rnd _ _ _), h4⟩
end
theorem awanted_congr {all : List Oper} {o : Oper} {t u : Tr} (h : ∀ d ∈ names all o, t.get d = u.get d) : awanted all o t = awanted all o u := by
  unfold awanted
  cases hg : o.guard with
  | none => rfl
  | some p =>
    obtain ⟨g, want⟩ := p
    simp only
    cases ha : all[g]? with
    | none => rfl
    | some q =>
      simp only
      cases hd : q.dst with
      | none => rfl
      | some d =>
        simp only
        rw [h d (by simp [names, hg, ha, hd])]
theorem aval_names {all : List Oper} {o : Oper} {t u : Tr} (h : ∀ d ∈ names all o, t.get d = u.get d) : ∀ x ∈ o.op.operands, aval t x = aval u x := fun x hx => by
  cases x with
  | tmp d => exact h d (by
      unfold names
      refine List.mem_append_right _ (List.mem_filterMap.2 ⟨.tmp d, by simpa using hx, rfl⟩))
  | const v => rfl
  | global g => rfl
  | func f => rfl
end Go.VE
/- A region that draws its order: every order does what the evaluator did. -/
namespace Go.VE
open Go Go.RowKit
def Listed (b : Array Bool) (j : Nat) : Prop := b.getD j false = true
theorem listed_set {b : Array Bool} {i j : Nat} (hi : i < b.size) : Listed (b.setIfInBounds i true) j ↔ j = i ∨ Listed b j := by
  unfold Listed
  by_cases h : i = j
  · subst h; simp [hi]
  · rw [getD_set_ne false h]
    constructor
    · exact fun h => .inr h
    · rintro (rfl | h')
      · exact absurd rfl h
      · exact h'
theorem count_set {b : Array Bool} {i n : Nat} (hi : i < b.size) (hf : b.getD i true = false) (h : b.toList.count false ≤ n + 1) : (b.setIfInBounds i true).toList.count false ≤ n := by
  rw [Array.toList_setIfInBounds, List.count_set (by simpa using hi)]
  have h1 : b.toList[i]'(by simpa using hi) = false := by
    have : b[i]? = some (b[i]'hi) := Array.getElem?_eq_getElem hi
    rw [Array.getD_eq_getD_getElem?, this] at hf
    simpa using hf
  rw [h1]
  simp only [show (false == false) = true from rfl, show (true == false) = false from rfl, if_true, Bool.false_eq_true, if_false]
  omega
structure Inv [Memo] (C : Cx) (ops : Array Oper) (fr : Fr) (s : St) (r : Run) (ρ0 : Rho) (b : Array Bool) (a : Act) (w : World) (ρ : Rho) (k : Nat) (fT : Fr) : Prop where
  size : b.size = ops.size
  closed : Closed ops.toList (Listed b)
  acts : ∀ q x, (r.snaps.map (·.1))[q]? = some x → (Listed b x ↔ q < k)
  kle : k ≤ r.snaps.length
  ext : Ext s.n ρ0 ρ
  rel : Rel C ρ (stK r.snaps r.s k) w
  kept : Kept s (stK r.snaps r.s k)
  ph : ∀ z p ob, (z, p, ob) ∈ r.frs → ¬ Listed b z → ρ p = none
  rnd : fT.rnd = fr.rnd
  ds : fT.ds = fr.ds
  frs : FR ρ fT a
  has : ∀ d, fT.t.has d = fr.t.has d
  done : ∀ j o d, Listed b j → ops.toList[j]? = some o → o.dst = some d → fT.t.get d = r.fr.t.get d
  left : ∀ d, (∀ j o, Listed b j → ops.toList[j]? = some o → o.dst ≠ some d) → fT.t.get d = fr.t.get d
theorem FR.eval [Memo] {C : Cx} {ρ : Rho} {s : St} {w : World} {fr : Fr} {a : Act} (h : Rel C ρ s w) (hf : FR ρ fr a) : OpR C ρ fr.t a := fun x hx => aval_sound h hf.t x hx
theorem Inv.step [Memo] {C : Cx} {ops : Array Oper} {fr : Fr} {s : St} {r : Run} {ρ0 : Rho} {b : Array Bool} {a : Act} {w : World} {ρ : Rho} {k : Nat} {fT : Fr} (I : Inv C ops fr s r ρ0 b a w ρ k fT)
    {j : Nat} {o : Oper} (hj : ops.toList[j]? = some o) (hap : dstApart ops.toList = true) (hpre : ∀ e ∈ o.after.toList, Region.binds .any e = true → Listed b e.on) {v : Value} {ρ' : Rho} {k' : Nat} {a' : Act} {w' : World}
    (hplace : ∀ d, o.dst = some d → fr.t.has d = true → r.fr.t.get d = v) (hhas : ∀ d, r.fr.t.has d = fr.t.has d)
    (hk : k' ≤ r.snaps.length) (hacts : ∀ q x, (r.snaps.map (·.1))[q]? = some x → (x = j ∨ Listed b x ↔ q < k')) (hext : Ext s.n ρ0 ρ') (hrel : Rel C ρ' (stK r.snaps r.s k') w') (hkept : Kept s (stK r.snaps r.s k'))
    (hph : ∀ z p ob, (z, p, ob) ∈ r.frs → z ≠ j → ¬ Listed b z → ρ' p = none)
    (hfr : FR ρ' (fT.put o.dst v) a') : Inv C ops fr s r ρ0 (b.setIfInBounds j true) a' w' ρ' k' (fT.put o.dst v) := by
  have hlt : j < b.size := by rw [I.size]; simpa using (List.getElem?_eq_some_iff.1 hj).1
  have hmem : ∀ x, Listed (b.setIfInBounds j true) x ↔ x = j ∨ Listed b x := fun x => listed_set hlt
  refine ⟨by simp [I.size], fun x q hx hq e he hb => ?_, fun q x hx => (hmem x).trans (hacts q x hx), hk, hext, hrel, hkept, fun z p ob hz hn => ?_, (Fr.put_rnd _ _ _).trans I.rnd, (Fr.put_ds _ _ _).trans I.ds, hfr, fun d => (Fr.put_has _ _ _ _).trans (I.has d), fun x q d hx hq hd => ?_, fun d hd => ?_⟩
  · rw [hmem] at hx ⊢
    rcases hx with rfl | hx
    · rw [hj] at hq; cases hq
      exact .inr (hpre e he hb)
    · exact .inr (I.closed x q hx hq e he hb)
  · rw [hmem] at hn
    exact hph z p ob hz (fun h => hn (.inl h)) (fun h => hn (.inr h))
  · rw [hmem] at hx
    by_cases hxj : o.dst = some d
    · have := dst_unique hap hq hj hd hxj
      subst this
      rw [hj] at hq; cases hq
      cases hh : fr.t.has d with
      | true =>
        rw [Fr.put_get_eq hxj (by rw [I.has]; exact hh), hplace d hxj hh]
      | false =>
        rw [Tr.get_of_not_has _ d (by rw [Fr.put_has, I.has]; exact hh), Tr.get_of_not_has _ d (by rw [hhas]; exact hh)]
    · rw [Fr.put_get_ne hxj]
      rcases hx with rfl | hx
      · rw [hj] at hq; cases hq; exact absurd hd hxj
      · exact I.done x q d hx hq hd
  · have hne : o.dst ≠ some d := hd j o ((hmem j).2 (.inl rfl)) hj
    rw [Fr.put_get_ne hne]
    exact I.left d fun x q hx hq => hd x q ((hmem x).2 (.inr hx)) hq
theorem all_listed {ops : Array Oper} {b : Array Bool} (hs : b.size = ops.size) (hok : ∀ (j : Nat) (o : Oper), ops.toList[j]? = some o → ∀ e ∈ o.after.toList, Region.binds .any e = true → e.on < j) (hr : Region.ready .any ops b = []) : ∀ j, j < ops.size → Listed b j := by
  intro j
  induction j using Nat.strongRecOn with
  | _ j ih =>
    intro hj
    cases h : b.getD j false with
    | true => exact h
    | false =>
      exfalso
      have hm : j ∈ Region.ready .any ops b := by
        rw [mem_ready]
        refine ⟨?_, ops[j], Array.getElem?_eq_getElem hj, fun e he hb => ?_⟩
        · rw [← h]
          simp [Array.getD_eq_getD_getElem?, Array.getElem?_eq_getElem (show j < b.size by omega)]
        · have := hok j ops[j] (by rw [Array.getElem?_toList]; exact Array.getElem?_eq_getElem hj) e (by simpa using he) hb
          exact ih e.on this (by omega)
      rw [hr] at hm
      cases hm
theorem idx_apart {l : List (Nat × Oper)} (h : l.Pairwise (fun x y => x.1 ≠ y.1)) {pre post : List (Nat × Oper)} {x : Nat × Oper} (hl : l = pre ++ x :: post) :
    (∀ y ∈ pre, y.1 ≠ x.1) ∧ (∀ y ∈ post, x.1 ≠ y.1) ∧ ∀ y ∈ pre, ∀ z ∈ post, y.1 ≠ z.1 := by
  subst hl
  obtain ⟨_, h2, h3⟩ := List.pairwise_append.1 h
  exact ⟨fun y hy => h3 y hy x (by simp), (List.pairwise_cons.1 h2).1, fun y hy z hz => h3 y hy z (by simp [hz])⟩
section
variable [Memo] {C : Cx} {E : Ev}
theorem draw_sound (hE : SoundE C E) (hC : ∀ c, C.okc c = true → okCode C.P c = true) (hm : C.P.follows .mixedOrders = true) : SoundD C E := by
  intro ops fr s fr' s' e hl
  simp only [aregion] at e
  unfold adraw2 at e
  split at e
  case h_2 => cases e
  case h_1 r hrun =>
    obtain ⟨hchk, e⟩ := bif_some e
    cases e
    obtain ⟨hrnd, hkr⟩ := arun_kept hE hC _ hrun hl
    refine ⟨⟨hrnd, hkr⟩, fun hok hops ρ0 a0 w0 F id hF h0 hg0 hfr0 => ?_⟩
    simp only [Bool.and_eq_true] at hchk
    obtain ⟨⟨hcf, hfa⟩, hcl⟩ := hchk
    simp only [drawOk, drawOkL, Bool.and_eq_true] at hok
    obtain ⟨hopers, hap, hord, hacts⟩ := hok
    obtain ⟨ho1, ho2, ho3, _⟩ := orderOk_spec _ _ hord
    have hmem : ∀ x ∈ orderOf ops.toList, ops.toList[x.1]? = some x.2 := fun x hx => orderOf_mem hx
    have hpos : ∀ j o, ops.toList[j]? = some o → ∃ pre post, orderOf ops.toList = pre ++ (j, o) :: post := fun j o ho => by
      have hj := (List.getElem?_eq_some_iff.1 ho).1
      rcases ho1 j hj with h | ⟨x, hx, rfl⟩
      · rw [Nat.zero_testBit] at h; cases h
      · have := hmem x hx
        rw [ho] at this; cases this
        exact List.append_of_mem hx
    have hbefore : ∀ pre j o post, orderOf ops.toList = pre ++ (j, o) :: post → ∀ i, (nthN (masks ops.toList) j).testBit i = true → ∃ y ∈ pre, y.1 = i := fun pre j o post hl i hb => by
      rcases ho2 pre (j, o) post hl i hb with h | h
      · rw [Nat.zero_testBit] at h; cases h
      · exact h
    have hdst : (orderOf ops.toList).Pairwise (fun x y => ∀ d, x.2.dst = some d → y.2.dst ≠ some d) := List.Pairwise.imp_of_mem (fun {x y} hx hy hne d h1 h2 => hne (dst_unique hap (hmem x hx) (hmem y hy) h1 h2)) ho3
    have hoper : ∀ j o, ops.toList[j]? = some o → operOk ops.toList (masks ops.toList) j o = true := fun j o ho => by
      have := opersOk_spec _ 0 hopers j o ho
      simpa using this
    have hedge : ∀ (j : Nat) (o : Oper), ops.toList[j]? = some o → ∀ e ∈ o.after.toList, Region.binds .any e = true → e.on < j := fun j o ho e he hb => by
      have := hoper j o ho
      simp only [operOk, Bool.and_eq_true] at this
      exact edges_lt this.1 he hb
    have hnd : ∀ x ∈ orderOf ops.toList, isDefer x.2.op = false := fun x hx => by
      have := hoper x.1 x.2 (hmem x hx)
      simp only [operOk, Bool.and_eq_true, Bool.not_eq_true'] at this
      exact this.2.1
    obtain ⟨⟨r1, r2, r3, r4⟩, hst0, hidx, hgrow, hfrm, hfact⟩ := arun_spec _ _ _ _ hrun hnd hdst
    have hhas : ∀ d, r.fr.t.has d = fr.t.has d := r3
    obtain ⟨_, hchain⟩ := actsOk_spec _ _ hacts
    rw [← hidx] at hchain
    have hactIs : ∀ q x, (r.snaps.map (·.1))[q]? = some x → ∃ o, ops.toList[x]? = some o ∧ isAct o = true := fun q x hx => by
      rw [hidx] at hx
      obtain ⟨o, h1, h2⟩ := actIdx_get _ _ _ hx
      exact ⟨o, hmem _ h1, h2⟩
    have hactEq : ∀ q q' x, (r.snaps.map (·.1))[q]? = some x → (r.snaps.map (·.1))[q']? = some x → q = q' := fun q q' x hx hy => by
      rw [hidx] at hx hy
      exact actIdx_inj _ ho3 _ _ _ hx hy
    -- the end
    have fin : ∀ b a w ρ k fT, Inv C ops fr s r ρ0 b a w ρ k fT → Region.ready .any ops b = [] → Post C s.n ρ0 .normal r.fr r.s .normal a w := fun b a w ρ k fT I hr => by
      have hall := all_listed I.size hedge hr
      have hall' : ∀ j o, ops.toList[j]? = some o → Listed b j := fun j o ho => hall j (by simpa using (List.getElem?_eq_some_iff.1 ho).1)
      have hk : k = r.snaps.length := by
        rcases Nat.lt_or_ge k r.snaps.length with hlt | hge
        · exfalso
          have hx : (r.snaps.map (·.1))[k]? = some ((r.snaps.map (·.1))[k]'(by simpa using hlt)) := List.getElem?_eq_getElem _
          obtain ⟨o, ho, _⟩ := hactIs _ _ hx
          have := (I.acts _ _ hx).1 (hall' _ _ ho)
          omega
        · exact Nat.le_antisymm I.kle hge
      have hrel := I.rel
      rw [stK_last _ _ _ (by omega)] at hrel
      refine ⟨rfl, ρ, I.ext, hrel, ⟨⟨fun i => ?_, fun i => ?_⟩, ?_⟩⟩
      · rw [hhas, ← I.has]; exact I.frs.t.has i
      · have : r.fr.t.get i = fT.t.get i := by
          by_cases hex : ∃ (j : Nat) (o : Oper), ops.toList[j]? = some o ∧ o.dst = some i
          · obtain ⟨j, o, ho, hd⟩ := hex
            exact (I.done j o i (hall' j o ho) ho hd).symm
          · have hno : ∀ (j : Nat) (o : Oper), ops.toList[j]? = some o → o.dst ≠ some i := fun j o ho hd => hex ⟨j, o, ho, hd⟩
            rw [r4 i fun x hx => hno x.1 x.2 (hmem x hx)]
            exact (I.left i fun j o _ ho => hno j o ho).symm
        rw [this]; exact I.frs.t.get i
      · have := I.frs.ds
        rw [I.ds] at this
        rw [r2]; exact this
    -- the rounds
    have main : ∀ (n : Nat) (b : Array Bool) (a : Act) (w : World) (ρ : Rho) (k : Nat) (fT : Fr), Inv C ops fr s r ρ0 b a w ρ k fT → b.toList.count false ≤ n →
        wpAnyIn F 0 C.P .any ops (Post C s.n ρ0 .normal r.fr r.s) n b a w := by
      intro n
      induction n with
      | zero =>
        intro b a w ρ k fT I hcnt
        have hr : Region.ready .any ops b = [] := by
          cases hrr : Region.ready .any ops b with
          | nil => rfl
          | cons j t =>
            exfalso
            have hm : j ∈ Region.ready .any ops b := by rw [hrr]; simp
            obtain ⟨h1, o, ho, _⟩ := mem_ready.1 hm
            have hlt : j < b.size := by rw [I.size]; exact (Array.getElem?_eq_some_iff.1 ho).1
            have hf : b.toList[j]'(by simpa using hlt) = false := by
              rw [Array.getD_eq_getD_getElem?, Array.getElem?_eq_getElem hlt] at h1
              simpa using h1
            have : false ∈ b.toList := by rw [← hf]; exact List.getElem_mem _
            have := List.count_pos_iff.2 this
            omega
        exact ⟨hr, fin b a w ρ k fT I hr⟩
      | succ n ih =>
        intro b a w ρ k fT I hcnt
        refine ⟨fin b a w ρ k fT I, fun j hj => ?_⟩
        obtain ⟨hun, o, ho, hedges⟩ := mem_ready.1 hj
        have hoL : ops.toList[j]? = some o := by rw [Array.getElem?_toList]; exact ho
        have hlt : j < b.size := by rw [I.size]; exact (Array.getElem?_eq_some_iff.1 ho).1
        have hnot : ¬ Listed b j := fun hh => by
          unfold Listed at hh
          rw [Array.getD_eq_getD_getElem?, Array.getElem?_eq_getElem hlt] at hun hh
          simp at hun hh
          rw [hun] at hh; cases hh
        have hpre : ∀ e ∈ o.after.toList, Region.binds .any e = true → Listed b e.on := fun e he hb => hedges e (by simpa using he) hb
        have hcnt' := count_set hlt hun hcnt
        have hmaskIn : ∀ i, (nthN (masks ops.toList) j).testBit i = true → Listed b i := closed_mask I.closed j o hoL hpre
        have hmaskOf : ∀ x q, Listed b x → ops.toList[x]? = some q → (nthN (masks ops.toList) x).testBit j = false := fun x q hx hq => by
          cases hb : (nthN (masks ops.toList) x).testBit j with
          | false => rfl
          | true => exact absurd (closed_mask I.closed x q hq (I.closed x q hx hq) j hb) hnot
        -- where it may stand
        have hadm : ∀ {f : St → Bool}, admits (masks ops.toList) j f r.s 0 r.snaps = true → f (stK r.snaps r.s k) = true := fun {f} hadm => by
          refine admits_spec r.snaps 0 hadm k I.kle (fun _ => Nat.zero_testBit _) (fun x hk hx => ?_) fun x hx => ?_
          · obtain ⟨q, hq, _⟩ := hactIs _ _ hx
            exact hmaskOf x q ((I.acts _ _ hx).2 (by omega)) hq
          · cases hb : (nthN (masks ops.toList) j).testBit x with
            | false => rfl
            | true =>
              have := (I.acts _ _ hx).1 (hmaskIn x hb)
              omega
        obtain ⟨pre, post, hl⟩ := hpos j o hoL
        obtain ⟨hi1, hi2, hi3⟩ := idx_apart ho3 hl
        obtain ⟨u, sq, s1, kq, v, f1, f2, f3, f4, f5, f6, f7, f8, f9, f10⟩ := hfact pre j o post hl
        have hag : ∀ d ∈ names ops.toList o, fT.t.get d = u.t.get d := fun d hd => by
          have hopj := hoper j o hoL
          simp only [operOk, Bool.and_eq_true] at hopj
          have hwr := List.all_eq_true.1 hopj.2.2 d hd
          by_cases hex : ∃ (i : Nat) (x : Oper), ops.toList[i]? = some x ∧ x.dst = some d
          · obtain ⟨i, x, hx, hxd⟩ := hex
            have hw := writersIn_spec _ 0 hwr i x hx hxd
            simp only [Nat.zero_add] at hw
            have huni : ∀ (q' : Nat) (o' : Oper), ops.toList[q']? = some o' → o'.dst = some d → q' = i := fun q' o' hq' hd' => dst_unique hap hq' hx hd' hxd
            rcases hw with hbit | hbit
            · obtain ⟨y, hy, hyi⟩ := hbefore pre j o post hl i hbit
              rw [I.done i x d (hmaskIn i hbit) hx hxd]
              refine (f2 d (fun z hz hzd => ?_) fun hod => ?_).symm
              · have := huni z.1 z.2 (hmem z (by rw [hl]; simp [hz])) hzd
                exact hi3 y hy z hz (hyi.trans this.symm)
              · have := huni j o hoL hod
                exact hi1 y hy (hyi.trans this.symm)
            · have hni : ¬ Listed b i := by
                rcases hbit with rfl | hbit
                · exact hnot
                · intro hL
                  have := hmaskOf i x hL hx
                  rw [hbit] at this; cases this
              rw [I.left d fun j' o' hL hq' hd' => hni (huni j' o' hq' hd' ▸ hL)]
              refine (f1 d fun y hy hyd => ?_).symm
              have hyi := huni y.1 y.2 (hmem y (by rw [hl]; simp [hy])) hyd
              rcases hbit with rfl | hbit
              · exact hi1 y hy hyi
              · obtain ⟨p1, p2, rfl⟩ := List.append_of_mem hy
                have hsplit : orderOf ops.toList = p1 ++ (y.1, y.2) :: (p2 ++ (j, o) :: post) := by rw [hl]; simp
                obtain ⟨z, hz, hzj⟩ := hbefore p1 y.1 y.2 _ hsplit j (by rw [hyi]; exact hbit)
                exact hi1 z (by simp [hz]) hzj
          · have hno : ∀ (q' : Nat) (o' : Oper), ops.toList[q']? = some o' → o'.dst ≠ some d := fun q' o' hq' hd' => hex ⟨q', o', hq', hd'⟩
            rw [I.left d fun j' o' _ hq' => hno j' o' hq']
            exact (f1 d fun y hy => hno y.1 y.2 (hmem y (by rw [hl]; simp [hy]))).symm
        have hFT : Fen F fT.rnd ρ := by
          rw [I.rnd]; exact hF.mono (h0.sub I.ext)
        have hgk : Glob C (stK r.snaps r.s k) := hg0.kept I.kept
        have hwant := awanted_eq (ops := ops) (o := o) I.frs.t
        have hagv := aval_names hag
        have haw := awanted_congr hag
        have hplace : ∀ d, o.dst = some d → fr.t.has d = true → r.fr.t.get d = v := f7
        -- the value that an operation without memory yields is the one in hand
        have hsamev : ∀ v1, fT.put o.dst v = fT.put o.dst v1 → ∀ d, o.dst = some d → fr.t.has d = true → r.fr.t.get d = v1 := fun v1 hput d hd hh => by
          rw [hplace d hd hh]
          have h1 := Fr.put_get_eq (fr := fT) (v := v) hd (by rw [I.has]; exact hh)
          have h2 := Fr.put_get_eq (fr := fT) (v := v1) hd (by rw [I.has]; exact hh)
          rw [← h1, hput, h2]
        -- those that do not count
        have actsSame : isAct o = false → ∀ q x, (r.snaps.map (·.1))[q]? = some x → (x = j ∨ Listed b x ↔ q < k) := fun ha q x hx => by
          rw [← I.acts q x hx]
          constructor
          · rintro (rfl | h)
            · obtain ⟨o', ho', ha'⟩ := hactIs _ _ hx
              rw [hoL] at ho'; cases ho'
              rw [ha] at ha'; cases ha'
            · exact h
          · exact fun h => .inr h
        unfold wpOpIn
        simp only [ho]
        cases hz : isFresh o with
        | true =>
          have hgd := (fresh_kind hz).2
          have hact := fresh_act hz
          have hwt : awanted ops.toList o fT.t = true := by unfold awanted; rw [hgd]
          have hwu : awanted ops.toList o u.t = true := by rw [← haw]; exact hwt
          obtain ⟨v1, ob, hs1, hop1, hput⟩ := astep_fresh hz (f8 hwu fT hagv)
          obtain ⟨c, ty, v2, hv2, hs2, hmk⟩ := fresh_sound hz hop1
          cases hv2
          have hrec := f6 hz
          rw [hs2, St.at_new, if_pos rfl] at hrec
          simp only [Option.getD_some] at hrec
          obtain ⟨hn0, hn1, hclr, hadz⟩ := chkFresh_spec _ hcf _ _ _ hrec
          have hat := sameAO_spec (hadm hadz)
          have hp : ρ sq.n = none := I.ph j _ _ hrec hnot
          rw [if_pos (by rw [← hwant]; exact hwt)]
          refine ⟨fun f _ => hFT.fn f, ?_⟩
          obtain ⟨c', v', hlr, hrunz, hvr⟩ := hmk ρ a w (FR.eval I.rel I.frs) (List.all_eq_true.1 hops o (List.mem_of_getElem? hoL))
          have hnd1 : ∀ c, o.op ≠ .defer c := fun c hc => by
            have := hnd (j, o) (by rw [hl]; simp)
            simp only [hc, isDefer] at this
            cases this
          rw [Oper.semAt_eq _ _ _ hnd1, hrunz]
          refine ih _ _ _ _ _ _ (I.step (v := v1) (ρ' := upd ρ sq.n (w.heap.size, 0, 0)) (k' := k) hoL hap hpre (hsamev v1 hput) hhas I.kle (actsSame hact) (fun A hA => (upd_other (by omega) _).trans (I.ext A hA))
            (I.rel.phantom hp hat hlr) I.kept (fun z p' ob' hz1 hz4 hz5 => ?_) ((I.frs.mono (sub_upd hp _)).put _ (hvr _ (upd_same _ _ _)))) hcnt'
          rw [upd_other (freshApart_spec _ hfa _ hz1 _ hrec hz4)]
          exact I.ph z p' ob' hz1 hz5
        | false =>
          have hk1 : ∃ k1, k1 ≤ r.snaps.length ∧ (∀ q x, (r.snaps.map (·.1))[q]? = some x → (x = j ∨ Listed b x ↔ q < k1)) ∧ (isAct o = true → kq = k ∧ k1 = k + 1) ∧ (isAct o = false → k1 = k) := by
            cases ha : isAct o with
            | false => exact ⟨k, I.kle, actsSame ha, fun h => (by cases h), fun _ => rfl⟩
            | true =>
              have hkq : (r.snaps.map (·.1))[kq]? = some j := by rw [List.getElem?_map, f3 ha]; rfl
              have hn : ¬ kq < k := fun h => hnot ((I.acts _ _ hkq).2 h)
              have hge : kq ≤ k := by
                cases kq with
                | zero => exact Nat.zero_le _
                | succ q =>
                  have hql : q < (r.snaps.map (·.1)).length := by
                    have := (List.getElem?_eq_some_iff.1 hkq).1; omega
                  have hx := List.getElem?_eq_getElem hql
                  have := (I.acts _ _ hx).1 (hmaskIn _ (hchain q _ j hx hkq))
                  omega
              have hkk : kq = k := by omega
              subst hkk
              refine ⟨kq + 1, ?_, fun q x hx => ?_, fun _ => ⟨rfl, rfl⟩, fun h => (by cases h)⟩
              · have := (List.getElem?_eq_some_iff.1 hkq).1
                simp only [List.length_map] at this
                omega
              · constructor
                · rintro (rfl | h)
                  · have := hactEq q kq x hx hkq; omega
                  · have := (I.acts q x hx).1 h; omega
                · intro h
                  rcases Nat.lt_or_ge q kq with h1 | h1
                  · exact .inr ((I.acts q x hx).2 h1)
                  · have : q = kq := by omega
                    subst this
                    rw [hx] at hkq; injection hkq with hkq
                    exact .inl hkq
          obtain ⟨k1, hk1l, hk1a, hk1t, hk1f⟩ := hk1
          cases hwt : awanted ops.toList o fT.t with
          | true =>
            rw [if_pos (by rw [← hwant]; exact hwt)]
            have hwu : awanted ops.toList o u.t = true := by rw [← haw]; exact hwt
            have hstep : ∃ v1 sA, astep C.P C.ro E o fT (stK r.snaps r.s k) = some (fT.put o.dst v1, sA) ∧ (∀ d, o.dst = some d → fr.t.has d = true → r.fr.t.get d = v1) ∧ Grew sA (stK r.snaps r.s k1) ∧ ∀ z p ob, (z, p, ob) ∈ r.frs → p < (stK r.snaps r.s k).n ∨ sA.n ≤ p := by
              have h7 := f8 hwu fT hagv
              cases ha : isAct o with
              | true =>
                obtain ⟨rfl, rfl⟩ := hk1t ha
                have hsn := f3 ha
                rw [stK_get _ r.s _ _ _ _ hsn]
                refine ⟨v, s1, h7, hplace, hgrow _ _ _ _ hsn, fun z p ob hzm => ?_⟩
                exact clearOf_spec _ (chkFresh_spec _ hcf _ _ _ hzm).2.2.1 _ (List.mem_of_getElem? hsn)
              | false =>
                have := hk1f ha
                subst this
                have hg := f4 ha
                have key : ∃ v1, astep C.P C.ro E o fT (stK r.snaps r.s k1) = some (fT.put o.dst v1, stK r.snaps r.s k1) ∧ (∀ d, o.dst = some d → fr.t.has d = true → r.fr.t.get d = v1) := by
                  obtain ⟨_, v1, hv1, hput⟩ := astep_still ha hz h7 f10
                  rcases still_kind ha hz with hk | hk
                  · -- no memory
                    obtain ⟨_, _, hfree⟩ := aop_free hk _ _ _ hv1
                    refine ⟨v1, ?_, hsamev v1 hput⟩
                    unfold astep; rw [show aop C.P C.ro fT.t o (stK r.snaps r.s k1) = _ from hfree (stK r.snaps r.s k1)]; rfl
                  · cases hsn : r.snaps with
                    | nil =>
                      rw [hsn] at hg
                      refine ⟨v1, ?_, hsamev v1 hput⟩
                      have := aop_load_grew hg hk hv1
                      unfold astep
                      rw [show stK [] r.s k1 = stK [] r.s kq from rfl, this]; rfl
                    | cons x y =>
                      have hcl' : chkLoads C.P C.ro ops.toList (masks ops.toList) r.fr.t r.snaps r.s r.lds = true := by
                        rw [hsn] at hcl ⊢
                        simpa using hcl
                      rw [← hsn]
                      have hld := chkLoads_spec _ hcl' j o u.t (f5 (by unfold isLoad; rw [hk]))
                      simp only [chkLoad, hwu, Bool.not_true, Bool.false_or] at hld
                      have hs := hadm hld
                      unfold sameR at hs
                      split at hs
                      case h_2 => cases hs
                      case h_1 v1 s1 hv1 =>
                        simp only [Bool.and_eq_true] at hs
                        obtain ⟨hs0, hs⟩ := hs
                        obtain ⟨rfl, _⟩ := aop_load hk hv1 (Nat.eq_of_beq_eq_true hs0)
                        refine ⟨v1, ?_, fun d hd _ => ?_⟩
                        · unfold astep; rw [aop_congr hagv, hv1]; rfl
                        · rw [hd] at hs
                          exact veq_eq _ _ hs
                obtain ⟨v1, h1, h2⟩ := key
                exact ⟨v1, _, h1, h2, .refl _, fun z p ob _ => Nat.lt_or_ge _ _⟩
            obtain ⟨v1, sA, hst, hpl, hgA, hclr⟩ := hstep
            obtain ⟨⟨_, hkk⟩, hrule⟩ := step_sound hE hC hst I.kept.len
            refine hrule (List.all_eq_true.1 hops o (List.mem_of_getElem? hoL)) ρ a w F _ _ hFT I.rel hgk I.frs fun ρ' a' w' hx hrel hfr => ?_
            refine ih _ _ _ _ _ _ (I.step hoL hap hpre hpl hhas hk1l hk1a (I.ext.trans hx I.kept.n) (hrel.more hgA.n (hgA.len hkk.len) hgA.same) (I.kept.trans (hkk.trans (hgA.kept hkk.len))) (fun z p ob hz1 _ hz5 => ?_) hfr) hcnt'
            rcases hclr z p ob hz1 with h | h
            · rw [hx p h]; exact I.ph z p ob hz1 hz5
            · cases hpp : ρ' p with
              | none => rfl
              | some x => have := hrel.dom p x hpp; omega
          | false =>
            rw [if_neg (by rw [← hwant, hwt]; simp)]
            have hwu : awanted ops.toList o u.t = false := by rw [← haw]; exact hwt
            obtain ⟨rfl, hss⟩ := f9 hwu
            have hgA : Grew (stK r.snaps r.s k) (stK r.snaps r.s k1) := by
              cases ha : isAct o with
              | true =>
                obtain ⟨rfl, rfl⟩ := hk1t ha
                have hsn := f3 ha
                subst hss
                rw [stK_get _ r.s _ _ _ _ hsn]
                exact hgrow _ _ _ _ hsn
              | false => rw [hk1f ha]; exact .refl _
            exact ⟨fun f _ => hFT.fn f, ih _ _ _ ρ k1 _ (I.step hoL hap hpre hplace hhas hk1l hk1a I.ext (I.rel.more hgA.n (hgA.len I.kept.len) hgA.same) (I.kept.trans (hgA.kept I.kept.len)) (fun z p ob hz1 _ hz5 => I.ph z p ob hz1 hz5) (I.frs.put _ .undef)) hcnt'⟩
    refine wpIn_region_any hm (main ops.size _ a0 _ ρ0 0 fr ⟨by simp, fun x o hx => ?_, fun q x hx => ?_, Nat.zero_le _, Ext.refl _ _, ?_, ?_, fun z p ob h1 _ => ?_, rfl, rfl, hfr0, fun _ => rfl, fun x o d hx => ?_, fun _ _ => rfl⟩ ?_)
    · exfalso; unfold Listed at hx; simp [Array.getD_eq_getD_getElem?, Array.getElem?_replicate] at hx
      split at hx <;> simp at hx
    · constructor
      · intro hx; exfalso; unfold Listed at hx; simp [Array.getD_eq_getD_getElem?, Array.getElem?_replicate] at hx
        split at hx <;> simp at hx
      · intro h; omega
    · exact (h0.more hst0.n (hst0.len hl) hst0.same).drew
    · exact hst0.kept hl
    · have hc := chkFresh_spec _ hcf _ _ _ h1
      cases hp : ρ0 p with
      | none => rfl
      | some x => have := h0.dom p x hp; omega
    · exfalso; unfold Listed at hx; simp [Array.getD_eq_getD_getElem?, Array.getElem?_replicate] at hx
      split at hx <;> simp at hx
    · refine Nat.le_trans List.count_le_length ?_
      simp
end
end Go.VE
/- The evaluator is sound. -/
namespace Go.VE
open Go Go.RowKit
theorem ev_sound [Memo] {C : Cx} (hC : ∀ c, C.okc c = okCode C.P c) (hm : C.P.follows .mixedOrders = true) : ∀ n, SoundE C (ev C.P C.ro n)
  | 0 => fun _ _ _ _ _ _ e _ => by cases e
  | n + 1 => by
    have ih := ev_sound hC hm n
    exact code_sound ih (draw_sound ih (fun c h => (hC c) ▸ h) hm) hC
theorem calls [Memo] {P : Program} {ro base n : Nat} {f : FuncId} {args : List Value} {s s' : St} {v : Value} (hm : P.follows .mixedOrders = true) (e : acall P ro (ev P ro n) f args s = some (v, s')) (hl : s.h.length = s.n) (hg : P.globals.size ≤ s.n) {w0 w : World} (hM : MemoOk P base w0) {ρ : Rho} {args' : Array Value}
    (h : Rel { P := P, ro := ro, base := base, w0 := w0, okc := okCode P, mok := hM } ρ s w) (ha : LR ρ args args'.toList) :
    Calls P f args' w fun e w' => ∃ v', e = .returned v' ∧ ∃ ρ', Ext s.n ρ ρ' ∧ Rel { P := P, ro := ro, base := base, w0 := w0, okc := okCode P, mok := hM } ρ' s' w' ∧ VR ρ' v v' :=
  callsIn_wide.1 ((call_sound (C := { P := P, ro := ro, base := base, w0 := w0, okc := okCode P, mok := hM }) (ev_sound (fun _ => rfl) hm n) e hl).2 ρ args' w h hg ha)
end Go.VE
/- Where a call begins: what the package's variables and the arguments read as, as the evaluator's blocks. -/
namespace Go.VE
open Go Go.RowKit
def absSeq {H : Type} (f : TypeId → DataW H → Nat → Option (List Value × List AO)) : List (TypeId × DataW H) → Nat → Option (List Value × List AO)
  | [], _ => some ([], [])
  | (t, d) :: r, n =>
    match f t d n with
    | some (c, b) => match absSeq f r (n + b.length) with
      | some (c2, b2) => some (c ++ c2, b ++ b2)
      | none => none
    | none => none
def tiles (P : Program) : List Field → Nat → Nat → Bool
  | [], o, n => Nat.beq o n
  | f :: r, o, n => Nat.beq f.offset o && tiles P r (o + P.cellsOf f.type) n
def absBlock (n : Nat) (v : Value) (t : TypeId) : Option (List Value × List AO) → Option (List Value × List AO)
  | some (c, b) => some ([v], .cells c t false :: b)
  | none => none
def absD {H : Type} (P : Program) : Nat → TypeId → DataW H → Nat → Option (List Value × List AO)
  | 0, _, _, _ => none
  | f + 1, t, d, n =>
    match P.underlying t, d with
    | some .bool, .lit (.bool b) => some ([.bool b], [])
    | some (.int _), .lit (.int k i) => some ([.int k i], [])
    | some .string, .lit (.string l) => some ([.string ⟨l.toArray⟩], [])
    | some (.pointer _), .nil => some ([.pointer none], [])
    | some (.pointer e), .ptr d => bif Nat.beq (P.cellsOf e) 0 then none else absBlock n (.pointer (some ⟨n, 0, none⟩)) e (absD P f e d (n + 1))
    | some (.slice _), .nil => some ([.slice none 0 0], [])
    | some (.slice e), .slice el sp =>
      bif Nat.beq (P.cellsOf e) 0 || (el ++ sp).isEmpty then none
      else absBlock n (.slice (some ⟨n, 0, none⟩) el.length (el.length + sp.length)) e (absSeq (absD P f) ((el ++ sp).map fun d => (e, d)) (n + 1))
    | some (.struct fs), .agg ds => bif tiles P fs.toList 0 (P.cellsOf t) && Nat.beq ds.length fs.toList.length then absSeq (absD P f) ((fs.toList.map (·.type)).zip ds) n else none
    | some (.array m e), .agg ds => bif Nat.beq (m * P.cellsOf e) (P.cellsOf t) && Nat.beq ds.length m then absSeq (absD P f) (ds.map fun d => (e, d)) n else none
    | _, _ => none
def Stands [Memo] (P : Program) (W : World) (n : Nat) (cs' : List Value) (acs : List Value) (bl : List AO) : Prop :=
  ∃ pl : List (Nat × Nat × Nat), pl.length = bl.length ∧ (∀ p ∈ pl, p.1 < W.heap.size) ∧ ∀ ρ : Rho, (∀ (i : Nat) (p : Nat × Nat × Nat), pl[i]? = some p → ρ (n + i) = some p) →
    LR ρ acs cs' ∧ ∀ (C : Cx) (i : Nat) (o : AO) (p : Nat × Nat × Nat), n + bl.length ≤ C.ro → bl[i]? = some o → pl[i]? = some p → OR C ρ (n + i) p.1 p.2 W o
theorem Stands.none [Memo] {P : Program} {W : World} {n : Nat} {cs acs : List Value} (h : ∀ ρ, LR ρ acs cs) : Stands P W n cs acs [] :=
  ⟨[], rfl, fun p hp => by simp at hp, fun ρ _ => ⟨h ρ, fun _ i o p _ hb _ => by simp at hb⟩⟩
theorem Stands.append [Memo] {P : Program} {W : World} {n : Nat} {cs cs2 acs acs2 : List Value} {bl bl2 : List AO} (h : Stands P W n cs acs bl) (k : Stands P W (n + bl.length) cs2 acs2 bl2) : Stands P W n (cs ++ cs2) (acs ++ acs2) (bl ++ bl2) := by
  obtain ⟨pl, h1, h2, h3⟩ := h
  obtain ⟨pl2, k1, k2, k3⟩ := k
  refine ⟨pl ++ pl2, by simp [h1, k1], fun p hp => ?_, fun ρ hρ => ?_⟩
  · rcases List.mem_append.1 hp with hp | hp
    · exact h2 p hp
    · exact k2 p hp
  · obtain ⟨a1, a2⟩ := h3 ρ fun i p hp => hρ i p (by rw [List.getElem?_append_left (List.getElem?_eq_some_iff.1 hp).1]; exact hp)
    obtain ⟨b1, b2⟩ := k3 ρ fun i p hp => by
      have := hρ (pl.length + i) p (by rw [List.getElem?_append_right (by omega)]; simpa using hp)
      rw [← h1, Nat.add_assoc]; exact this
    refine ⟨a1.append b1, fun C i o p hro hb hp => ?_⟩
    simp only [List.length_append] at hro
    rcases Nat.lt_or_ge i bl.length with hi | hi
    · rw [List.getElem?_append_left hi] at hb
      rw [List.getElem?_append_left (by omega)] at hp
      exact a2 C i o p (by omega) hb hp
    · rw [List.getElem?_append_right hi] at hb
      rw [List.getElem?_append_right (by omega), h1] at hp
      have := b2 C (i - bl.length) o p (by omega) hb hp
      rw [show n + bl.length + (i - bl.length) = n + i by omega] at this
      exact this
theorem cells_piece {w : World} {base : Nat} {a : Addr} {n : Nat} {cs : List Value} (h : w.cells? base a n = some cs) (hn : 0 < n) :
    ∃ c' t f, w.heap[a.block]? = some (.cells c' t f) ∧ a.spot = none ∧ a.off + n ≤ c'.size ∧ (c'.toList.drop a.off).take n = cs := by
  obtain ⟨_, hl, hc⟩ := World.cells?_some h
  have get : ∀ i (hi : i < n), w.cell? (a.add i) = some (cs[i]'(by omega)) := fun i hi => by rw [hc i hi]; exact List.getElem?_eq_getElem (by omega)
  have h0 := get 0 hn
  unfold World.cell? at h0
  have hbl : ∀ i, (a.add i).block = a.block := fun i => by unfold Addr.add; split <;> rfl
  have hb := hbl 0
  rw [hb] at h0
  cases hh : w.heap[a.block]? with
  | none => rw [hh] at h0; cases h0
  | some o =>
    rw [hh] at h0
    cases o with
    | cells c' t f =>
      simp only at h0
      have hs : a.spot = none := by
        cases hs : a.spot with
        | none => rfl
        | some k => simp [Addr.add, hs] at h0
      have get2 : ∀ i, i < n → c'[a.off + i]? = cs[i]? := fun i hi => by
        have := hc i hi
        unfold World.cell? at this
        have ha : a.add i = ⟨a.block, a.off + i, none⟩ := by
          obtain ⟨b, o, sp⟩ := a
          simp only at hs
          subst hs
          exact addr_add b o i
        rw [ha] at this
        simp only [hh, Option.isSome_none, Bool.false_eq_true, if_false] at this
        exact this
      have hle : a.off + n ≤ c'.size := by
        have := get2 (n - 1) (by omega)
        rw [List.getElem?_eq_getElem (by omega)] at this
        have := (Array.getElem?_eq_some_iff.1 this).1
        omega
      refine ⟨c', t, f, rfl, hs, hle, ?_⟩
      apply List.ext_getElem?
      intro i
      by_cases hi : i < n
      · rw [List.getElem?_take_of_lt hi, List.getElem?_drop, Array.getElem?_toList, get2 i hi]
      · rw [List.getElem?_take_eq_none (by omega), List.getElem?_eq_none (by omega)]
    | _ => cases h0
theorem flatten_pieces {l : List Value} {sz : Nat} : ∀ (css : List (List Value)) (off : Nat), (∀ i cs, css[i]? = some cs → (l.drop (off + i * sz)).take sz = cs ∧ cs.length = sz) → (l.drop off).take (css.length * sz) = css.flatten
  | [], off, _ => by simp
  | cs :: r, off, h => by
    obtain ⟨h0, hl⟩ := h 0 cs rfl
    have ih := flatten_pieces r (off + sz) fun i cs' hi => by
      have := h (i + 1) cs' (by simpa using hi)
      rw [show off + (i + 1) * sz = off + sz + i * sz by rw [Nat.add_mul]; omega] at this
      exact this
    simp only [List.flatten_cons, List.length_cons]
    rw [← ih, ← h0]
    simp only [Nat.zero_mul, Nat.add_zero]
    rw [show (r.length + 1) * sz = sz + r.length * sz by rw [Nat.add_mul]; omega, List.take_add, List.drop_drop]
section
variable [Memo] {H : Type} {enc : TypeId × Value → H} {P : Program} {W : World} {held : Bool}
def Reads (enc : TypeId × Value → H) (P : Program) (W : World) (held : Bool) (m f : Nat) : Prop :=
  ∀ t cs x n acs bl, DataW.trod enc P W 0 (fun _ => true) held m t cs = some x → absD P f t x.1 n = some (acs, bl) → Stands P W n cs acs bl
theorem seq_stands {m f : Nat} (ih : Reads enc P W held m f) : ∀ (items : List (TypeId × DataW H)) (css : List (List Value)) (n : Nat) (acs : List Value) (bl : List AO), css.length = items.length →
    (∀ (i : Nat) (t : TypeId) (d : DataW H) (cs : List Value), items[i]? = some (t, d) → css[i]? = some cs → ∃ ps, DataW.trod enc P W 0 (fun _ => true) held m t cs = some (d, ps)) → absSeq (absD P f) items n = some (acs, bl) → Stands P W n css.flatten acs bl
  | [], css, n, acs, bl, hl, _, e => by
    cases e
    have : css = [] := List.length_eq_zero_iff.1 hl
    subst this
    exact Stands.none fun ρ => LR.nil
  | (t, d) :: r, css, n, acs, bl, hl, h, e => by
    cases css with
    | nil => simp at hl
    | cons cs css =>
      simp only [absSeq] at e
      split at e
      case h_2 => cases e
      case h_1 c b h1 =>
        split at e
        case h_2 => cases e
        case h_1 c2 b2 h2 =>
          cases e
          obtain ⟨ps, h0⟩ := h 0 t d cs rfl rfl
          rw [List.flatten_cons]
          exact (ih t cs _ n c b h0 h1).append (seq_stands ih r css (n + b.length) c2 b2 (by simpa using hl) (fun i t d cs hi hc => h (i + 1) t d cs (by simpa using hi) (by simpa using hc)) h2)
theorem block_stands {n : Nat} {a : Addr} {c' : Array Value} {t' e : TypeId} {f : Nat × Nat} {v v' : Value} {cs acs : List Value} {r : Option (List Value × List AO)} {bl : List AO} (hb : W.heap[a.block]? = some (.cells c' t' f)) (hsz : a.off + cs.length ≤ c'.size) (hc : (c'.toList.drop a.off).take cs.length = cs)
    (hr : ∀ c b, r = some (c, b) → Stands P W (n + 1) cs c b) (hv : ∀ (ρ : Rho) (p : Nat × Nat × Nat), ρ n = some p → p = (a.block, 0, a.off) → VR ρ v v') (e1 : absBlock n v e r = some (acs, bl)) : Stands P W n [v'] acs bl := by
  unfold absBlock at e1
  split at e1
  case h_2 => cases e1
  case h_1 c b =>
    cases e1
    obtain ⟨pl, h1, h2, h3⟩ := hr c b rfl
    refine ⟨(a.block, 0, a.off) :: pl, by simp [h1], fun p hp => ?_, fun ρ hρ => ?_⟩
    · rcases List.mem_cons.1 hp with rfl | hp
      · exact (Array.getElem?_eq_some_iff.1 hb).1
      · exact h2 p hp
    · obtain ⟨a1, a2⟩ := h3 ρ fun i p hp => by
        have := hρ (i + 1) p (by simpa using hp)
        rw [show n + 1 + i = n + (i + 1) by omega]; exact this
      have h0 := hρ 0 _ rfl
      refine ⟨LR.cons (hv ρ _ h0 rfl) .nil, fun C i o p hro hbi hp => ?_⟩
      simp only [List.length_cons] at hro
      cases i with
      | zero =>
        simp only [List.getElem?_cons_zero, Option.some.injEq] at hbi hp
        subst hbi; subst hp
        have hl := a1.len
        refine ⟨c', t', f, hb, by simp only; omega, ?_, fun hh => by omega⟩
        simp only
        rw [hl, hc]; exact a1
      | succ i =>
        simp only [List.getElem?_cons_succ] at hbi hp
        have := a2 C i o p (by omega) hbi hp
        rw [show n + (i + 1) = n + 1 + i by omega]; exact this
end
section
variable {P : Program}
theorem tiles_flat : ∀ (fs : List Field) (o n : Nat) (l : List Value), tiles P fs o n = true → l.length = n → (fs.map fun f => (l.drop f.offset).take (P.cellsOf f.type)).flatten = l.drop o
  | [], o, n, l, h, hl => by
    have := Nat.eq_of_beq_eq_true h
    subst this
    simp [← hl]
  | f :: r, o, n, l, h, hl => by
    simp only [tiles, Bool.and_eq_true] at h
    have ho := Nat.eq_of_beq_eq_true h.1
    simp only [List.map_cons, List.flatten_cons]
    rw [tiles_flat r _ n l h.2 hl, ho, ← List.drop_drop, List.take_append_drop]
end
section
variable [Memo] {H : Type} {enc : TypeId × Value → H} {P : Program} {W : World} {held : Bool}
theorem reads : ∀ (m f : Nat), Reads enc P W held m f
  | 0, _ => fun t cs x n acs bl h _ => by simp [DataW.trod] at h
  | m + 1, 0 => fun t cs x n acs bl _ e => by cases e
  | m + 1, f + 1 => fun t cs x n acs bl h e => by
    have ih := reads m f
    unfold absD at e
    split at e
    case h_1 hu hd =>
      cases e
      obtain ⟨b, rfl, rfl⟩ := DataW.trod_bool hu h
      cases hd
      exact Stands.none fun ρ => LR.of_flat rfl
    case h_2 hu hd =>
      cases e
      obtain ⟨b, rfl, rfl, _⟩ := DataW.trod_int hu h
      cases hd
      exact Stands.none fun ρ => LR.of_flat rfl
    case h_3 hu hd =>
      cases e
      obtain ⟨b, rfl, rfl, _⟩ := DataW.trod_string hu h
      cases hd
      have : (⟨b.data.toList.toArray⟩ : ByteArray) = b := by cases b; simp
      rw [this]
      exact Stands.none fun ρ => LR.of_flat rfl
    case h_4 hu hd =>
      cases e
      rcases DataW.trod_pointer hu h with ⟨rfl, rfl⟩ | ⟨a, cs', y, k, _, rfl, rfl, _, _⟩
      · exact Stands.none fun ρ => LR.of_flat rfl
      · cases hd
    case h_5 el d hu hd =>
      rcases DataW.trod_pointer hu h with ⟨rfl, rfl⟩ | ⟨a, cs', y, k, hk, rfl, rfl, hc, hy⟩
      · cases hd
      · cases hd
        injection hk with hk
        subst hk
        cases hz : Nat.beq (P.cellsOf el) 0 with
        | true => rw [hz] at e; cases e
        | false =>
          rw [hz] at e
          simp only [cond_false] at e
          have hpos : 0 < P.cellsOf el := by
            rcases Nat.eq_zero_or_pos (P.cellsOf el) with h0 | h0
            · rw [h0] at hz; cases hz
            · exact h0
          obtain ⟨c', t', fz, h1, h2, h3, h4⟩ := cells_piece hc hpos
          have hlen : cs'.length = P.cellsOf el := (World.cells?_some hc).2.1
          refine block_stands (cs := cs') h1 (by omega) (by rw [hlen]; exact h4) (fun c b hr => ih el cs' y (n + 1) c b hy hr) (fun ρ p hp hpe => ?_) e
          subst hpe
          obtain ⟨ab, ao, asp⟩ := a
          simp only at h2
          subst h2
          have := VR.ptr 0 hp
          simp only [Nat.zero_add] at this
          exact this
    case h_6 hu hd =>
      cases e
      rcases DataW.trod_slice hu h with ⟨rfl, rfl⟩ | ⟨a, len, cap, elems, rest, k, _, rfl, rfl, _⟩
      · exact Stands.none fun ρ => LR.of_flat rfl
      · cases hd
    case h_7 el els sp hu hd =>
      rcases DataW.trod_slice hu h with ⟨rfl, rfl⟩ | ⟨a, len, cap, elems, rest, k, hk, rfl, rfl, _, hlc, _, hel, hget, hrest, _⟩
      · cases hd
      · cases hd
        injection hk with hk
        subst hk
        obtain ⟨hrl, hrget⟩ := hrest rfl
        cases hz : (Nat.beq (P.cellsOf el) 0 || (elems.map (·.1) ++ rest.map (·.1)).isEmpty) with
        | true => rw [hz] at e; cases e
        | false =>
          rw [hz] at e
          simp only [cond_false] at e
          simp only [Bool.or_eq_false_iff] at hz
          have hpos : 0 < P.cellsOf el := by
            rcases Nat.eq_zero_or_pos (P.cellsOf el) with h0 | h0
            · have := hz.1; rw [h0] at this; cases this
            · exact h0
          have hcap : (elems ++ rest).length = cap := by simp; omega
          have hne : 0 < (elems ++ rest).length := by
            rcases Nat.eq_zero_or_pos (elems ++ rest).length with h0 | h0
            · have h9 := hz.2
              rw [← List.map_append, List.length_eq_zero_iff.1 h0] at h9; cases h9
            · exact h0
          -- each place
          have hall : ∀ i, i < (elems ++ rest).length → (W.cells? 0 (a.add (i * P.cellsOf el)) (P.cellsOf el)).bind (DataW.trod enc P W 0 (fun _ => true) held m el) = (elems ++ rest)[i]? := fun i hi => by
            rcases Nat.lt_or_ge i elems.length with h1 | h1
            · rw [List.getElem?_append_left h1]; exact hget i (by omega)
            · rw [List.getElem?_append_right h1]
              have := hrget (i - elems.length) (by simp at hi; omega)
              rw [show len + (i - elems.length) = i by omega] at this
              exact this
          have hpc : ∀ i, i < (elems ++ rest).length → ∃ cs' y, W.cells? 0 (a.add (i * P.cellsOf el)) (P.cellsOf el) = some cs' ∧ DataW.trod enc P W 0 (fun _ => true) held m el cs' = some y ∧ (elems ++ rest)[i]? = some y := fun i hi => by
            have := hall i hi
            rw [List.getElem?_eq_getElem hi] at this
            obtain ⟨cs', h1, h2⟩ := Option.bind_eq_some_iff.1 this
            exact ⟨cs', _, h1, h2, List.getElem?_eq_getElem hi⟩
          obtain ⟨cs0, y0, hc0, _, _⟩ := hpc 0 hne
          obtain ⟨c', t', fz, h1, h2, h3, h4⟩ := cells_piece hc0 hpos
          obtain ⟨ab, ao, asp⟩ := a
          have hz0 : (⟨ab, ao, asp⟩ : Addr).add (0 * P.cellsOf el) = ⟨ab, ao, asp⟩ := by simp [Addr.add]
          rw [hz0] at h1 h2 h3 h4
          simp only at h1 h2 h3 h4
          subst h2
          have hpiece : ∀ i cs', W.cells? 0 ((⟨ab, ao, none⟩ : Addr).add (i * P.cellsOf el)) (P.cellsOf el) = some cs' → (c'.toList.drop (ao + i * P.cellsOf el)).take (P.cellsOf el) = cs' ∧ cs'.length = P.cellsOf el ∧ ao + i * P.cellsOf el + P.cellsOf el ≤ c'.size := fun i cs' hc => by
            obtain ⟨c2, t2, f2, k1, k2, k3, k4⟩ := cells_piece hc hpos
            rw [addr_add] at k1 k3 k4
            simp only at k1 k3 k4
            rw [h1] at k1; cases k1
            exact ⟨k4, (World.cells?_some hc).2.1, k3⟩
          let css : List (List Value) := (List.range (elems ++ rest).length).map fun i => (c'.toList.drop (ao + i * P.cellsOf el)).take (P.cellsOf el)
          have hcl : css.length = (elems ++ rest).length := by simp [css]
          have hcget : ∀ i cs', css[i]? = some cs' → i < (elems ++ rest).length ∧ W.cells? 0 ((⟨ab, ao, none⟩ : Addr).add (i * P.cellsOf el)) (P.cellsOf el) = some cs' := fun i cs' hi => by
            have hlt : i < (elems ++ rest).length := by rw [← hcl]; exact (List.getElem?_eq_some_iff.1 hi).1
            obtain ⟨cs2, y, k1, _, _⟩ := hpc i hlt
            have k2 := (hpiece i cs2 k1).1
            simp only [css, List.getElem?_map, List.getElem?_range hlt, Option.map_some, Option.some.injEq] at hi
            rw [k2] at hi
            subst hi
            exact ⟨hlt, k1⟩
          have hflat := flatten_pieces (l := c'.toList) (sz := P.cellsOf el) css ao fun i cs' hi => by
            have := hpiece i cs' (hcget i cs' hi).2
            exact ⟨this.1, this.2.1⟩
          have hend : ao + (elems ++ rest).length * P.cellsOf el ≤ c'.size := by
            obtain ⟨cs2, y, k1, _, _⟩ := hpc ((elems ++ rest).length - 1) (by omega)
            have := (hpiece _ cs2 k1).2.2
            have e2 : (elems ++ rest).length * P.cellsOf el = ((elems ++ rest).length - 1) * P.cellsOf el + P.cellsOf el := by
              rw [← Nat.succ_mul]; congr 1; omega
            omega
          have hfl : css.flatten.length = (elems ++ rest).length * P.cellsOf el := by
            have e3 : css.length * P.cellsOf el = (elems ++ rest).length * P.cellsOf el := by rw [hcl]
            have e4 : c'.toList.length = c'.size := Array.length_toList
            rw [← hflat, List.length_take, List.length_drop, ← e3]
            rw [← e3] at hend
            omega
          refine block_stands (a := ⟨ab, ao, none⟩) (cs := css.flatten) h1 (by simp only; omega) (by rw [hfl, ← hcl]; exact hflat) (fun c b hr => ?_) (fun ρ p hp hpe => ?_) e
          · refine seq_stands ih _ css (n + 1) c b (by rw [hcl]; simp) (fun i t d cs' hi hcs => ?_) hr
            obtain ⟨hlt, k1⟩ := hcget i cs' hcs
            obtain ⟨cs2, y, k2, k3, k4⟩ := hpc i hlt
            rw [k1] at k2; cases k2
            rw [← List.map_append, List.getElem?_map, List.getElem?_map, k4] at hi
            simp only [Option.map_some, Option.some.injEq, Prod.mk.injEq] at hi
            obtain ⟨rfl, rfl⟩ := hi
            exact ⟨y.2, k3⟩
          · subst hpe
            have := VR.sl 0 (elems.map (·.1)).length ((elems.map (·.1)).length + (rest.map (·.1)).length) hp
            simp only [Nat.zero_add, List.length_map] at this ⊢
            rw [show elems.length + rest.length = cap by simpa using hcap] at this ⊢
            rw [hel] at this ⊢
            exact this
    case h_8 fs ds hu hd =>
      obtain ⟨xs, k, hk, rfl, hcl, hxl, hget⟩ := DataW.trod_struct hu h
      cases hd
      injection hk with hk
      subst hk
      cases hz : (tiles P fs.toList 0 (P.cellsOf t) && Nat.beq (xs.map (·.1)).length fs.toList.length) with
      | false => rw [hz] at e; cases e
      | true =>
        rw [hz] at e
        simp only [cond_true] at e
        simp only [Bool.and_eq_true] at hz
        have hfl := tiles_flat fs.toList 0 (P.cellsOf t) cs hz.1 hcl
        rw [List.drop_zero] at hfl
        rw [← hfl]
        refine seq_stands ih _ _ n acs bl (by simp [hxl]) (fun i t' d cs' hi hcs => ?_) e
        rw [List.getElem?_map] at hcs
        cases hfi : fs.toList[i]? with
        | none => rw [hfi] at hcs; cases hcs
        | some fd =>
          rw [hfi] at hcs
          simp only [Option.map_some, Option.some.injEq] at hcs
          subst hcs
          have hg := hget i fd (by rw [← Array.getElem?_toList]; exact hfi)
          rw [List.getElem?_zip_eq_some] at hi
          obtain ⟨hi1, hi2⟩ := hi
          rw [List.getElem?_map, hfi] at hi1
          simp only [Option.map_some, Option.some.injEq] at hi1
          subst hi1
          rw [List.getElem?_map] at hi2
          cases hx : xs[i]? with
          | none => rw [hx] at hi2; cases hi2
          | some y =>
            rw [hx] at hi2 hg
            simp only [Option.map_some, Option.some.injEq] at hi2
            subst hi2
            exact ⟨y.2, hg⟩
    case h_9 k el ds hu hd =>
      obtain ⟨xs, m', hk, rfl, hcl, hxl, hget⟩ := DataW.trod_array hu h
      cases hd
      injection hk with hk
      subst hk
      cases hz : (Nat.beq (k * P.cellsOf el) (P.cellsOf t) && Nat.beq (xs.map (·.1)).length k) with
      | false => rw [hz] at e; cases e
      | true =>
        rw [hz] at e
        simp only [cond_true] at e
        simp only [Bool.and_eq_true] at hz
        have hsz := Nat.eq_of_beq_eq_true hz.1
        let css : List (List Value) := (List.range k).map fun i => (cs.drop (i * P.cellsOf el)).take (P.cellsOf el)
        have hcssl : css.length = k := by simp [css]
        have hcget : ∀ i cs', css[i]? = some cs' → i < k ∧ cs' = (cs.drop (i * P.cellsOf el)).take (P.cellsOf el) := fun i cs' hi => by
          have hlt : i < k := by rw [← hcssl]; exact (List.getElem?_eq_some_iff.1 hi).1
          simp only [css, List.getElem?_map, List.getElem?_range hlt, Option.map_some, Option.some.injEq] at hi
          exact ⟨hlt, hi.symm⟩
        have hflat := flatten_pieces (l := cs) (sz := P.cellsOf el) css 0 fun i cs' hi => by
          obtain ⟨hlt, rfl⟩ := hcget i cs' hi
          refine ⟨by rw [Nat.zero_add], ?_⟩
          have : (i + 1) * P.cellsOf el ≤ k * P.cellsOf el := Nat.mul_le_mul_right _ hlt
          rw [Nat.succ_mul] at this
          rw [List.length_take, List.length_drop]
          omega
        have hcs : cs = css.flatten := by
          rw [← hflat, hcssl, List.drop_zero, List.take_of_length_le (by omega)]
        rw [hcs]
        refine seq_stands ih _ css n acs bl (by rw [hcssl]; simp [hxl]) (fun i t' d cs' hi hc => ?_) e
        obtain ⟨hlt, rfl⟩ := hcget i cs' hc
        have hg := hget i hlt
        rw [List.getElem?_map, List.getElem?_map] at hi
        cases hx : xs[i]? with
        | none => rw [hx] at hi; cases hi
        | some y =>
          rw [hx] at hi hg
          simp only [Option.map_some, Option.some.injEq, Prod.mk.injEq] at hi
          obtain ⟨rfl, rfl⟩ := hi
          exact ⟨y.2, hg⟩
    case h_10 => cases e
end
end Go.VE
/- A law's call, from the world in which it begins. -/
namespace Go.VE
open Go Go.RowKit
def putAll : List AO → St → St
  | [], s => s
  | o :: r, s => putAll r (s.new o)
theorem putAll_spec : ∀ (l : List AO) (s : St), s.h.length = s.n → (putAll l s).n = s.n + l.length ∧ (putAll l s).h.length = s.n + l.length ∧ ∀ A, (putAll l s).at A = if A < s.n then s.at A else l[A - s.n]?
  | [], s, h => ⟨rfl, h, fun A => by
      split
      · rfl
      · rename_i hA; show s.at A = _; rw [St.at_eq, if_neg hA]; simp⟩
  | o :: r, s, h => by
    obtain ⟨h1, h2, h3⟩ := putAll_spec r (s.new o) (by simp [St.new, h])
    have hn : (s.new o).n = s.n + 1 := rfl
    refine ⟨by simp only [putAll, h1, hn, List.length_cons]; omega, by simp only [putAll, h2, hn, List.length_cons]; omega, fun A => ?_⟩
    simp only [putAll]
    rw [h3, hn, St.at_new]
    by_cases hA : A < s.n
    · rw [if_pos hA, if_pos (by omega), if_neg (by omega)]
    · rw [if_neg hA]
      by_cases hB : A = s.n
      · rw [if_pos (by omega), if_pos hB, hB]; simp
      · rw [if_neg (by omega), show A - s.n = (A - (s.n + 1)) + 1 by omega, List.getElem?_cons_succ]
def stOf (l : List AO) : St := { putAll l ⟨⟨.e, 0⟩, 0, 0⟩ with lo := l.length }
theorem stOf_n (l : List AO) : (stOf l).n = l.length := by
  have := (putAll_spec l ⟨⟨.e, 0⟩, 0, 0⟩ rfl).1
  simpa [stOf] using this
theorem stOf_len (l : List AO) : (stOf l).h.length = (stOf l).n := by
  rw [stOf_n]
  have := (putAll_spec l ⟨⟨.e, 0⟩, 0, 0⟩ rfl).2.1
  simpa [stOf] using this
theorem at_rev (l : List AO) (A : Nat) : (stOf l).at A = l[A]? := by
  have := (putAll_spec l ⟨⟨.e, 0⟩, 0, 0⟩ rfl).2.2 A
  simpa [stOf, St.at] using this
def absLaid (P : Program) (f : Nat) : List (String × DataW Unit) → Nat → Option (List (Nat × AO) × List AO)
  | [], _ => some ([], [])
  | (name, d) :: r, n =>
    match P.globalNamed name with
    | some g => match P.globals[g]? with
      | some gl => match absD P f gl.type d n with
        | some (c, b) => match absLaid P f r (n + b.length) with
          | some (gs, bs) => some ((g, .cells c gl.type false) :: gs, b ++ bs)
          | none => none
        | none => match absLaid P f r n with
          | some (gs, bs) => some ((g, .dead) :: gs, bs)
          | none => none
      | none => none
    | none => none
def findG (g : Nat) : List (Nat × AO) → AO
  | [] => .dead
  | (h, o) :: r => bif Nat.beq h g then o else findG g r
def absHeap (G : Nat) (x : List (Nat × AO) × List AO) : List AO := (List.range G).map (fun g => findG g x.1) ++ x.2
theorem absHeap_len (G : Nat) (x : List (Nat × AO) × List AO) : (absHeap G x).length = G + x.2.length := by simp [absHeap]
structure LaidIn [Memo] (P : Program) (W : World) (n : Nat) (gs : List (Nat × AO)) (bl : List AO) (pl : List (Nat × Nat × Nat)) : Prop where
  len : pl.length = bl.length
  lt : ∀ p ∈ pl, p.1 < W.heap.size
  glt : ∀ x ∈ gs, x.1 < W.heap.size
  or : ∀ ρ : Rho, (∀ (i : Nat) (p : Nat × Nat × Nat), pl[i]? = some p → ρ (n + i) = some p) →
    (∀ (C : Cx) (i : Nat) (o : AO) (p : Nat × Nat × Nat), n + bl.length ≤ C.ro → bl[i]? = some o → pl[i]? = some p → OR C ρ (n + i) p.1 p.2 W o) ∧
    ∀ (C : Cx) (x : Nat × AO), x ∈ gs → x.1 < C.ro → OR C ρ x.1 x.1 (0, 0) W x.2
theorem laid_in [Memo] {P : Program} {W : World} {f : Nat} : ∀ (laid : List (String × DataW Unit)) (n : Nat) (gs : List (Nat × AO)) (bl : List AO) (ps : List MemPlace), DataW.LaidVars P W laid ps → absLaid P f laid n = some (gs, bl) → ∃ pl, LaidIn P W n gs bl pl
  | [], n, gs, bl, ps, _, e => by
    cases e
    exact ⟨[], rfl, fun p hp => by simp at hp, fun x hx => by simp at hx, fun ρ _ => ⟨fun C i o p _ hb _ => by simp at hb, fun C x hx => by simp at hx⟩⟩
  | (name, d) :: r, n, gs, bl, ps, h, e => by
    obtain ⟨g, t, cs, fuel, p, q, hg, ht, hv, htr, hrest, _⟩ := h
    simp only [absLaid, hg] at e
    cases hgl : P.globals[g]? with
    | none => rw [hgl] at e; cases e
    | some gl =>
      rw [hgl] at e ht
      simp only [Option.map_some, Option.some.injEq] at ht
      subst ht
      simp only at e
      cases hd : absD P f gl.type d n with
      | none =>
        rw [hd] at e
        simp only at e
        cases hl : absLaid P f r n with
        | none => rw [hl] at e; cases e
        | some x =>
          obtain ⟨gs2, bs⟩ := x
          rw [hl] at e
          cases e
          obtain ⟨pl2, k⟩ := laid_in r n gs2 bl q hrest hl
          have hblk : ∃ t' fz, W.heap[g]? = some (.cells cs t' fz) := by
            unfold World.var? at hv
            rw [hg] at hv
            simp only [Option.bind_some] at hv
            split at hv
            · rename_i c2 t2 f2 hw
              cases hv
              exact ⟨t2, f2, hw⟩
            · cases hv
          obtain ⟨t', fz, hblk⟩ := hblk
          refine ⟨pl2, k.len, k.lt, fun x hx => ?_, fun ρ hρ => ?_⟩
          · rcases List.mem_cons.1 hx with rfl | hx
            · exact (Array.getElem?_eq_some_iff.1 hblk).1
            · exact k.glt x hx
          · obtain ⟨b1, b2⟩ := k.or ρ hρ
            refine ⟨b1, fun C x hx hro => ?_⟩
            rcases List.mem_cons.1 hx with rfl | hx
            · exact trivial
            · exact b2 C x hx hro
      | some cb =>
        obtain ⟨c, b⟩ := cb
        rw [hd] at e
        simp only at e
        cases hl : absLaid P f r (n + b.length) with
        | none => rw [hl] at e; cases e
        | some x =>
          obtain ⟨gs2, bs⟩ := x
          rw [hl] at e
          cases e
          obtain ⟨pl, h1, h2, h3⟩ := reads fuel f gl.type cs.toList (d, p) n c b htr hd
          obtain ⟨pl2, k⟩ := laid_in r (n + b.length) gs2 bs q hrest hl
          have hblk : ∃ t' fz, W.heap[g]? = some (.cells cs t' fz) := by
            unfold World.var? at hv
            rw [hg] at hv
            simp only [Option.bind_some] at hv
            split at hv
            · rename_i c2 t2 f2 hw
              cases hv
              exact ⟨t2, f2, hw⟩
            · cases hv
          obtain ⟨t', fz, hblk⟩ := hblk
          refine ⟨pl ++ pl2, by simp [h1, k.len], fun x hx => ?_, fun x hx => ?_, fun ρ hρ => ?_⟩
          · rcases List.mem_append.1 hx with hx | hx
            · exact h2 x hx
            · exact k.lt x hx
          · rcases List.mem_cons.1 hx with rfl | hx
            · exact (Array.getElem?_eq_some_iff.1 hblk).1
            · exact k.glt x hx
          · obtain ⟨a1, a2⟩ := h3 ρ fun i p hp => hρ i p (by rw [List.getElem?_append_left (List.getElem?_eq_some_iff.1 hp).1]; exact hp)
            obtain ⟨b1, b2⟩ := k.or ρ fun i p hp => by
              have := hρ (pl.length + i) p (by rw [List.getElem?_append_right (by omega)]; simpa using hp)
              rw [← h1, Nat.add_assoc]; exact this
            refine ⟨fun C i o p hro hb hp => ?_, fun C x hx hro => ?_⟩
            · simp only [List.length_append] at hro
              rcases Nat.lt_or_ge i b.length with hi | hi
              · rw [List.getElem?_append_left hi] at hb
                rw [List.getElem?_append_left (by omega)] at hp
                exact a2 C i o p (by omega) hb hp
              · rw [List.getElem?_append_right hi] at hb
                rw [List.getElem?_append_right (by omega), h1] at hp
                have := b1 C (i - b.length) o p (by omega) hb hp
                rw [show n + b.length + (i - b.length) = n + i by omega] at this
                exact this
            · rcases List.mem_cons.1 hx with rfl | hx
              · have hl1 := a1.len
                simp only [Array.length_toList] at hl1
                refine ⟨cs, t', fz, hblk, by simp only; omega, ?_, fun hh => ?_⟩
                · simp only [List.drop_zero]
                  rw [List.take_of_length_le (by simp; omega)]
                  exact a1
                · simp only at hro; omega
              · exact b2 C x hx hro
theorem findG_mem {g : Nat} : ∀ {gs : List (Nat × AO)}, findG g gs = .dead ∨ (g, findG g gs) ∈ gs
  | [] => .inl rfl
  | (h, o) :: r => by
    unfold findG
    cases hb : Nat.beq h g with
    | true =>
      have := Nat.eq_of_beq_eq_true hb
      subst this
      exact .inr (by simp)
    | false =>
      rcases findG_mem (g := g) (gs := r) with h1 | h1
      · exact .inl h1
      · exact .inr (by simp [h1])
theorem start_rel [Memo] {P : Program} {W : World} (hM : MemoOk P W.heap.size W) {gs : List (Nat × AO)} {bl : List AO} {pl : List (Nat × Nat × Nat)} (h : LaidIn P W P.globals.size gs bl pl) (hG : P.globals.size ≤ W.heap.size) {bl2 : List AO} {acs cs : List Value} (k : Stands P W (P.globals.size + bl.length) cs acs bl2) :
    ∃ ρ, Rel { P := P, ro := (absHeap P.globals.size (gs, bl ++ bl2)).length, base := W.heap.size, w0 := W, okc := okCode P, mok := hM } ρ (stOf (absHeap P.globals.size (gs, bl ++ bl2))) W ∧ LR ρ acs cs := by
  obtain ⟨pl2, k1, k2, k3⟩ := k
  have hlen := absHeap_len P.globals.size (gs, bl ++ bl2)
  simp only [List.length_append] at hlen
  let ρ : Rho := fun A => if A < P.globals.size then some (A, 0, 0) else (pl ++ pl2)[A - P.globals.size]?
  have hρ1 : ∀ (i : Nat) (p : Nat × Nat × Nat), pl[i]? = some p → ρ (P.globals.size + i) = some p := fun i p hp => by
    simp only [ρ]
    rw [if_neg (by omega), show P.globals.size + i - P.globals.size = i by omega, List.getElem?_append_left (List.getElem?_eq_some_iff.1 hp).1]
    exact hp
  have hρ2 : ∀ (i : Nat) (p : Nat × Nat × Nat), pl2[i]? = some p → ρ (P.globals.size + bl.length + i) = some p := fun i p hp => by
    simp only [ρ]
    rw [if_neg (by omega), show P.globals.size + bl.length + i - P.globals.size = pl.length + i by rw [h.len]; omega, List.getElem?_append_right (by omega)]
    simpa using hp
  obtain ⟨a1, a2⟩ := h.or ρ hρ1
  obtain ⟨b1, b2⟩ := k3 ρ hρ2
  have hcase : ∀ A p, ρ A = some p → (A < P.globals.size ∧ p = (A, 0, 0)) ∨ (P.globals.size ≤ A ∧ (pl ++ pl2)[A - P.globals.size]? = some p) := fun A p e => by
    simp only [ρ] at e
    split at e
    · rename_i hA; cases e; exact .inl ⟨hA, rfl⟩
    · rename_i hA; exact .inr ⟨by omega, e⟩
  have hlt2 : ∀ A p, (pl ++ pl2)[A - P.globals.size]? = some p → A - P.globals.size < bl.length + bl2.length := fun A p e => by
    have := (List.getElem?_eq_some_iff.1 e).1
    simp only [List.length_append, h.len, k1] at this
    exact this
  have hn : ∀ A p, ρ A = some p → A < (absHeap P.globals.size (gs, bl ++ bl2)).length := fun A p e => by
    rw [hlen]
    rcases hcase A p e with ⟨hA, _⟩ | ⟨hA, hp⟩
    · omega
    · have := hlt2 A p hp; omega
  refine ⟨ρ, ⟨stOf_len _, fun A p e => by rw [stOf_n]; exact hn A p e, fun A b x e => ?_, fun A b x o e ho => ?_, fun A b x hro e => ?_, fun A A' b x x' o o' hro e => ?_, fun A b x hro e => ?_, Nat.le_refl _, Below.refl _ _, fun g hg => ?_⟩, b1⟩
  · rcases hcase A _ e with ⟨hA, hp⟩ | ⟨hA, hp⟩
    · cases hp; omega
    · rcases List.mem_append.1 (List.mem_of_getElem? hp) with hm | hm
      · exact h.lt _ hm
      · exact k2 _ hm
  · rw [at_rev] at ho
    rcases hcase A _ e with ⟨hA, hp⟩ | ⟨hA, hp⟩
    · cases hp
      unfold absHeap at ho
      rw [List.getElem?_append_left (by simpa using hA), List.getElem?_map, List.getElem?_range hA] at ho
      simp only [Option.map_some, Option.some.injEq] at ho
      subst ho
      rcases findG_mem (g := A) (gs := gs) with h1 | h1
      · rw [h1]; trivial
      · exact a2 _ _ h1 (by simp only [hlen]; omega)
    · unfold absHeap at ho
      rw [List.getElem?_append_right (by simpa using hA)] at ho
      simp only [List.length_map, List.length_range] at ho
      rcases Nat.lt_or_ge (A - P.globals.size) bl.length with hi | hi
      · rw [List.getElem?_append_left hi] at ho
        rw [List.getElem?_append_left (by rw [h.len]; exact hi)] at hp
        have := a1 { P := P, ro := (absHeap P.globals.size (gs, bl ++ bl2)).length, base := W.heap.size, w0 := W, okc := okCode P, mok := hM } _ _ _ (by simp only [hlen]; omega) ho hp
        rw [show P.globals.size + (A - P.globals.size) = A by omega] at this
        exact this
      · rw [List.getElem?_append_right hi] at ho
        rw [List.getElem?_append_right (by rw [h.len]; exact hi), h.len] at hp
        have := b2 { P := P, ro := (absHeap P.globals.size (gs, bl ++ bl2)).length, base := W.heap.size, w0 := W, okc := okCode P, mok := hM } _ _ _ (by simp only [hlen]; omega) ho hp
        rw [show P.globals.size + bl.length + (A - P.globals.size - bl.length) = A by omega] at this
        exact this
  · exact absurd (hn A _ e) (by show ¬ _; simp only at hro; omega)
  · exact absurd (hn A _ e) (by show ¬ _; simp only at hro; omega)
  · exact absurd (hn A _ e) (by show ¬ _; simp only at hro; omega)
  · simp only [ρ]; rw [if_pos hg]
def lastIn (G : Nat) (gs : List (Nat × AO)) : Bool := Nat.beq G 0 || gs.any fun x => Nat.beq (x.1 + 1) G
theorem lastIn_le {G : Nat} {gs : List (Nat × AO)} {W : World} (h : lastIn G gs = true) (hg : ∀ x ∈ gs, x.1 < W.heap.size) : G ≤ W.heap.size := by
  simp only [lastIn, Bool.or_eq_true] at h
  rcases h with h | h
  · have := Nat.eq_of_beq_eq_true h; omega
  · obtain ⟨x, hx, hb⟩ := List.any_eq_true.1 h
    have := Nat.eq_of_beq_eq_true hb
    have := hg x hx
    omega
theorem MemoOk.mono [Memo] {P : Program} {base : Nat} {w0 W : World} (h : MemoOk P base w0) (hB : Below base w0 W) (hs : base ≤ W.heap.size) : MemoOk P W.heap.size W := ⟨fun f args v e => by
  obtain ⟨h1, h2, h3, h4⟩ := h.1 f args v e
  exact ⟨h1, h2, h3, fun W2 hB2 => h4 W2 (hB.trans (hB2.mono hs))⟩, fun f cs r v hs' e => by
  obtain ⟨h0, h1, h2, h3, h4⟩ := h.2 f cs r v hs' e
  exact ⟨h0, h1, h2, h3, fun W2 hB2 => h4 W2 (hB.trans (hB2.mono hs))⟩⟩
end Go.VE
/- A law's row: what is left behind, and the row of a law without arguments. -/
namespace Go.VE
open Go Go.RowKit Go.ChangeShapes
section
variable {H : Type} {enc : TypeId × Value → H} {P : Program} {W W' : World}
theorem trodAll_stays (hl : laidOutB P = true) (hB : Below W.heap.size W W') : ∀ (ts : List TypeId) (vs : List Value) (ds : List (DataW H)) (ps : List MemPlace), (∀ t ∈ ts, P.readableRec t = true ∧ t < P.types.size) →
    DataW.TrodAll enc P W 0 (fun _ => true) true ts vs ds ps → (∀ x ∈ ps, x.block < W.heap.size) → DataW.TrodAll enc P W' 0 (fun b => decide (b < W.heap.size)) true ts vs ds ps
  | [], [], [], ps, _, h, _ => h
  | t :: ts, v :: vs, d :: ds, ps, hr, h, hlt => by
    obtain ⟨p, q, h1, h2, rfl⟩ := h
    obtain ⟨r1, r2⟩ := hr t (by simp)
    exact ⟨p, q, Below.trod hl r1 r2 h1 hB fun x hx => hlt x (by simp [hx]), trodAll_stays hl hB ts vs ds q (fun t ht => hr t (by simp [ht])) h2 fun x hx => hlt x (by simp [hx]), rfl⟩
  | [], _ :: _, _, _, _, h, _ => h.elim
  | [], [], _ :: _, _, _, h, _ => h.elim
  | _ :: _, [], _, _, _, h, _ => h.elim
  | _ :: _, _ :: _, [], _, _, h, _ => h.elim
theorem law_post {f : Func} {s : ChangeSpec} {apart fresh handsOn : Bool} {args : Array Value} {ds gs : List (DataW H)} {before : List MemPlace} {tb : TypeId} (hW : DataW.Whole enc P f.params.toList s.vars apart W args.toList ds gs before)
    (hs : s.fn H (ds ++ gs) = { results := [.lit (.bool true)], args := ds }) (hv : s.vars = []) (rt : f.resultTypes = #[tb]) (hb : P.underlying tb = some .bool) (hl : laidOutB P = true) (hp : ∀ t ∈ f.params.toList, P.readableRec t = true ∧ t < P.types.size)
    (hB : Below W.heap.size W W') : s.post enc P f apart fresh handsOn false W args (.bool true) W' := by
  have hlt : ∀ x ∈ before, x.block < W.heap.size := fun x hx => by simpa using hW.lt x hx
  obtain ⟨p, q, hA, hV, rfl, hfz, hnd⟩ := id hW
  rw [hv] at hV
  refine ⟨ds, gs, p ++ q, [], p, [], hW, ?_, ?_, ?_, hB.frame _, fun h => by cases h⟩
  · rw [hs, rt]
    exact trodAll_mk1 (shut_bool hb true)
  · rw [hs]
    exact trodAll_stays hl hB _ _ _ _ hp hA fun x hx => hlt x (by simp [hx])
  · rw [hs, hv]; rfl
theorem nodup_vars {gs : List (DataW H)} {q : List MemPlace} {sp : Nat → Bool} (h : DataW.TrodVars enc P W sp [] gs q) : gs = [] ∧ q = [] := by
  cases gs with
  | nil => exact ⟨rfl, h⟩
  | cons _ _ => exact h.elim
end
theorem trodAll_len {H : Type} {enc : TypeId × Value → H} {P : Program} {W : World} : ∀ (ts : List TypeId) (vs : List Value) (ds : List (DataW H)) (ps : List MemPlace), DataW.TrodAll enc P W 0 (fun _ => true) true ts vs ds ps → ds.length = ts.length
  | [], [], [], _, _ => rfl
  | t :: ts, v :: vs, d :: ds, ps, h => by
    obtain ⟨p, q, _, h2, _⟩ := h
    simp [trodAll_len ts vs ds q h2]
  | [], _ :: _, _, _, h => h.elim
  | [], [], _ :: _, _, h => h.elim
  | _ :: _, [], _, _, h => h.elim
  | _ :: _, _ :: _, [], _, h => h.elim
end Go.VE
