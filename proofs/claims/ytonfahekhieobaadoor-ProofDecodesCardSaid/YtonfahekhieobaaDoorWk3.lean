/-
 What the functions compute.
-/
import Derived.Test.YtonfahekhieobaaDoorWk2
set_option linter.unusedSimpArgs false
set_option linter.unusedVariables false
set_option maxRecDepth 20000
namespace Go.VE
open Go Go.Proofs
set_option maxRecDepth 20000
section
variable {ro : Nat} {s : St} {K : Value → St → Prop} {W : Nat → Prop} {cs : List Value} {B : PfB} {Q : Nat} {g : Nat → Nat → Nat → List Int}
theorem Z26 {l : List Value} (h : ∀ v ∈ l, veq v v = true) : veq (.agg (.mk l)) (.agg (.mk l)) = true := by
 simp only [veq, veqA]
 induction l with
 | nil => rfl
 | cons v l ih =>
  simp only [veqL, h v List.mem_cons_self, Bool.true_and]
  exact ih fun x hx => h x (List.mem_cons_of_mem _ hx)
theorem Zmk (A o : Nat) (sp : Option Nat) (n c : Nat) : veq (.slice (some ⟨A, o, sp⟩) n c) (.slice (some ⟨A, o, sp⟩) n c) = true := by simp [veq]
theorem Z24 (h : Shp) : veq (.agg (.mk h.cells)) (.agg (.mk h.cells)) = true := by simp [veq, veqA, veqL, Shp.cells]
theorem Z3g {h : Shp} (hv : shV h = true) : (0 ≤ h.a ∧ h.a ≤ 100) ∧ 0 ≤ shR h ∧ shR h ≤ 100 ∧ 1 ≤ h.q ∧ h.q ≤ 64 := by
 have hv' := hv
 unfold shV inR at hv'
 simp only [Bool.and_eq_true, decide_eq_true_eq] at hv'
 have h1 : 0 ≤ h.a ∧ h.a ≤ 100 := by omega
 have h2 : 1 ≤ h.q ∧ h.q ≤ 64 := by omega
 have h3 : 0 ≤ shR h ∧ shR h ≤ 100 := by unfold shR; omega
 exact ⟨h1, h3.1, h3.2, h2.1, h2.2⟩
theorem Yfo (h : Shp) (hv : shV h = true) (hp : PfAt s W cs B (shR h).toNat h.q.toNat g) (hg : ∀ k q i, (g k q i).length < 2 ^ 20) (hw : Wf s) (hro : ro ≤ s.n) (hF : FieldsAt s) : CallWP P ro 22 [.agg (.mk h.cells), .agg (.mk cs)] s K = K (.bool (Zv7 h g)) s := by
 refine Zcl (Zas b22 rfl ?_) K
 rw [n22]
 unfold v22
 simp (maxSteps := 10000000) only [wW, reduceCtorEq, Nat.reduceEqDiff]
 refine Zam hw.ent fun C s1 m1 => ?_
 refine Zam m1.wf fun E s2 m2 => ?_
 have e1 := m1.eq
 have n1 := m1.n
 have e2 := m2.eq
 have n2 := m2.n
 refine Zai ty_4 m2.wf fun T s3 m3 => ?_
 have e3 := m3.eq
 have n3 := m3.n
 have hn0 : (ent s).n = s.n := rfl
 have g03 : Grew (ent s) s3 := (m1.grew.trans m2.grew).trans m3.grew
 have hC3 : s3.at C = some (.cells h.cells 23 false) := ((m2.grew.trans m3.grew).same C (by omega)).trans m1.here
 have hE3 : s3.at E = some (.cells cs 39 false) := (m3.grew.same E (by omega)).trans m2.here
 have hbd := Z3g hv
 have hp0 : PfAt (ent s) W cs B (shR h).toNat h.q.toNat g := hp.keep (s' := ent s) (Nat.le_refl _) fun _ _ => rfl
 have hp3 := hp0.grew g03
 have hF3 : FieldsAt s3 := FieldsAt.grew (s := ent s) hF g03
 rw [Zab, Zah Zc2 hC3 rfl, Zaa]
 refine ⟨Z24 h, ?_⟩
 rw [Zz3 h m3.wf (by omega) hF3, hv]
 have hc4 : h.cells[4]? = some (.int .i64 h.q) := rfl
 have hvq : veq (.int .i64 h.q) (.int .i64 h.q) = true := by simp [veq]
 simp (maxSteps := 10000000) only [wW, reduceCtorEq, Nat.reduceEqDiff, Zab, Zjk, Zan Zwp, Zac hE3, Nat.zero_add, hp.c4, Zmk, true_and, Zcv Zvf]
 rw [Zah Zc2 hC3 rfl, Zaa]
 refine ⟨Z24 h, ?_⟩
 rw [Zi6 h hbd.1 m3.wf]
 refine ⟨.refl _, ?_⟩
 simp (maxSteps := 10000000) only [wW, reduceCtorEq, Nat.reduceEqDiff]
 rw [if_neg (by omega)]
 simp (maxSteps := 10000000) only [wW, reduceCtorEq, Nat.reduceEqDiff, Zab, Zel, Zan Znt, Zac hE3, Nat.zero_add, hp.c7, Zmk, true_and, Zcv Zr7, Zc0, Zan ap_3, Zac hC3, hc4, hvq]
 rw [if_neg (by omega)]
 rw [Z9z hC3 hp3 (by omega) hbd.1 (by omega) m3.wf (by omega)]
 simp (maxSteps := 10000000) only [wW, reduceCtorEq, Nat.reduceEqDiff]
 rw [Zah Zc2 hC3 rfl, Zaa]
 refine Z62 h m3.wf fun B9 s4 g4 hB9 hB9n => ?_
 have n4 := g4.n
 have w4 := m3.wf.grew g4
 have hB9l := St.at_lt hB9
 refine Z2v (by omega) fun t ht => ?_
 have g5 : Grew s4 (s4.new (.defd (some []))) := .new _ _
 generalize hr0 : ({ state := .ready, pending := none, t := t, params := #[32].toList, assign := Ze2, body := Ze1, defers := s4.n } : Lp) = lp
 have g6 : Grew (s4.new (.defd (some []))) ((s4.new (.defd (some []))).new (.loop lp)) := .new _ _
 have hD6 : ((s4.new (.defd (some []))).new (.loop lp)).at s4.n = some (.defd (some [])) := (g6.same s4.n (Nat.lt_succ_self s4.n)).trans (Zdt _ _)
 have hL6 : ((s4.new (.defd (some []))).new (.loop lp)).at (s4.n + 1) = some (.loop lp) := Zdt (s4.new (.defd (some []))) _
 have w6 : Wf ((s4.new (.defd (some []))).new (.loop lp)) := (w4.new _).new _
 have n6 : ((s4.new (.defd (some []))).new (.loop lp)).n = s4.n + 2 := rfl
 have g46 := g5.trans g6
 have hlp : lp.state = .ready ∧ lp.pending = none ∧ lp.t = t ∧ lp.params = [32] ∧ lp.assign = Ze2 ∧ lp.body = Ze1 := by rw [← hr0]; exact ⟨rfl, rfl, rfl, rfl, rfl, rfl⟩
 clear hr0
 generalize (s4.new (.defd (some []))).new (.loop lp) = s6 at *
 have g06 := g03.trans (g4.trans g46)
 have g36 := g4.trans g46
 have hlo6 : s6.lo = s.n := g06.lo
 have elp : ({ lp with state := .ready, pending := none } : Lp) = lp := by
  obtain ⟨a, b, _⟩ := hlp
  cases lp
  simp only at a b
  subst a b
  rfl
 have hT3 : s3.at T = some (.cells [.bool false] 4 false) := m3.here
 refine Yb3 (h := h) lp (FtJ (ent s) h cs g C E T (s4.n + 1) s4.n lp) (FtS (ent s) h g T (s4.n + 1) s4.n lp) hv ((g46.same B9 hB9l).trans hB9) (by rw [hlp.2.2.2.1]; rfl) FtJ.cli (by omega) (by omega) (fun i M s' hi hJ => ?_) (M0 := [s4.n + 1]) ?_ ?_ (fun M s' hJ => ?_) (fun s' hS => ?_)
 ·refine Yc1 ht hlp ?_ ?_ ?_ hp0 hv hg hF (by omega) ⟨by omega, by omega, by omega, by omega, by omega, by omega, by omega, by omega, by omega, by omega⟩ hi hJ
  ·rfl
  ·rfl
  ·rfl
 ·refine ⟨w6.ent, by show s.n ≤ s6.n; omega, fun A hA => g06.same A hA, by show s.n ≤ s6.n; omega, hL6, hD6, (g36.same C (by omega)).trans hC3, (g36.same E (by omega)).trans hE3, (g36.same T (by omega)).trans hT3, fun x hx => (by simp at hx), rfl⟩
 ·simp only [List.mem_cons, List.not_mem_nil, or_false, not_or]
  omega
 ·refine ⟨lp, .normal, hJ.loop, .inl hlp.1, by rw [hlp.2.1]; rfl, ?_⟩
  have wf' : Wf ({ s' with lo := min s6.lo s'.lo } : St) := ⟨by show min s6.lo s'.lo ≤ s'.n; have := hJ.wf.lo; omega, hJ.wf.len⟩
  have pe := Put.mk' wf' (St.at_lt (s := ({ s' with lo := min s6.lo s'.lo } : St)) hJ.loop) (.loop { lp with state := .exhausted })
  generalize ({ s' with lo := min s6.lo s'.lo } : St).put (s4.n + 1) (.loop { lp with state := .exhausted }) = se at pe ⊢
  have hne := pe.n
  have hne' : se.n = s'.n := hne
  have hTe : se.at T = some (.cells [.bool false] 4 false) := (pe.rest T (by omega)).trans hJ.t
  have hDe : se.at s4.n = some (.defd (some [])) := (pe.rest _ (by omega)).trans hJ.dfr
  have hTl := St.at_lt hJ.t
  have hJn : s.n ≤ s'.n := hJ.n
  have hJlo : s.n ≤ s'.lo := hJ.lo
  simp (maxSteps := 10000000) only [U, Zad, wW, reduceCtorEq, Nat.reduceEqDiff]
  refine Zbc Yey hTe pe.wf (by omega) (by decide) rfl fun s7 p7 => ?_
  have n7 := p7.n
  have hD7 := (p7.rest s4.n (by omega)).trans hDe
  refine ⟨hD7, by omega, ?_⟩
  have pd := Put.mk' p7.wf (St.at_lt hD7) (.defd none)
  generalize s7.put s4.n (.defd none) = sd at pd ⊢
  have nd := pd.n
  have hTd : sd.at T = some (.cells [.bool true] 4 false) := (pd.rest T (by omega)).trans p7.here
  rw [Zfq, Zjh ap_4 hTd rfl, Zaa]
  have hb : Zv7 h g = true := by
   unfold Zv7
   exact List.all_eq_true.2 fun x hx => hJ.good x (by rw [List.take_length]; exact hx)
  refine Zau rfl ⟨by omega, ?_, fun A hA => ?_, fun _ => pd.wf.len⟩ ⟨by rw [hb], rfl⟩
  ·rw [pd.lo, p7.lo, pe.lo]
   show min (min (min (min s6.lo s'.lo) (s4.n + 1)) T) s4.n = s.n
   omega
  ·have hA' : A < s.n := hA
   rw [pd.rest A (by omega), p7.rest A (by omega), pe.rest A (by omega)]
   exact hJ.same A hA
 ·refine ⟨_, .ret, hS.loop, .inr rfl, rfl, ?_⟩
  have wf' : Wf ({ s' with lo := min s6.lo s'.lo } : St) := ⟨by show min s6.lo s'.lo ≤ s'.n; have := hS.wf.lo; omega, hS.wf.len⟩
  have pe := Put.mk' wf' (St.at_lt (s := ({ s' with lo := min s6.lo s'.lo } : St)) hS.loop) (.loop { lp with state := .exhausted, pending := some .ret })
  generalize ({ s' with lo := min s6.lo s'.lo } : St).put (s4.n + 1) (.loop { lp with state := .exhausted, pending := some .ret }) = se at pe ⊢
  have hne := pe.n
  have hne' : se.n = s'.n := hne
  have hTe : se.at T = some (.cells [.bool false] 4 false) := (pe.rest T (by omega)).trans hS.t
  have hDe : se.at s4.n = some (.defd (some [])) := (pe.rest _ (by omega)).trans hS.dfr
  have hJn : s.n ≤ s'.n := hS.n
  have hJlo : s.n ≤ s'.lo := hS.lo
  simp only [Zqr, Zvm]
  rw [r22]
  simp (maxSteps := 10000000) only [U, Zad, wW, reduceCtorEq, Nat.reduceEqDiff]
  refine ⟨hDe, by omega, ?_⟩
  have pd := Put.mk' pe.wf (St.at_lt hDe) (.defd none)
  generalize se.put s4.n (.defd none) = sd at pd ⊢
  have nd := pd.n
  have hTd : sd.at T = some (.cells [.bool false] 4 false) := (pd.rest T (by omega)).trans hTe
  rw [Zfq, Zab, Zjh ap_4 hTd rfl, Zaa]
  refine Zau rfl ⟨by omega, ?_, fun A hA => ?_, fun _ => pd.wf.len⟩ ⟨by rw [hS.bad], rfl⟩
  ·rw [pd.lo, pe.lo]
   show min (min (min s6.lo s'.lo) (s4.n + 1)) s4.n = s.n
   omega
  ·have hA' : A < s.n := hA
   rw [pd.rest A (by omega), pe.rest A (by omega)]
   exact hS.same A hA
end
def leB (x : Int) (j : Nat) : Int := IntKind.u8.wrap (x.fdiv (2 ^ min (8 * j) 64))
def leN (x : Int) (r : Nat) : List Int := (List.range r).map (leB x)
theorem Yan (x : Int) (r : Nat) : leN x (r + 1) = leN x r ++ [leB x r] := by
 unfold leN
 rw [List.range_succ, List.map_append]; rfl
theorem Z8d (x : Int) (r : Nat) : (leN x r).length = r := by unfold leN; simp
def encL (l : List Int) : List Int := l.flatMap fun x => leN x 4
theorem Z83 (l : List Int) (x : Int) : encL (l ++ [x]) = encL l ++ leN x 4 := by unfold encL; rw [List.flatMap_append]; simp
theorem Zrj : ∀ l : List Int, (encL l).length = 4 * l.length
 | [] => rfl
 | x :: l => by
  have ih := Zrj l
  unfold encL at ih ⊢
  rw [List.flatMap_cons, List.length_append, Z8d, ih, List.length_cons]
  omega
def encP (g : Nat → Nat → Nat → List Int) (l : List Prt) : List Int := l.flatMap fun x => encL (gOf g x)
theorem Z82 (g : Nat → Nat → Nat → List Int) (l : List Prt) (x : Prt) : encP g (l ++ [x]) = encP g l ++ encL (gOf g x) := by unfold encP; rw [List.flatMap_append]; simp
section
variable {ro : Nat} {s : St} {K : Value → St → Prop}
theorem Z19 (x : Int) (ty : TypeId) (s : St) (K : Value → St → Prop) : wop P ro (.convert 34 5 (.const (.int .u64 x))) ty s K = K (.int .u8 (IntKind.u8.wrap x)) s := by kernel_rfl
theorem Z59 {A m c : Nat} {cs : List Value} {x : Value} {y : Int} (hA : s.at A = some (.cells cs 5 false)) (hw : Wf s) (hro : ro ≤ A) (hx : Sl s x 1 1 [.int .u8 y]) (hm : m + 1 ≤ c) (hc : cs.length = c) {ty : TypeId}
  (hk : ∀ s', Put s A (.cells (splice cs m [.int .u8 y]) 5 false) s' → K (.slice (some ⟨A, 0, none⟩) (m + 1) c) s') : wop P ro (.call ⟨.builtin .append, ⟨[.const (.slice (some ⟨A, 0, none⟩) m c), .const x]⟩, #[32, 32]⟩) ty s K := by
 obtain ⟨i, hi, his, hib, hz, hf, hzs⟩ := Zep ty_5
 obtain ⟨ha, hfst⟩ := hx.first
 rw [Ziq]
 have e1 : Zd3 P ro s #[32, 32] [.slice (some ⟨A, 0, none⟩) m c, x] = some (.slice (some ⟨A, 0, none⟩) (m + 1) c, s.put A (.cells (splice cs m [.int .u8 y]) 5 false)) := by
  have hni : Zmz P 32 = true := by kernel_rfl
  simp only [Zd3, Zr9, hni, hi, ha, his, hfst, Option.bind_some, Zdv]
  rw [if_pos hm, Nat.zero_add, Nat.mul_one, Zhw hA hro (by simp) (by simp; omega) rfl]
  rfl
 rw [e1]
 exact hk _ (.mk' hw (St.at_lt hA) _)
structure EnI (s0 : St) (A X cap : Nat) (acc : List Int) (s : St) : Prop where
 wf : Wf s
 n : s0.n ≤ s.n
 rest : ∀ B, B < s0.n → B ≠ A → B ≠ X → s.at B = s0.at B
 lo : min s0.lo (min A X) ≤ s.lo
 a : ∃ c, s.at A = some (.cells c 5 false) ∧ c.length = cap ∧ c.take acc.length = acc.map (.int .u8) ∧ ∀ y ∈ c, ∃ z, y = .int .u8 z
 x : s.at X = some (.cells [.slice (some ⟨A, 0, none⟩) acc.length cap] 32 false)
 ne : A ≠ X ∧ A < s0.n ∧ X < s0.n
structure KeE (τ τ' : Tau) : Prop where
 a6 : τ' 6 = τ 6
 a28 : τ' 28 = τ 28
 a29 : τ' 29 = τ 29
 a30 : τ' 30 = τ 30
 a9 : τ' 9 = τ 9
theorem KeE.refl (τ : Tau) : KeE τ τ := ⟨rfl, rfl, rfl, rfl, rfl⟩
theorem EnI.byte {s0 : St} {A X cap : Nat} {acc : List Int} {y : Int} (h : EnI s0 A X cap acc s) (hc : acc.length + 1 ≤ cap) (hro : ro ≤ A ∧ ro ≤ X) {K : Value → Value → St → Prop} {ty ty' : TypeId}
  (hk : ∀ v w s', EnI s0 A X cap (acc ++ [y]) s' → K v w s') :
  wop P ro (.buildSlice 32 1 ⟨[(0, .const (.int .u8 y))]⟩) ty s fun v s1 => Zcm s s1 ∧ wop P ro (.call ⟨.builtin .append, ⟨[.const (.slice (some ⟨A, 0, none⟩) acc.length cap), .const v]⟩, #[32, 32]⟩) ty' s1 fun w s2 => s1.n ≤ s2.n ∧ wop P ro (.store 32 (.const (ptr X)) (.const w)) 0 s2 fun _ s3 => s2.n ≤ s3.n ∧ K v w s3 := by
 obtain ⟨c, hA, hcl, hct, hcu⟩ := h.a
 have hAl := St.at_lt hA
 have hXl := St.at_lt h.x
 obtain ⟨hne, hA0, hX0⟩ := h.ne
 refine Zb3 Zr9 ty_5 h.wf [.int .u8 y] rfl rfl (by decide) (fun v hv => by
  simp only [List.mem_cons, List.not_mem_nil, or_false] at hv
  subst hv
  rfl) fun Z s1 m1 => ?_
 have n1 := m1.n
 refine ⟨m1.fresh (by simp [veqL, veq, Value.cells]), ?_⟩
 have x1 : Sl s1 (.slice (some ⟨Z, 0, none⟩) 1 1) 1 1 [.int .u8 y] := m1.sl rfl
 refine Z59 ((m1.grew.same A hAl).trans hA) m1.wf hro.1 x1 hc hcl fun s2 p2 => ?_
 have n2 := p2.n
 refine ⟨by omega, ?_⟩
 have hX2 := (p2.rest X (fun e => hne e.symm)).trans ((m1.grew.same X hXl).trans h.x)
 refine Zbc Ybk hX2 p2.wf hro.2 (by simp) rfl fun s3 p3 => ?_
 have n3 := p3.n
 refine ⟨by omega, hk _ _ s3 ⟨p3.wf, by have := h.n; omega, fun B h1 h2 h3 => ?_, ?_, ⟨_, (p3.rest A hne).trans p2.here, ?_, ?_, fun z hz => ?_⟩, ?_, h.ne⟩⟩
 ·have hn := h.n
  rw [p3.rest B h3, p2.rest B h2, m1.grew.same B (by omega)]
  exact h.rest B h1 h2 h3
 ·rw [p3.lo, p2.lo, m1.grew.lo]
  have := h.lo
  omega
 ·rw [Za0 (by simp; omega)]; exact hcl
 ·rw [List.length_append, List.length_singleton, List.map_append, ← hct]
  exact Zkv (l := [.int .u8 y]) (by simp; omega)
 ·unfold splice at hz
  rcases List.mem_append.1 hz with hz | hz
  ·exact hcu z (List.mem_of_mem_take hz)
  ·rcases List.mem_append.1 hz with hz | hz
   ·simp only [List.mem_cons, List.not_mem_nil, or_false] at hz
    exact ⟨y, hz⟩
   ·exact hcu z (List.mem_of_mem_drop hz)
 ·rw [p3.here, List.length_append]; rfl
theorem enc4 {s0 : St} {A X cap : Nat} {acc : List Int} {x : Int} (hI : EnI s0 A X cap acc s) (hc : acc.length + 4 ≤ cap) (hro : ro ≤ A ∧ ro ≤ X) {rnd : Option Nat}
  {τ : Tau} {ds : List Deferred} {R k4 : WK} {L : List (Nat × WK)} (t6 : τ 6 = ptr X) (t9 : τ 9 = .int .u64 x) (t34 : τ 34 = .int .i64 0) (hk : ∀ τ' s', KeE τ τ' → EnI s0 A X cap (acc ++ leN x 4) s' → k4 τ' ds s') :
  Zf2 P ro 48 rnd Zbv τ ds s R ((4, k4) :: L) := by
 refine Zdx Zji Zjg (fun (r : Nat) τ' ds' s' => r ≤ 4 ∧ KeE τ τ' ∧ τ' 34 = .int .i64 r ∧ ds' = ds ∧ EnI s0 A X cap (acc ++ leN x r) s') (fun r => 4 - r) ?_ 0 ⟨by omega, .refl _, t34, rfl, by unfold leN; simpa using hI⟩
 rintro r τ' ds' s' ⟨hr, ke, a34, rfl, hI'⟩
 rw [Zjd]
 unfold Zdn
 have a6 := ke.a6.trans t6
 have a9 := ke.a9.trans t9
 have hll : (acc ++ leN x r).length = acc.length + r := by rw [List.length_append, Z8d]
 simp (maxSteps := 10000000) only [wW, reduceCtorEq, Nat.reduceEqDiff, a34, a6, a9]
 by_cases hlt : r < 4
 ·rw [if_pos (by omega)]
  rw [Zab, Zjh Yfb hI'.x rfl, Zaa]
  refine ⟨by simp [veq], ?_⟩
  have hsh : Zbj P .shr .u64 x .i64 (8 * (r : Int)) = some (.int .u64 (x.fdiv (2 ^ min (8 * r) 64))) := by
   rw [Ycz _ _ _ _ (by omega)]
   have : (8 * (r : Int)).toNat = 8 * r := by omega
   rw [this]; rfl
  rw [Zaj (by omega) (by omega), hsh, Zaa, Z19]
  refine ⟨rfl, by simp [veq], ?_⟩
  refine EnI.byte (y := leB x r) hI' (by omega) hro fun v w s3 hI3 => ?_
  rw [Zaj (by omega) (by omega)]
  refine ⟨r + 1, by omega, by omega, ⟨?_, ?_, ?_, ?_, ?_⟩, ?_, by first | trivial | rfl, ?_⟩
  ·exact a6.trans t6.symm
  ·exact ke.a28
  ·exact ke.a29
  ·exact ke.a30
  ·exact a9.trans t9.symm
  ·rfl
  ·rw [Yan, ← List.append_assoc]; exact hI3
 ·obtain rfl : r = 4 := by omega
  rw [if_neg (by omega)]
  refine hk _ s' ⟨?_, ?_, ?_, ?_, ?_⟩ hI'
  ·exact ke.a6
  ·exact ke.a28
  ·exact ke.a29
  ·exact ke.a30
  ·exact ke.a9
end
def sumN : List Prt → Nat
 | [] => 0
 | x :: l => x.n.toNat + sumN l
theorem Ycg {l : List Prt} {m : Nat} (h : ∀ x ∈ l, x.n.toNat ≤ m) : sumN l ≤ l.length * m := by
 induction l with
 | nil => simp [sumN]
 | cons x l ih =>
  have h1 := h x List.mem_cons_self
  have h2 := ih fun y hy => h y (List.mem_cons_of_mem _ hy)
  simp only [sumN, List.length_cons, Nat.add_mul, Nat.one_mul]
  omega
theorem Zxj : ∀ l : List Prt, sumN (Zbt l) = sumN l
 | [] => rfl
 | x :: l => by
  have ih := Zxj l
  unfold Zbt at ih ⊢
  rw [List.filter_cons]
  by_cases hx : x.n = 0
  ·rw [if_neg (by simpa using hx), ih]
   simp [sumN, hx]
  ·rw [if_pos (by simpa using hx)]
   simp only [sumN, ih]
theorem Z7n {l : List Prt} (h : ∀ x ∈ l, 0 ≤ x.n) (hb : 4 * sumN l < 2 ^ 60) : Zxn l = 4 * sumN l := by
 have main : ∀ (l : List Prt) (a : Int), 0 ≤ a → (∀ x ∈ l, 0 ≤ x.n) → a + 4 * sumN l < 2 ^ 61 → l.foldl (fun a p => IntKind.i64.wrap (a + IntKind.i64.wrap (4 * p.n))) a = a + 4 * sumN l := by
  intro l
  induction l with
  | nil => intro a _ _ _; simp [sumN]
  | cons x l ih =>
   intro a ha hx hb
   have hx0 := hx x List.mem_cons_self
   simp only [sumN] at hb
   rw [List.foldl_cons, Zaj (n := 4 * x.n) (by omega) (by omega), Zaj (by omega) (by omega), ih _ (by omega) (fun y hy => hx y (List.mem_cons_of_mem _ hy)) (by omega)]
   simp only [sumN]
   omega
 unfold Zxn
 rw [main l 0 (by omega) h (by omega)]
 omega
theorem Z30 {g : Nat → Nat → Nat → List Int} {f : Int} : ∀ {l : List Prt}, (∀ x ∈ l, fitX f g x = true) → (encP g l).length = 4 * sumN l
 | [], _ => rfl
 | x :: l, h => by
  have ih := Z30 fun y hy => h y (List.mem_cons_of_mem _ hy)
  have hx := h x List.mem_cons_self
  unfold fitX at hx
  simp only [Bool.and_eq_true, decide_eq_true_eq] at hx
  unfold encP at ih ⊢
  rw [List.flatMap_cons, List.length_append, Zrj, ih]
  simp only [sumN]
  omega
theorem Z81 (g : Nat → Nat → Nat → List Int) (l : List Prt) (i : Nat) : (encP g (l.take i)).length ≤ (encP g l).length := by
 conv => rhs; rw [← List.take_append_drop i l]
 unfold encP
 rw [List.flatMap_append, List.length_append]
 omega
theorem PrtZ.n0 {R Q : Nat} {x : Prt} (h : PrtZ R Q x) : 0 ≤ x.n ∧ x.n.toNat ≤ 2 ^ 20 := by
 obtain ⟨k, q, i, n, rfl, _, h, _⟩ := h
 exact ⟨by show (0 : Int) ≤ n; omega, by show (n : Int).toNat ≤ _; omega⟩
theorem Zt8 {h : Shp} (hv : shV h = true) : 4 * sumN (Zbe h) < 2 ^ 34 := by
 have h1 := Zl4 hv
 have h2 := Ycg (l := Zbe h) (m := 2 ^ 20) fun x hx => (Zk3 hv x hx).n0.2
 have h3 : (Zbe h).length * 2 ^ 20 ≤ 2000 * 2 ^ 20 := Nat.mul_le_mul_right _ h1
 omega
theorem Z3e {h : Shp} (hv : shV h = true) : Zto h = 4 * sumN (Zbe h) := by
 unfold Zto
 rw [if_pos hv, Z7n (fun x hx => (Zk3 hv x hx).n0.1) (by have := Zt8 hv; omega)]
theorem Z3f {h : Shp} {g : Nat → Nat → Nat → List Int} (hv : shV h = true) (hf : Zv7 h g = true) : Zto h = ((encP g (Zaq h)).length : Int) := by
 rw [Z3e hv, Z30 (List.all_eq_true.1 hf), ← Zgt hv, Zxj]
 push_cast; rfl
theorem U64s.keep {s s' : St} {v : Value} {l : List Int} (h : U64s s v l) (hs : ∀ A c T op, s.at A = some (.cells c T op) → (∃ y, Value.int .u64 y ∈ c) → s'.at A = s.at A) : U64s s' v l := by
 obtain ⟨a, c, hv, hl, hx, hb⟩ := h
 refine ⟨a, c, hv, hl, hx, fun hn => ?_⟩
 obtain ⟨A, o, m, cells, t, op, ha, hm, hA, hc⟩ := hb hn
 refine ⟨A, o, m, cells, t, op, ha, hm, (hs A cells t op hA ?_).trans hA, hc⟩
 cases l with
 | nil => simp at hn
 | cons y l =>
  refine ⟨y, ?_⟩
  have : Value.int .u64 y ∈ (cells.drop o).take ((y :: l).length * 1) := by rw [hc]; exact List.mem_cons_self
  exact List.mem_of_mem_drop (List.mem_of_mem_take this)
section
variable {ro : Nat} {s : St} {K : Value → St → Prop}
theorem Yf9 {s0 : St} {A X cap : Nat} {acc l : List Int} {v : Value} (hI : EnI s0 A X cap acc s0) (hU : U64s s0 v l) (hl : l.length < 2 ^ 30) (hc : acc.length + 4 * l.length ≤ cap) (hro : ro ≤ A ∧ ro ≤ X) {rnd : Option Nat}
  {τ : Tau} {ds : List Deferred} {R k2 k4 : WK} (t6 : τ 6 = ptr X) (t28 : τ 28 = v) (t29 : τ 29 = .int .i64 l.length) (t30 : τ 30 = .int .i64 0) (hk : ∀ τ' s', EnI s0 A X cap (acc ++ encL l) s' → k2 τ' ds s') :
  Zf2 P ro 48 rnd Zdj τ ds s0 R [(2, k2), (4, k4)] := by
 obtain ⟨c0, hA0, _, _, hcu0⟩ := hI.a
 have hX0 := hI.x
 refine Zdx Zsq Zsn (fun (i : Nat) τ' ds' s' => i ≤ l.length ∧ τ' 6 = ptr X ∧ τ' 28 = v ∧ τ' 29 = .int .i64 l.length ∧ τ' 30 = .int .i64 i ∧ ds' = ds ∧ EnI s0 A X cap (acc ++ encL (l.take i)) s') (fun i => l.length - i) ?_ 0 ⟨by omega, t6, t28, t29, t30, rfl, by simpa [encL] using hI⟩
 rintro i τ' ds' s' ⟨hi, a6, a28, a29, a30, rfl, hI'⟩
 rw [Zsi]
 unfold Zhg
 simp (maxSteps := 10000000) only [wW, reduceCtorEq, Nat.reduceEqDiff, a28, a29, a30]
 by_cases hlt : i < l.length
 ·rw [if_pos (by omega)]
  have hU' : U64s s' v l := hU.keep fun B c T op hB hm => hI'.rest B (St.at_lt hB) (fun e => by
   subst e
   rw [hA0] at hB
   cases hB
   obtain ⟨y, hy⟩ := hm
   obtain ⟨z, hz⟩ := hcu0 _ hy
   cases hz) (fun e => by
   subst e
   rw [hX0] at hB
   cases hB
   obtain ⟨y, hy⟩ := hm
   simp at hy)
  obtain ⟨A5, o5, q1, q2, _⟩ := Sl.ix hU' (by decide) (show (0 : Int) ≤ i by omega) (show (i : Int) < l.length by omega)
  have q2' := q2 0 (by decide)
  rw [Nat.add_zero, Nat.add_zero, Nat.mul_one, Int.toNat_natCast, List.getElem?_map, List.getElem?_eq_getElem hlt] at q2'
  have hld : Za4 P s' 34 (.pointer (some ⟨A5, o5, none⟩)) = some (.int .u64 l[i]) := by
   rw [Zan Zoq]
   exact q2'
  rw [Zae, q1 Zh1 Zfm, Zaa, Zab, hld, Zaa]
  have hll : (acc ++ encL (l.take i)).length = acc.length + 4 * i := by rw [List.length_append, Zrj, List.length_take]; omega
  have hIs : EnI s' A X cap (acc ++ encL (l.take i)) s' := ⟨hI'.wf, Nat.le_refl _, fun _ _ _ _ => rfl, Nat.min_le_left _ _, hI'.a, hI'.x, hI'.ne.1, by have := hI'.ne.2.1; have := hI'.n; omega, by have := hI'.ne.2.2; have := hI'.n; omega⟩
  refine enc4 (x := l[i]) hI' (by omega) hro ?_ ?_ ?_ fun τ2 s2 ke h2 => ?_
  ·exact a6
  ·rfl
  ·rfl
  have c6 : τ2 6 = ptr X := by rw [ke.a6]; exact a6
  have c28 : τ2 28 = v := by rw [ke.a28]; exact a28
  have c29 : τ2 29 = .int .i64 l.length := by rw [ke.a29]; exact a29
  have c30 : τ2 30 = .int .i64 i := by rw [ke.a30]; exact a30
  simp (maxSteps := 10000000) only [wW, reduceCtorEq, Nat.reduceEqDiff, c30]
  rw [Zaj (by omega) (by omega)]
  refine ⟨i + 1, by omega, by omega, ?_, ?_, ?_, ?_, by first | trivial | rfl, ?_⟩
  ·exact c6
  ·exact c28
  ·exact c29
  ·rfl
  ·rw [Zbm (List.getElem?_eq_getElem hlt), Z83, ← List.append_assoc]
   exact h2
 ·obtain rfl : i = l.length := by omega
  rw [if_neg (by omega)]
  rw [List.take_length] at hI'
  exact hk _ s' hI'
structure EcJ (s0 : St) (h : Shp) (cs : List Value) (g : Nat → Nat → Nat → List Int) (C E A X L D cap : Nat) (r0 : Lp) (i : Nat) (M : List Nat) (s : St) : Prop where
 wf : Wf s
 n : s0.n ≤ s.n
 same : ∀ B, B < s0.n → s.at B = s0.at B
 lo : s0.n ≤ s.lo
 loop : s.at L = some (.loop r0)
 dfr : s.at D = some (.defd (some []))
 c : s.at C = some (.cells h.cells 23 false)
 e : s.at E = some (.cells cs 39 false)
 a : ∃ c, s.at A = some (.cells c 5 false) ∧ c.length = cap ∧ c.take (encP g ((Zaq h).take i)).length = (encP g ((Zaq h).take i)).map (.int .u8) ∧ ∀ y ∈ c, ∃ z, y = .int .u8 z
 x : s.at X = some (.cells [.slice (some ⟨A, 0, none⟩) (encP g ((Zaq h).take i)).length cap] 32 false)
 m : M = [L, A, X]
theorem EcJ.cli {s0 : St} {h : Shp} {cs : List Value} {g : Nat → Nat → Nat → List Int} {C E A X L D cap : Nat} {r0 : Lp} : Cli L r0 (EcJ s0 h cs g C E A X L D cap r0) where
 loop := fun h => h.loop
 wf := fun h => h.wf
 lt := fun h B hB => by
  rw [h.m] at hB
  obtain ⟨c, hc, _⟩ := h.a
  simp only [List.mem_cons, List.not_mem_nil, or_false] at hB
  rcases hB with rfl | rfl | rfl
  ·exact St.at_lt h.loop
  ·exact St.at_lt hc
  ·exact St.at_lt h.x
 grew := fun h g w => by
  have e : ∀ A o, _ = some o → _ = some o := fun A o he => (g.same A (St.at_lt he)).trans he
  have hn := h.n
  obtain ⟨c, hc, hc2⟩ := h.a
  exact ⟨w, Nat.le_trans h.n g.n, fun A hA => (g.same A (by omega)).trans (h.same A hA), by rw [g.lo]; exact h.lo, e _ _ h.loop, e _ _ h.dfr, e _ _ h.c, e _ _ h.e, ⟨c, e _ _ hc, hc2⟩, e _ _ h.x, h.m⟩
variable {W : Nat → Prop} {cs : List Value} {B : PfB} {g : Nat → Nat → Nat → List Int} {h : Shp}
theorem Yc3 {s0 s' : St} {C E A X L D : Nat} {lp : Lp} {t : Tr} {τ : Tau} (ht : Agr 48 t τ) (hlp : lp.state = .ready ∧ lp.pending = none ∧ lp.t = t ∧ lp.params = [20] ∧ lp.assign = Ze0 ∧ lp.body = Zez)
  (t3 : τ 3 = ptr E) (t6 : τ 6 = ptr X) (hp : PfAt s0 W cs B (shR h).toNat h.q.toNat g) (hv : shV h = true) (hg : ∀ k q i, (g k q i).length < 2 ^ 20) (hro : ro ≤ s0.n)
  (hne : s0.n ≤ C ∧ s0.n ≤ E ∧ s0.n ≤ A ∧ s0.n ≤ X ∧ s0.n ≤ L ∧ s0.n ≤ D) (hd : C ≠ L ∧ E ≠ L ∧ A ≠ L ∧ X ≠ L ∧ D ≠ L ∧ A ≠ X ∧ C ≠ A ∧ C ≠ X ∧ E ≠ A ∧ E ≠ X ∧ D ≠ A ∧ D ≠ X) {i : Nat} {M : List Nat} (hi : i < (Zaq h).length) (hJ : EcJ s0 h cs g C E A X L D (encP g (Zaq h)).length lp i M s') :
  Zlx P ro L (setAll lp.t lp.params [.agg (.mk ((Zaq h)[i]).cells)]) lp.assign lp.body s' fun v s2 => (v = .bool true ∧ s2.lo ≤ L ∧ ∃ M', EcJ s0 h cs g C E A X L D (encP g (Zaq h)).length lp (i + 1) M' s2 ∧ Step M s' M' s2) ∨ (v = .bool false ∧ s2.lo ≤ L ∧ False) := by
 rw [hlp.2.2.1, hlp.2.2.2.1, hlp.2.2.2.2.1, hlp.2.2.2.2.2]
 have hLl := St.at_lt hJ.loop
 have hCl := St.at_lt hJ.c
 have hEl := St.at_lt hJ.e
 have hXl := St.at_lt hJ.x
 have hDl := St.at_lt hJ.dfr
 have hJn := hJ.n
 obtain ⟨ca, hA, hcl, hct, hcu⟩ := hJ.a
 have hAl := St.at_lt hA
 obtain ⟨d1, d2, d3, d4, d5, d6, d7, d8, d9, d10, d11, d12⟩ := hd
 obtain ⟨k, q, ix, n, hx, ok, hn20, hln⟩ := Znl hv (Zaq h)[i] (List.getElem_mem hi)
 have hgx : gOf g (Zaq h)[i] = g k q ix := by rw [hx]; rfl
 have hst : encP g ((Zaq h).take (i + 1)) = encP g ((Zaq h).take i) ++ encL (g k q ix) := by rw [Zbm (List.getElem?_eq_getElem hi), Z82, hgx]
 have hcap := Z81 g (Zaq h) (i + 1)
 rw [hst, List.length_append, Zrj] at hcap
 refine Zrb (N := 48) (Agr.set ht 20 _ (by decide)) Z09 Z08 (by omega) ?_
 rw [Z0s]
 unfold Zng
 simp (maxSteps := 10000000) only [U, Zad, wW, reduceCtorEq, Nat.reduceEqDiff, hx]
 refine Zai Zku hJ.wf fun E4 s4 m4 => ?_
 have e4 := m4.eq
 have n4 := m4.n
 refine Zag Zjz m4.here (l := Prt.cells ⟨k, q, ix, n⟩) rfl (by decide) m4.wf (by omega) rfl rfl fun s5 p5 => ?_
 have n5 := p5.n
 have g5 : Grew s' s5 := p5.grew _ hJ.wf m4.grew (by omega)
 have hL5 := (g5.same _ hLl).trans hJ.loop
 refine ⟨lp, hL5, hlp.1, ?_⟩
 have pb := Put.mk' p5.wf (St.at_lt hL5) (.loop { lp with state := .busy })
 generalize s5.put L (.loop { lp with state := .busy }) = sb at pb ⊢
 have nb := pb.n
 rw [Z0r]
 unfold Znf
 have hE4 : sb.at E4 = some (.cells (Prt.cells ⟨k, q, ix, n⟩) 30 false) := (pb.rest E4 (by omega)).trans p5.here
 have hoth : ∀ A, A < s'.n → A ≠ L → sb.at A = s'.at A := fun A h1 h2 => (pb.rest A h2).trans (g5.same A h1)
 have hEb := (hoth E hEl d2).trans hJ.e
 have hold : ∀ A, A < s0.n → sb.at A = s0.at A := fun A hA => (hoth A (by omega) (by omega)).trans (hJ.same A hA)
 have hpb : PfAt sb W cs B (shR h).toNat h.q.toNat g := hp.keep (by omega) hold
 have hx0 : (Prt.cells ⟨k, q, ix, n⟩)[0]? = some (.int .u8 k) := rfl
 have hki : veq (.int .u8 (k : Int)) (.int .u8 (k : Int)) = true := by simp [veq]
 have hxv : veq (.agg (.mk (Prt.cells ⟨k, q, ix, n⟩))) (.agg (.mk (Prt.cells ⟨k, q, ix, n⟩))) = true := by simp [veq, veqA, veqL, Prt.cells]
 have hvf : ∀ f, veq (fnV f) (fnV f) = true := fun f => by simp [veq, veqA, veqL]
 simp (maxSteps := 10000000) only [U, Zad, wW, reduceCtorEq, Nat.reduceEqDiff, t3, Zcz, Zab, Zan Zms, Zac hE4, Nat.zero_add, hx0, hki, true_and]
 rw [Zah Ztz hE4 rfl, Zaa]
 refine ⟨hxv, ?_⟩
 refine Zz2 pb.wf fun Ap s8 g8 w8 hAp => ?_
 refine ⟨g8.keeps, ?_⟩
 have hn8 := g8.n
 have hk1 := ok.k1
 have hpix : Zal P 84 (.slice (some ⟨Ap, 0, none⟩) 12 12) (.int .u8 (k : Int)) = some (ptrO Ap k) := by
  simp only [Zal, Yb4, Z8p, Option.bind_some, Zes]
  rw [if_pos ⟨by omega, by omega⟩, Int.toNat_natCast, Nat.mul_one, Nat.zero_add]
 have hE8 := (g8.same E (by omega)).trans hEb
 have hp8 := hpb.grew g8
 obtain ⟨f, hf, hcall⟩ := wPl (ro := ro) (n := n) hE8 hp8 ok w8 (by omega)
 rw [Zae, hpix, Zaa, Zan Yde, Zac hAp, Option.bind_some, hf, Zaa]
 refine ⟨hvf f, ?_⟩
 show CallWP P ro f [ptr E, .agg (.mk (Prt.cells ⟨k, q, ix, n⟩))] s8 _
 refine hcall _ fun s9 g9 w9 => ?_
 have hn9 := g9.n
 have g89 := g8.trans g9
 have hE9 := (g89.same E (by omega)).trans hEb
 have hp9 := hpb.grew g89
 obtain ⟨c, hc, hfit, hS⟩ := hp9.at hE9 ok
 refine wGet hk1 hc hfit hS (hg k q ix) w9 (by omega) fun v sx gx hU => ?_
 have wx := w9.grew gx
 have nx := gx.n
 have gbx := g89.trans gx
 have hothx : ∀ A, A < s'.n → A ≠ L → sx.at A = s'.at A := fun A h1 h2 => (gbx.same A (by omega)).trans (hoth A h1 h2)
 have hLx := (gbx.same L (by omega)).trans pb.here
 have hlo : sx.lo = min s'.lo L := by rw [gbx.lo, pb.lo, g5.lo]
 have hJlo := hJ.lo
 have hI : EnI sx A X (encP g (Zaq h)).length (encP g ((Zaq h).take i)) sx := ⟨wx, Nat.le_refl _, fun _ _ _ _ => rfl, Nat.min_le_left _ _, ⟨ca, (hothx A hAl d3).trans hA, hcl, hct, hcu⟩, (hothx X hXl d4).trans hJ.x, d6, by omega, by omega⟩
 rw [Sl.wlen hU Zh1]
 refine Yf9 hI hU (by have := hg k q ix; omega) hcap ⟨by omega, by omega⟩ ?_ ?_ ?_ ?_ fun τ7 s7 h7 => ?_
 ·exact t6
 ·rfl
 ·rfl
 ·rfl
 rw [← hst] at h7
 have n7 := h7.n
 have hL7 := (h7.rest L (by omega) (fun e => d3 e.symm) (fun e => d4 e.symm)).trans hLx
 obtain ⟨c7, hA7, hcl7, hct7, hcu7⟩ := h7.a
 refine ⟨_, hL7, .inl ⟨rfl, ?_, [L, A, X], ?_, ?_⟩⟩
 ·show min s7.lo L ≤ L
  exact Nat.min_le_right _ _
 ·have elp : ({ lp with state := .ready, pending := none } : Lp) = lp := by
   obtain ⟨a, b, _⟩ := hlp
   cases lp
   simp only at a b
   subst a b
   rfl
  have pf := Put.mk' h7.wf (St.at_lt hL7) (.loop lp)
  show EcJ s0 h cs g C E A X L D (encP g (Zaq h)).length lp (i + 1) _ (s7.put L (.loop { lp with state := .ready, pending := none }))
  rw [elp]
  generalize s7.put L (.loop lp) = sf at pf ⊢
  have nf := pf.n
  have hfin : ∀ B, B < s'.n → B ≠ L → B ≠ A → B ≠ X → sf.at B = s'.at B := fun B h1 h2 h3 h4 => by
   rw [pf.rest B h2, h7.rest B (by omega) h3 h4]
   exact hothx B h1 h2
  refine ⟨pf.wf, by omega, fun B hB => ?_, ?_, pf.here, ?_, ?_, ?_, ⟨c7, (pf.rest A d3).trans hA7, hcl7, hct7, hcu7⟩, (pf.rest X d4).trans h7.x, rfl⟩
  ·rw [hfin B (by omega) (by omega) (by omega) (by omega)]
   exact hJ.same B hB
  ·rw [pf.lo]
   have := h7.lo
   omega
  ·rw [hfin D hDl d5 d11 d12]; exact hJ.dfr
  ·rw [hfin C hCl d1 d7 d8]; exact hJ.c
  ·rw [hfin E hEl d2 d9 d10]; exact hJ.e
 ·have nf : (s7.put L (.loop { lp with state := if (Zgd .normal).isNone = true then .ready else .done, pending := Zgd .normal })).n = s7.n := rfl
  rw [hJ.m]
  refine ⟨by rw [nf]; omega, fun B hA1 hA2 => ?_, fun B hA1 => .inl hA1⟩
  simp only [List.mem_cons, List.not_mem_nil, or_false, not_or] at hA2
  rw [Zpo _ _ _ _ (St.at_lt hL7) h7.wf.len, if_neg hA2.1, h7.rest B (by omega) hA2.2.1 hA2.2.2]
  exact hothx B hA1 hA2.1
end
theorem Ydk {y : Value} {n : Nat} (h : y ∈ Zaz (Value.int .u8 0).cells n) : y = .int .u8 0 := by
 unfold Zaz at h
 obtain ⟨i, _, rfl⟩ := List.mem_map.1 h
 show ([Value.int .u8 0] : List Value).getD (i % 1) default = _
 rw [Nat.mod_one]; rfl
section
variable {ro : Nat} {s : St} {K : Value → St → Prop} {W : Nat → Prop} {cs : List Value} {B : PfB} {g : Nat → Nat → Nat → List Int} {h : Shp}
theorem Ydw (hv : shV h = true) (hp : PfAt s W cs B (shR h).toNat h.q.toNat g) (hcl : cs.length = 8) (hg : ∀ k q i, (g k q i).length < 2 ^ 20) (hb : Zv7 h g = true) (hw : Wf s) (hro : ro ≤ s.n) (hF : FieldsAt s)
  (hk : ∀ A s', Grew s s' → s.n ≤ A → Bys s' (.slice (some ⟨A, 0, none⟩) (encP g (Zaq h)).length (encP g (Zaq h)).length) (encP g (Zaq h)) → K (.tuple (.mk [.slice (some ⟨A, 0, none⟩) (encP g (Zaq h)).length (encP g (Zaq h)).length, .int .i64 0])) s') :
  CallWP P ro 23 [.agg (.mk h.cells), .agg (.mk cs)] s K := by
 refine Zas b23 rfl ?_
 rw [n23]
 unfold v23
 simp (maxSteps := 10000000) only [wW, reduceCtorEq, Nat.reduceEqDiff]
 refine Zam hw.ent fun C s1 m1 => ?_
 refine Zam m1.wf fun E s2 m2 => ?_
 have e1 := m1.eq
 have n1 := m1.n
 have e2 := m2.eq
 have n2 := m2.n
 have hn0 : (ent s).n = s.n := rfl
 have g02 := m1.grew.trans m2.grew
 have hC2 : s2.at C = some (.cells h.cells 23 false) := (m2.grew.same C (by omega)).trans m1.here
 have hE2 : s2.at E = some (.cells cs 39 false) := m2.here
 have hp0 : PfAt (ent s) W cs B (shR h).toNat h.q.toNat g := hp.keep (s' := ent s) (Nat.le_refl _) fun _ _ => rfl
 have hF2 : FieldsAt s2 := FieldsAt.grew (s := ent s) hF g02
 rw [Zab, Zah Zc2 hC2 rfl, Zaa, Zab, Zah Zhy hE2 hcl, Zaa, Yfo h hv (hp0.grew g02) hg m2.wf (by omega) hF2, hb]
 simp (maxSteps := 10000000) only [wW, reduceCtorEq, Nat.reduceEqDiff]
 rw [Zab, Zah Zc2 hC2 rfl, Zaa, Ya8 h m2.wf (by omega) hF2, Z3f hv hb]
 have hsz := Zt8 hv
 have hse := Z3f (g := g) hv hb
 rw [Z3e hv] at hse
 refine Zdb Zr9 ty_5 m2.wf (by decide) (by omega) (by omega) (by decide) fun A s3 m3 => ?_
 have e3 := m3.eq
 have n3 := m3.n
 rw [Int.toNat_natCast] at m3 ⊢
 refine Zai Yd7 m3.wf fun X s4 m4 => ?_
 have e4 := m4.eq
 have n4 := m4.n
 refine Zbc Ybk m4.here m4.wf (by omega) (by decide) rfl fun s5 p5 => ?_
 have n5 := p5.n
 have g24 := m3.grew.trans m4.grew
 have g25 : Grew s2 s5 := p5.grew _ m2.wf g24 (by omega)
 have g05 := g02.trans g25
 have hC5 := (g25.same C (by omega)).trans hC2
 have hE5 := (g25.same E (by omega)).trans hE2
 have hA5 := (p5.rest A (by omega)).trans ((m4.grew.same A (by omega)).trans m3.here)
 have hX5 := p5.here
 rw [Zab, Zah Zc2 hC5 rfl, Zaa]
 refine Z62 h p5.wf fun B9 s6 g6 hB9 hB9n => ?_
 have n6 := g6.n
 have w6 := p5.wf.grew g6
 have hB9l := St.at_lt hB9
 refine Z2v (by omega) fun t ht => ?_
 have g7 : Grew s6 (s6.new (.defd (some []))) := .new _ _
 generalize hr0 : ({ state := .ready, pending := none, t := t, params := #[20].toList, assign := Ze0, body := Zez, defers := s6.n } : Lp) = lp
 have g8 : Grew (s6.new (.defd (some []))) ((s6.new (.defd (some []))).new (.loop lp)) := .new _ _
 have hD8 : ((s6.new (.defd (some []))).new (.loop lp)).at s6.n = some (.defd (some [])) := (g8.same s6.n (Nat.lt_succ_self s6.n)).trans (Zdt _ _)
 have hL8 : ((s6.new (.defd (some []))).new (.loop lp)).at (s6.n + 1) = some (.loop lp) := Zdt (s6.new (.defd (some []))) _
 have w8 : Wf ((s6.new (.defd (some []))).new (.loop lp)) := (w6.new _).new _
 have n8 : ((s6.new (.defd (some []))).new (.loop lp)).n = s6.n + 2 := rfl
 have g68 := g7.trans g8
 have hlp : lp.state = .ready ∧ lp.pending = none ∧ lp.t = t ∧ lp.params = [20] ∧ lp.assign = Ze0 ∧ lp.body = Zez := by rw [← hr0]; exact ⟨rfl, rfl, rfl, rfl, rfl, rfl⟩
 clear hr0
 generalize (s6.new (.defd (some []))).new (.loop lp) = s8 at *
 have g58 := g6.trans g68
 have g08 := g05.trans g58
 have hlo8 : s8.lo = s.n := g08.lo
 refine Yb3 (h := h) lp (EcJ (ent s) h cs g C E A X (s6.n + 1) s6.n (encP g (Zaq h)).length lp) (fun _ => False) hv ((g68.same B9 hB9l).trans hB9) (by rw [hlp.2.2.2.1]; rfl) EcJ.cli (by omega) (by omega) (fun i M s' hi hJ => ?_) (M0 := [s6.n + 1, A, X]) ?_ ?_ (fun M s' hJ => ?_) (fun s' hS => hS.elim)
 ·refine Yc3 ht hlp ?_ ?_ hp0 hv hg (by omega) ⟨by omega, by omega, by omega, by omega, by omega, by omega⟩ ⟨by omega, by omega, by omega, by omega, by omega, by omega, by omega, by omega, by omega, by omega, by omega, by omega⟩ hi hJ
  ·rfl
  ·rfl
 ·refine ⟨w8.ent, by show s.n ≤ s8.n; omega, fun A hA => g08.same A hA, by show s.n ≤ s8.n; omega, hL8, hD8, (g58.same C (by omega)).trans hC5, (g58.same E (by omega)).trans hE5, ⟨_, (g58.same A (by omega)).trans hA5, ?_, ?_, fun y hy => ?_⟩, (g58.same X (by omega)).trans hX5, rfl⟩
  ·rw [Zck]; exact Nat.mul_one _
  ·simp [encP]
  ·exact ⟨0, Ydk hy⟩
 ·simp only [List.mem_cons, List.not_mem_nil, or_false, not_or]
  exact ⟨by omega, by omega, by omega⟩
 ·refine ⟨lp, .normal, hJ.loop, .inl hlp.1, by rw [hlp.2.1]; rfl, ?_⟩
  have wf' : Wf ({ s' with lo := min s8.lo s'.lo } : St) := ⟨by show min s8.lo s'.lo ≤ s'.n; have := hJ.wf.lo; omega, hJ.wf.len⟩
  have pe := Put.mk' wf' (St.at_lt (s := ({ s' with lo := min s8.lo s'.lo } : St)) hJ.loop) (.loop { lp with state := .exhausted })
  generalize ({ s' with lo := min s8.lo s'.lo } : St).put (s6.n + 1) (.loop { lp with state := .exhausted }) = se at pe ⊢
  have hne := pe.n
  have hne' : se.n = s'.n := hne
  have hXe := (pe.rest X (by omega)).trans hJ.x
  have hDe : se.at s6.n = some (.defd (some [])) := (pe.rest _ (by omega)).trans hJ.dfr
  have hJn : s.n ≤ s'.n := hJ.n
  have hJlo : s.n ≤ s'.lo := hJ.lo
  obtain ⟨c, hA, hcl', hct, _⟩ := hJ.a
  rw [List.take_length] at hct hXe
  have hAe := (pe.rest A (by omega)).trans hA
  simp (maxSteps := 10000000) only [U, Zad, wW, reduceCtorEq, Nat.reduceEqDiff]
  rw [Zab, Zjh Yfb hXe rfl, Zaa]
  refine ⟨hDe, by omega, ?_⟩
  have pd := Put.mk' pe.wf (St.at_lt hDe) (.defd none)
  generalize se.put s6.n (.defd none) = sd at pd ⊢
  have nd := pd.n
  have hAd := (pd.rest A (by omega)).trans hAe
  have hlod : sd.lo = s.n := by
   rw [pd.lo, pe.lo]
   show min (min (min s8.lo s'.lo) (s6.n + 1)) s6.n = s.n
   omega
  rw [Zfq]
  refine Zci hw ⟨by omega, hlod, fun A hA => ?_, fun _ => pd.wf.len⟩ rfl fun s9 g9 hn9 hat9 => hk A s9 g9 (by omega) ?_
  ·have hA' : A < s.n := hA
   rw [pd.rest A (by omega), pe.rest A (by omega)]
   exact hJ.same A hA
  ·refine ⟨_, _, rfl, by rw [List.length_map, Nat.mul_one], ⟨Nat.le_refl _, fun h => (by cases h), fun x hx => by cases hx; exact .inl rfl⟩, fun _ => ⟨A, 0, none, c, _, _, rfl, rfl, (hat9 A).trans hAd, ?_⟩⟩
   rw [List.drop_zero, Nat.mul_one]
   exact hct
end
theorem Z4l {P : Program} [Memo] {ro : Nat} {t r ty : TypeId} {xs ys : List Value} {c : Bool} (hx : Zch xs = true) (hy : Zch ys = true) (hg : P.eqGuardType P.depth t = false) (h : Zaw P (Op.equal t (.agg (.mk xs)) (.agg (.mk ys))) = some c) {s : St} {K : Value → St → Prop} :
  wop P ro (.binOp .eql t (.const (.agg (.mk xs))) (.const (.agg (.mk ys))) r) ty s K = K (.bool c) s := by
 have e : Zdk P .e (mkO (.binOp .eql t (.const (.agg (.mk xs))) (.const (.agg (.mk ys))) r) ty) = some (.val (.bool c)) := by
  unfold Zdk
  have e2 : Zaw P (execOp (aval .e) (mkO (.binOp .eql t (.const (.agg (.mk xs))) (.const (.agg (.mk ys))) r) ty)) = some (Next.value (.bool c)) := by
   show Zaw P ((do eqGuard .eql t (.const (.agg (.mk xs))) (.const (.agg (.mk ys))) (.agg (.mk xs)) (.agg (.mk ys)); binOp .eql t (.agg (.mk xs)) (.agg (.mk ys))) >>= fun v => pure (Next.value v)) = _
   rw [Zda, Zda]
   have e3 : Zaw P (eqGuard .eql t (.const (.agg (.mk xs))) (.const (.agg (.mk ys))) (.agg (.mk xs)) (.agg (.mk ys))) = some () := by
    show Zaw P (if (!P.eqGuardType P.depth t) = true then pure () else _) = _
    rw [hg]; rfl
   rw [e3]
   simp only [Option.bind_some]
   show (Zaw P (Op.equal t (.agg (.mk xs)) (.agg (.mk ys)) >>= fun b => pure (Value.bool b))).bind _ = _
   rw [Zda, h]
   rfl
  rw [e2]
  rfl
 have hf : ∀ l : List Value, Zch l = true → Zct (.agg (.mk l)) = true := fun l hl => by
  show (false || Zch l) = true
  rw [hl]; rfl
 show wfol P ro K (abin P .e (mkO (.binOp .eql t (.const (.agg (.mk xs))) (.const (.agg (.mk ys))) r) ty) s .eql t (.agg (.mk xs)) (.agg (.mk ys))) = _
 simp only [abin, hf xs hx, hf ys hy, Bool.and_self, cond_true, e]
 rfl
section
variable {ro : Nat} {s : St} {K : Value → St → Prop}
theorem Yft : P.underlying 9 = some .string := by kernel_rfl
theorem Zzx (a b : ByteArray) (r ty : TypeId) : wop P ro (.binOp .eql 9 (.const (.string a)) (.const (.string b)) r) ty s K = K (.bool (a.toList == b.toList)) s := by
 have e : Zdk P .e (mkO (.binOp .eql 9 (.const (.string a)) (.const (.string b)) r) ty) = some (.val (.bool (a.toList == b.toList))) := rfl
 show wfol P ro K (abin P .e (mkO (.binOp .eql 9 (.const (.string a)) (.const (.string b)) r) ty) s .eql 9 (.string a) (.string b)) = _
 have hf : ∀ b : ByteArray, Zct (.string b) = true := fun _ => rfl
 simp only [abin, hf, Bool.and_self, cond_true, e]
 rfl
theorem Z68 : ∀ l : List Int, u8s (l.map (.int .u8)) = some l
 | [] => rfl
 | x :: l => by
  show (u8s (l.map (.int .u8))).map (x :: ·) = _
  rw [Z68 l]; rfl
theorem Z31 {A o n c : Nat} {sp : Option Nat} {l : List Int} (h : Bys s (.slice (some ⟨A, o, sp⟩) n c) l) (ty : TypeId) : wop P ro (.convert 32 9 (.const (.slice (some ⟨A, o, sp⟩) n c))) ty s K = K (Z7h l) s := by
 have hn : n = l.length := by
  obtain ⟨a, c', e, _⟩ := h
  cases e; rfl
 subst hn
 obtain ⟨_, hf⟩ := Sl.first h
 have u1 : P.underlying 32 = some (.slice 5) := Yb6
 have u2 : isU8 P 5 = true := by kernel_rfl
 show wfol P ro K (Zq8 P .e (mkO (.convert 32 9 (.const (.slice (some ⟨A, o, sp⟩) l.length c))) ty) s 32 9 (.slice (some ⟨A, o, sp⟩) l.length c)) = _
 simp only [Zq8, u1, Yft, u2, cond_true]
 rw [Zdq]
 unfold astr
 rw [hf, Option.bind_some, Z68]
 rfl
theorem Z8z (l : List Int) (r ty : TypeId) : wop P ro (.binOp .eql 9 (.const (Z7h l)) (.const (Z7h l)) r) ty s K = K (.bool true) s := by
 unfold Z7h
 rw [Zzx]
 have : ∀ l : List UInt8, (l == l) = true := fun l => beq_self_eq_true l
 rw [this]
end
def tinyS : Shp := ⟨0, 2, 1, 1, 2, 0, 1, 0, 1⟩
def Zqq (i : Nat) (x : Int) : List Int := (List.replicate 176 (0 : Int)).set i x
theorem Yd9 : shV tinyS = true := by decide +kernel
theorem Yce : (Zbe tinyS).length = 17 := by decide +kernel
theorem Ycd : (Zbe tinyS)[0]? = some ⟨1, 0, 0, 4⟩ := by kernel_rfl
theorem Ycc : (Zbe tinyS)[3]? = some ⟨6, 0, 0, 4⟩ := by kernel_rfl
theorem Ycb : (Zbe tinyS)[8]? = some ⟨9, 0, 1, 4⟩ := by kernel_rfl
theorem Z7c : Zto tinyS = 176 := by decide +kernel
noncomputable def Z99 : Nat → Nat → Nat → List Int := (Zb4 (Zqq 4 7) (Zbe tinyS)).2
theorem Z98 : decE (Zqq 4 7) (fP 0) (Zb4 (Zqq 4 7) (Zbe tinyS)).1 = (0, 0) := by decide +kernel
theorem Z7d : Zv7 tinyS Z99 = true := by decide +kernel
theorem Z96 : encP Z99 (Zaq tinyS) = Zqq 4 7 := by decide +kernel
theorem Z97 : Z99 1 0 0 = [0, 7, 0, 0] := by decide +kernel
theorem Yaa (i : Nat) {x : Int} (hx : 0 ≤ x ∧ x < 256) : ∀ y ∈ Zqq i x, 0 ≤ y ∧ y < 256 := fun y hy => by
 rcases List.mem_or_eq_of_mem_set hy with h | rfl
 ·rw [List.eq_of_mem_replicate h]; decide
 ·exact hx
theorem Zr2 (i : Nat) (x : Int) : (Zqq i x).length = 176 := by unfold Zqq; rw [List.length_set, List.length_replicate]
theorem Z8u {b : List Int} {l : List Prt} (h : ∀ x ∈ l, x.n.toNat < 2 ^ 20) (k q i : Nat) : ((Zb4 b l).2 k q i).length < 2 ^ 20 := by
 have main : ∀ (l : List Prt) (kg : Nat × (Nat → Nat → Nat → List Int)), (∀ x ∈ l, x.n.toNat < 2 ^ 20) → (∀ k q i, (kg.2 k q i).length < 2 ^ 20) → ∀ k q i, ((l.foldl (stepG b) kg).2 k q i).length < 2 ^ 20 := by
  intro l
  induction l with
  | nil => intro kg _ h; exact h
  | cons x l ih =>
   intro kg hx hk
   refine ih _ (fun y hy => hx y (List.mem_cons_of_mem _ hy)) fun k q i => ?_
   show (updG kg.2 x.k.toNat x.q.toNat x.i.toNat (Zmm b kg.1 x.n.toNat) k q i).length < _
   unfold updG
   split
   ·rw [Zga]; exact hx x List.mem_cons_self
   ·exact hk k q i
 refine main l (0, g0) h (fun k q i => ?_) k q i
 show (g0 k q i).length < _
 unfold g0
 split
 ·decide
 ·split <;> simp
theorem PrtZ.n1 {R Q : Nat} {x : Prt} (h : PrtZ R Q x) : x.n.toNat < 2 ^ 20 := by
 obtain ⟨k, q, i, n, rfl, _, h, _⟩ := h
 show (n : Int).toNat < _
 omega
theorem Zv3 {h : Shp} (hv : shV h = true) (b : List Int) (k q i : Nat) : ((Zb4 b (Zbe h)).2 k q i).length < 2 ^ 20 := Z8u (fun x hx => (Zk3 hv x hx).n1) k q i
theorem PfAt.list {s : St} {W : Nat → Prop} {cs : List Value} {B : PfB} {R Q : Nat} {g : Nat → Nat → Nat → List Int} (h : PfAt s W cs B R Q g) :
  ∃ v0 v1 v2 v5 x3 x6, cs = [v0, v1, v2, .int .u64 x3, .slice (some ⟨B.rb, 0, none⟩) R R, v5, .int .u64 x6, .slice (some ⟨B.ob, 0, none⟩) Q Q] ∧ SlV s W 2 v0 (g 1 0 0) ∧ SlV s W 2 v1 (g 3 0 0) ∧ SlV s W 2 v2 (g 4 0 0) ∧ g 2 0 0 = [x3] ∧ SlV s W 1 v5 (g 6 0 0) ∧ g 7 0 0 = [x6] := by
 have hc : ∀ {k : Nat} (hk : k = 1 ∨ k = 2 ∨ k = 3 ∨ k = 4 ∨ k = 6 ∨ k = 7), SlotC s W k cs (Za2 B k 0 0).2 (g k 0 0) := fun {k} hk => by
  obtain ⟨c, hc, hS⟩ := h.sl k 0 0 (.top k hk)
  have e0 : (Za2 B k 0 0).1 = none := by rcases hk with rfl | rfl | rfl | rfl | rfl | rfl <;> rfl
  rw [e0] at hc
  simp only [Zen, Option.some.injEq] at hc
  rw [hc]
  exact hS
 have hs : ∀ {k : Nat} (_ : k = 1 ∨ k = 3 ∨ k = 4 ∨ k = 6), ∃ v, cs[(Za2 B k 0 0).2]? = some v ∧ SlV s W (if k = 6 ∨ k = 8 then 1 else 2) v (g k 0 0) := fun {k} hk => by
  have hS := hc (k := k) (by omega)
  unfold SlotC at hS
  rw [if_neg (by omega), if_neg (by omega)] at hS
  exact hS
 have hn : ∀ {k : Nat} (_ : k = 2 ∨ k = 7), ∃ x, g k 0 0 = [x] ∧ cs[(Za2 B k 0 0).2]? = some (.int .u64 x) := fun {k} hk => by
  have hS := hc (k := k) (by omega)
  unfold SlotC at hS
  rw [if_pos hk] at hS
  exact hS
 obtain ⟨v0, a0, b0⟩ := hs (k := 1) (by omega)
 obtain ⟨v1, a1, b1⟩ := hs (k := 3) (by omega)
 obtain ⟨v2, a2, b2⟩ := hs (k := 4) (by omega)
 obtain ⟨v5, a5, b5⟩ := hs (k := 6) (by omega)
 obtain ⟨x3, b3, a3⟩ := hn (k := 2) (by omega)
 obtain ⟨x6, b6, a6⟩ := hn (k := 7) (by omega)
 have h4 := h.c4
 have h7 := h.c7
 have hl := h.cl
 refine ⟨v0, v1, v2, v5, x3, x6, ?_, b0, b1, b2, b3, b5, b6⟩
 simp only [Za2] at a0 a1 a2 a3 a5 a6
 match cs, hl with
 | [y0, y1, y2, y3, y4, y5, y6, y7], _ =>
  simp only [List.getElem?_cons_zero, List.getElem?_cons_succ, Option.some.injEq] at a0 a1 a2 a3 a5 a6 h4 h7
  rw [a0, a1, a2, a3, a5, a6, h4, h7]
theorem Sl.dig {s : St} {v : Value} {m : Nat} {l : List Int} (h : Sl s v 2 m (l.map (.int .u64))) (hl : l.length = m * 2) {i : Nat} (hi : i < m) : ∃ p, Zal P 33 v (.int .i64 (i : Int)) = some p ∧ Za4 P s 55 p = some (.agg (.mk (((l.drop (i * 2)).take 2).map (.int .u64)))) := by
 obtain ⟨A, o, h1, h2, h3⟩ := Sl.ix h (by decide) (show (0 : Int) ≤ i by omega) (show (i : Int) < m by omega)
 refine ⟨_, h1 Zr8 Z8q, ?_⟩
 rw [Z8c Ydf]
 have := h3 0 2 (by decide) (by decide)
 rw [Nat.add_zero, Nat.add_zero, Int.toNat_natCast] at this
 rw [this, Zj0 (by rw [List.length_map]; omega), ← List.map_drop, ← List.map_take]
 rfl
theorem Zmv {v : Value} {s : St} {W : Nat → Prop} {sz : Nat} {l : List Int} (h : SlV s W sz v l) : veq v v = true := by
 obtain ⟨m, _, ⟨a, c, rfl, _⟩, _⟩ := h
 simp [veq]
theorem PfAt.veq {s : St} {W : Nat → Prop} {cs : List Value} {B : PfB} {R Q : Nat} {g : Nat → Nat → Nat → List Int} (h : PfAt s W cs B R Q g) : veq (.agg (.mk cs)) (.agg (.mk cs)) = true := by
 obtain ⟨v0, v1, v2, v5, x3, x6, rfl, h0, h1, h2, h3, h5, h6⟩ := h.list
 simp only [VE.veq, veqA, veqL, Zmv h0, Zmv h1, Zmv h2, Zmv h5, Bool.and_true, Bool.true_and]
 simp
theorem Z7m {cs : List Value} {i : Nat} {v : Value} (h : i < cs.length) : splice cs i [v] = cs.set i v := by
 rw [List.set_eq_take_append_cons_drop, if_pos h]
 rfl
section
variable {ro : Nat} {s : St} {K : Value → St → Prop}
theorem Yda : Zdl P 23 (Zbf .e [(1, .const (.int .i64 2)), (2, .const (.int .i64 1)), (3, .const (.int .i64 1)), (4, .const (.int .i64 2)), (6, .const (.int .i64 1)), (8, .const (.int .i64 1))]) = some (.agg (.mk tinyS.cells)) := by kernel_rfl
theorem Ygj : Zdl P 30 (Zbf .e [(0, .const (.int .u8 1)), (3, .const (.int .i64 4))]) = some (.agg (.mk (Prt.cells ⟨1, 0, 0, 4⟩))) := by kernel_rfl
theorem Ygh : Zdl P 30 (Zbf .e [(0, .const (.int .u8 9)), (2, .const (.int .i64 1)), (3, .const (.int .i64 4))]) = some (.agg (.mk (Prt.cells ⟨9, 0, 1, 4⟩))) := by kernel_rfl
theorem Ygm : Zdl P 55 (Zbf .e [(0, .const (.int .u64 0)), (1, .const (.int .u64 7))]) = some (.agg (.mk (([0, 7] : List Int).map (.int .u64)))) := by kernel_rfl
theorem Ye4 (xs ys : List Int) (hx : xs.length = 2) (hy : ys.length = 2) {ty r : TypeId} : wop P ro (.binOp .eql 55 (.const (.agg (.mk (xs.map (.int .u64))))) (.const (.agg (.mk (ys.map (.int .u64))))) r) ty s K = K (.bool (decide (xs = ys))) s :=
 Z4l (Zhq _) (Zhq _) (by kernel_rfl) (Yc2 (n := 2) (e := 34) (by kernel_rfl) Yb7 Zfm Z0m xs ys hx hy)
theorem Z9y (hw : Wf s) (hro : ro ≤ s.n) : CallWP P ro 25 [] s K = K (.agg (.mk tinyS.cells)) s := by
 refine Zcl (Zas b25 rfl ?_) K
 rw [n25]
 unfold v25
 simp (maxSteps := 10000000) only [wW, reduceCtorEq, Nat.reduceEqDiff]
 refine Zai Yd8 hw.ent fun C s1 m1 => ?_
 have e1 := m1.eq
 have hn0 : (ent s).n = s.n := rfl
 rw [Yda, Zaa]
 refine Zag Ye0 m1.here (l := tinyS.cells) rfl (by decide) m1.wf (by omega) rfl rfl fun s2 p2 => ?_
 rw [Zab, Zah Zc2 p2.here rfl, Zaa]
 exact Zau rfl (p2.grew _ hw.ent m1.grew (by omega)) ⟨rfl, rfl⟩
theorem Zz7 (A : Nat) {s : St} {i : Nat} {x : Int} (hA : s.at A = some (.cells (splice (Zaz (Value.int .u8 0).cells (Int.toNat 176 * 1)) i [.int .u8 x]) 5 false)) (hi : i < 176) : Bys s (.slice (some ⟨A, 0, none⟩) 176 176) (Zqq i x) := by
 have hlen := Zr2 i x
 unfold Bys
 rw [hlen]
 refine ⟨_, _, rfl, by rw [List.length_map, hlen], ⟨Nat.le_refl _, fun h => (by cases h), fun x hx => by cases hx; exact .inl rfl⟩, fun _ => ⟨A, 0, none, _, _, _, rfl, rfl, hA, ?_⟩⟩
 have hz : Zaz (Value.int .u8 0).cells (Int.toNat 176 * 1) = (List.replicate 176 (0 : Int)).map (.int .u8) := by kernel_rfl
 rw [List.drop_zero, hz, Z7m (by rw [List.length_map, List.length_replicate]; exact hi)]
 unfold Zqq
 rw [List.map_set]
 exact List.take_of_length_le (by rw [List.length_set, List.length_map, List.length_replicate]; decide)
end
section
variable {ro : Nat} {s : St} {K : Value → St → Prop}
theorem Z22 (hw : Wf s) (hro : ro ≤ s.n) (hF : FieldsAt s) : CallWP P ro 16 [] s K = K (.bool true) s := by
 refine Zcl (Zas b16 rfl ?_) K
 rw [n16]
 unfold v16
 simp (maxSteps := 10000000) only [wW, reduceCtorEq, Nat.reduceEqDiff]
 have hFe : FieldsAt (ent s) := hF
 have hn0 : (ent s).n = s.n := rfl
 have hroe : ro ≤ (ent s).n := hro
 have h0n : 0 < s.n := hF.lt
 have hv := Yd9
 rw [Z9y hw.ent hroe]
 refine Zz4 tinyS hw.ent hroe hFe (fun h => by rw [hv] at h; cases h) fun _ v s1 g1 hP hPA => ?_
 have n1 := g1.n
 have w1 := hw.ent.grew g1
 have hF1 := hFe.grew g1
 have h17 := Yce
 rw [Sl.wlen hP Zis, h17]
 simp (maxSteps := 10000000) only [wW, reduceCtorEq, Nat.reduceEqDiff]
 have hget : ∀ (i : Nat) (p : Prt) (_ : i < 17), (Zbe tinyS)[i]? = some p → ∃ A o, Zal P 24 v (.int .i64 (i : Int)) = some (.pointer (some ⟨A, o, none⟩)) ∧ Za4 P s1 30 (.pointer (some ⟨A, o, none⟩)) = some (.agg (.mk p.cells)) := fun i p h hp => by
  have hi : i < (Zbe tinyS).length := by omega
  obtain ⟨A, o, q1, q2⟩ := hP.ix hi
  rw [List.getElem?_eq_getElem hi] at hp
  cases hp
  exact ⟨A, o, q1, q2⟩
 have hget3 : ∀ (i : Nat) (p : Prt) (_ : i < 17), (Zbe tinyS)[i]? = some p → ∃ A o, Zal P 24 v (.int .i64 (i : Int)) = some (.pointer (some ⟨A, o, none⟩)) ∧ (∀ k, k < 4 → (Zbi (s1.at A)).bind (fun c => c[o + k]?) = p.cells[k]?) := fun i p h hp => by
  have hi : i < (Zbe tinyS).length := by omega
  obtain ⟨A, o, h1, h2, h3⟩ := Sl.ix hP (by decide) (show (0 : Int) ≤ i by omega) (show (i : Int) < (Zbe tinyS).length by omega)
  refine ⟨A, o, h1 Zis Zjz, fun k hk => ?_⟩
  rw [h2 k hk, Int.toNat_natCast, Zrc _ hp hk]
 obtain ⟨A0, o0, q0, r0⟩ := hget 0 _ (by decide) Ycd
 obtain ⟨A3, o3, q3, r3⟩ := hget3 3 _ (by decide) Ycc
 obtain ⟨A8, o8, q8, r8⟩ := hget 8 _ (by decide) Ycb
 have r30 : Za4 P s1 28 (.pointer (some ⟨A3, o3 + 0, none⟩)) = some (.int .u8 6) := by rw [Zan Zms]; exact r3 0 (by decide)
 have r33 : Za4 P s1 3 (.pointer (some ⟨A3, o3 + 3, none⟩)) = some (.int .i64 4) := by rw [Zan ap_3]; exact r3 3 (by decide)
 have q0' : Zal P 24 v (.int .i64 0) = some (.pointer (some ⟨A0, o0, none⟩)) := q0
 have q3' : Zal P 24 v (.int .i64 3) = some (.pointer (some ⟨A3, o3, none⟩)) := q3
 have q8' : Zal P 24 v (.int .i64 8) = some (.pointer (some ⟨A8, o8, none⟩)) := q8
 rw [Zae, q0', Zaa, Zab, r0, Zaa, Ygj, Zaa, Zp4, Zak, Zae, q3', Zaa, Zcz, Zaa, Zab, r30, Zaa]
 simp (maxSteps := 10000000) only [wW, reduceCtorEq, Nat.reduceEqDiff]
 rw [if_neg (by decide), Zae, q3', Zaa, Znq, Zaa, Zab, r33, Zaa]
 simp (maxSteps := 10000000) only [wW, reduceCtorEq, Nat.reduceEqDiff]
 rw [if_neg (by decide), Zae, q8', Zaa, Zab, r8, Zaa, Ygh, Zaa, Zp4, Zak, Z9y w1 (by omega), Ya8 tinyS w1 (by omega) hF1, Z7c]
 simp (maxSteps := 10000000) only [wW, reduceCtorEq, Nat.reduceEqDiff]
 rw [if_neg (by decide)]
 refine Zdb Zr9 ty_5 w1 (by decide) (by decide) (by decide) (by decide) fun A s2 m2 => ?_
 have e2 := m2.eq
 have n2 := m2.n
 have hix : Zal P 32 (.slice (some ⟨A, 0, none⟩) (Int.toNat 176) (Int.toNat 176)) (.int .i64 4) = some (.pointer (some ⟨A, 4, none⟩)) := by
  simp only [Zal, Yb6, Yaq, Option.bind_some, Zes]
  rfl
 rw [Zae, hix, Zaa]
 refine Zbc Yaq m2.here m2.wf (by omega) (by rw [Zck]; decide) rfl fun s3 p3 => ?_
 have n3 := p3.n
 have g3 : Grew s1 s3 := p3.grew _ w1 m2.grew (by omega)
 have g03 := g1.trans g3
 have hF3 := hF1.grew g3
 have hA3 := p3.here
 have hb3 : Bys s3 (.slice (some ⟨A, 0, none⟩) 176 176) (Zqq 4 7) := Zz7 A hA3 (by decide)
 have hAl := St.at_lt hA3
 rw [Z9y p3.wf (by omega)]
 refine Z61 tinyS (Yaa 4 (by decide)) (by rw [Zr2]; decide) hb3 (fun _ A' o sp n c e => by cases e; exact hAl) p3.wf (by omega) hF3 (fun h => by rw [hv] at h; cases h) (fun _ h => absurd (by rw [show tinyS.f = 0 from rfl, Z98]) h) fun _ _ _ cs B s4 W g4 _ hW hWB hp => ?_
 have n4 := g4.n
 have w4 := p3.wf.grew g4
 have hcl : cs.length = 8 := hp.cl
 simp (maxSteps := 10000000) only [wW, reduceCtorEq, Nat.reduceEqDiff, List.getElem?_cons_zero, List.getElem?_cons_succ]
 refine Zai Zh0 w4 fun Z s5 m5 => ?_
 have e5 := m5.eq
 have n5 := m5.n
 refine Zag Zea m5.here (l := cs) hcl (by decide) m5.wf (by omega) rfl hp.one fun s6 p6 => ?_
 have n6 := p6.n
 have g46 : Grew s4 s6 := p6.grew _ w4 m5.grew (by omega)
 have g36 := g4.trans g46
 have hF6 := hF3.grew g36
 have hp6 := hp.grew g46
 rw [Zab, Zah Zhy p6.here hcl, Zaa]
 refine ⟨hp.veq, ?_⟩
 rw [Z9y p6.wf (by omega)]
 refine ⟨.refl _, ?_⟩
 refine Ydw (h := tinyS) (g := Z99) hv hp6 hcl (Zv3 hv _) Z7d p6.wf (by omega) hF6 fun A7 s7 g7 hA7 hb7 => ?_
 rw [Z96, Zr2] at hb7 ⊢
 have n7 := g7.n
 have g37 := g36.trans g7
 simp (maxSteps := 10000000) only [wW, reduceCtorEq, Nat.reduceEqDiff, List.getElem?_cons_zero, List.getElem?_cons_succ]
 obtain ⟨v0, v1, v2, v5, x3, x6, hcs, hV, _⟩ := (hp6.grew g7).list
 have hZ7 : s7.at Z = some (.cells cs 39 false) := (g7.same Z (St.at_lt p6.here)).trans p6.here
 have hv0 : cs[0]? = some v0 := by rw [hcs]; rfl
 have hld0 : Za4 P s7 33 (.pointer (some ⟨Z, 0, none⟩)) = some v0 := by rw [Zan Zfl, Zac hZ7]; exact hv0
 have hdig : (Zb4 (Zqq 4 7) (Zbe tinyS)).2 1 0 0 = [0, 7, 0, 0] := Z97
 rw [hdig] at hV
 obtain ⟨m, hm, hSl, _⟩ := hV
 have hm2 : m = 2 := by simp at hm; omega
 subst hm2
 obtain ⟨pd, i1, i2⟩ := hSl.dig (i := 0) rfl (by decide)
 have i1' : Zal P 33 v0 (.int .i64 0) = some pd := i1
 rw [Zs2, Zaa, Zab, hld0, Zaa, Sl.wlen hSl Zr8]
 simp (maxSteps := 10000000) only [wW, reduceCtorEq, Nat.reduceEqDiff]
 rw [if_pos (by decide), Zab, hld0, Zaa, Zae, i1', Zaa, Zab, i2, Zaa, Ygm, Zaa]
 have hb3' : Bys s7 (.slice (some ⟨A, 0, none⟩) 176 176) (Zqq 4 7) := Sl.grew hb3 g37.same
 show wop P ro (.binOp .eql 55 (.const (.agg (.mk (([0, 7] : List Int).map (.int .u64))))) (.const (.agg (.mk (([0, 7] : List Int).map (.int .u64))))) _) _ _ _
 rw [Ye4 _ _ rfl rfl, decide_eq_true rfl]
 simp (maxSteps := 10000000) only [wW, reduceCtorEq, Nat.reduceEqDiff]
 rw [show Int.toNat 176 = 176 from rfl, Z31 hb3', Z31 hb7, Z8z]
 exact Zau rfl (g03.trans g37) ⟨rfl, rfl⟩
end
section
variable {ro : Nat} {s : St} {K : Value → St → Prop}
end
section
variable {h : Shp}
end
section
variable {ro : Nat} {s : St} {K : Value → St → Prop}
end
section
variable {ro : Nat} {s : St} {K : Value → St → Prop} {h : Shp}
end
section
variable {ro : Nat} {s : St} {K : Value → St → Prop}
end
section
variable {h : Shp}
end
theorem PfAt.opn {s : St} {W : Nat → Prop} {cs : List Value} {B : PfB} {R Q : Nat} {g : Nat → Nat → Nat → List Int} (h : PfAt s W cs B R Q g) {j : Nat} (hj : j < Q) :
  ∃ oc l, s.at B.ob = some (.cells oc 59 false) ∧ cut oc (13 * j) 13 = some l ∧ l.length = 13 ∧ l.all (·.oneCell') = true ∧ (∀ i, i < 6 → ∃ v, l[i]? = some v ∧ SlV s W 1 v (g 8 j i)) ∧ (∀ i, i < 6 → ∃ v, l[6 + i]? = some v ∧ SlV s W 2 v (g 9 j i)) ∧ l[12]? = some (.slice (some ⟨B.fb j, 0, none⟩) R R) := by
 obtain ⟨oc, h1, h2, h3⟩ := h.ob
 have hcut : cut oc (13 * j) 13 = some ((oc.drop (13 * j)).take 13) := Zj0 (by omega)
 have hget : ∀ i, i < 13 → ((oc.drop (13 * j)).take 13)[i]? = oc[13 * j + i]? := fun i hi => by rw [List.getElem?_take, if_pos hi, List.getElem?_drop]
 have hl : ((oc.drop (13 * j)).take 13).length = 13 := by rw [List.length_take, List.length_drop]; omega
 have h8 : ∀ i, i < 6 → ∃ v, ((oc.drop (13 * j)).take 13)[i]? = some v ∧ SlV s W 1 v (g 8 j i) := fun i hi => by
  obtain ⟨c, hc, hS⟩ := h.sl 8 j i (.row j i hj hi)
  have hc : Zbi (s.at B.ob) = some c := hc
  rw [Zac h1] at hc
  cases hc
  unfold SlotC at hS
  rw [if_neg (by decide), if_neg (by decide), if_pos (by decide)] at hS
  obtain ⟨v, e, hv⟩ := hS
  exact ⟨v, (hget i (by omega)).trans e, hv⟩
 have h9 : ∀ i, i < 6 → ∃ v, ((oc.drop (13 * j)).take 13)[6 + i]? = some v ∧ SlV s W 2 v (g 9 j i) := fun i hi => by
  obtain ⟨c, hc, hS⟩ := h.sl 9 j i (.path j i hj hi)
  have hc : Zbi (s.at B.ob) = some c := hc
  rw [Zac h1] at hc
  cases hc
  unfold SlotC at hS
  rw [if_neg (by decide), if_neg (by decide), if_neg (by decide)] at hS
  obtain ⟨v, e, hv⟩ := hS
  refine ⟨v, (hget (6 + i) (by omega)).trans ?_, hv⟩
  rw [← e]
  congr 1
  show 13 * j + (6 + i) = 13 * j + 6 + i
  omega
 have h12 : ((oc.drop (13 * j)).take 13)[12]? = some (.slice (some ⟨B.fb j, 0, none⟩) R R) := (hget 12 (by decide)).trans (h3 j hj)
 refine ⟨oc, _, h1, hcut, hl, List.all_eq_true.2 fun v hv => ?_, h8, h9, h12⟩
 obtain ⟨i, hi⟩ := List.getElem?_of_mem hv
 have hlt := (List.getElem?_eq_some_iff.1 hi).1
 by_cases hi6 : i < 6
 ·obtain ⟨w, e, hw⟩ := h8 i hi6
  rw [hi] at e; cases e
  exact hw.one.1
 ·by_cases hi12 : i < 12
  ·obtain ⟨w, e, hw⟩ := h9 (i - 6) (by omega)
   rw [show 6 + (i - 6) = i by omega, hi] at e
   cases e
   exact hw.one.1
  ·have : i = 12 := by omega
   subst this
   rw [hi] at h12; cases h12
   rfl
section
variable {ro : Nat} {s : St} {h : Shp}
theorem SlV.u64s {W : Nat → Prop} {v : Value} {l : List Int} (hv : SlV s W 1 v l) : U64s s v l := by
 obtain ⟨m, hm, hS, _⟩ := hv
 unfold U64s
 rw [show l.length = m by omega]
 exact hS
theorem U64s.atN {v : Value} {l : List Int} (hv : U64s s v l) {i : Nat} {x : Int} (hx : l[i]? = some x) : ∃ A o, Zal P 36 v (.int .i64 (i : Int)) = some (.pointer (some ⟨A, o, none⟩)) ∧ Za4 P s 34 (.pointer (some ⟨A, o, none⟩)) = some (.int .u64 x) := by
 have hl := (List.getElem?_eq_some_iff.1 hx).1
 obtain ⟨A5, o5, q1, q2, _⟩ := Sl.ix hv (by decide) (show (0 : Int) ≤ i by omega) (show (i : Int) < l.length by omega)
 have q2' := q2 0 (by decide)
 rw [Nat.add_zero, Nat.add_zero, Nat.mul_one, Int.toNat_natCast, List.getElem?_map, hx] at q2'
 exact ⟨_, _, q1 Zh1 Zfm, by rw [Zan Zoq]; exact q2'⟩
end
section
variable {ro : Nat} {s : St} {h : Shp}
end
section
variable {ro : Nat} {s : St} {K : Value → St → Prop}
theorem Ygl (x y : Int) : Zdl P 55 (Zbf .e [(0, .const (.int .u64 x)), (1, .const (.int .u64 y))]) = some (.agg (.mk [.int .u64 x, .int .u64 y])) := by kernel_rfl
theorem Ze9 {u : Value} {l : List Int} {m : Nat} (hU : U64s s u l) (hl : l.length = m * 2) (hlen : m < 2 ^ 30) (hw : Wf s) (hro : ro ≤ s.n)
  (hk : ∀ v s', Grew s s' → Sl s' v 2 m (l.map (.int .u64)) → (∀ A o sp n c, v = .slice (some ⟨A, o, sp⟩) n c → s.n ≤ A ∧ A < s'.n) → K v s') : CallWP P ro 87 [u] s K := by
 refine Zas b87 rfl ?_
 rw [n87]
 unfold v87
 simp (maxSteps := 10000000) only [wW, reduceCtorEq, Nat.reduceEqDiff]
 have hn0 : (ent s).n = s.n := rfl
 have hUe : U64s (ent s) u l := Sl.ent hU
 refine Zdx Z5m Z5e (fun (i : Nat) τ ds s' => i ≤ m ∧ τ 0 = u ∧ τ 4 = .int .i64 (2 * i : Nat) ∧ ds = [] ∧ Wf s' ∧ Grew (ent s) s' ∧ ∃ v oA, τ 3 = v ∧ Own s' v 55 2 i ((l.take (2 * i)).map (.int .u64)) oA ∧ ∀ A, oA = some A → s.n ≤ A) (fun i => m - i) ?_ 0 ⟨by omega, ?_, ?_, rfl, hw.ent, .refl _, .slice none 0 0, none, ?_, ⟨rfl, rfl, by simp⟩, fun A e => by cases e⟩
 ·rintro i τ ds s' ⟨hi, t0, t4, rfl, w', g', v, oA, t3, hO, hA⟩
  rw [Z46]
  unfold Zoz
  have hU' : U64s s' u l := Sl.grew hUe g'.same
  have gn := g'.n
  simp (maxSteps := 10000000) only [wW, reduceCtorEq, Nat.reduceEqDiff, t0, t3, t4]
  rw [Sl.wlen hU' Zh1, Zaj (n := ((2 * i : Nat) : Int) + 1) (by omega) (by omega)]
  simp (maxSteps := 10000000) only [wW, reduceCtorEq, Nat.reduceEqDiff]
  by_cases hlt : i < m
  ·rw [if_pos (by omega)]
   have h1 : l[2 * i]? = some l[2 * i] := List.getElem?_eq_getElem (by omega)
   have h2 : l[2 * i + 1]? = some l[2 * i + 1] := List.getElem?_eq_getElem (by omega)
   obtain ⟨A1, o1, i1, l1⟩ := hU'.atN h1
   obtain ⟨A2, o2, i2, l2⟩ := hU'.atN h2
   have i2' : Zal P 36 u (.int .i64 (((2 * i : Nat) : Int) + 1)) = some (.pointer (some ⟨A2, o2, none⟩)) := i2
   rw [Zae, i1, Zaa, Zab, l1, Zaa]
   refine ⟨by simp [veq], ?_⟩
   rw [Zae, i2', Zaa, Zab, l2, Zaa]
   refine ⟨by simp [veq], ?_⟩
   rw [Ygl, Zaa]
   refine Zb3 Zr8 Z4p w' [.agg (.mk [.int .u64 l[2 * i], .int .u64 l[2 * i + 1]])] rfl rfl (by decide) (fun v hv => by
    simp only [List.mem_cons, List.not_mem_nil, or_false] at hv
    subst hv
    rfl) fun A6 s6 m6 => ?_
   have n6 := m6.n
   refine ⟨m6.fresh (by simp [veqL, veq, Value.cells, List.flatMap]), ?_⟩
   have x6 : Sl s6 (.slice (some ⟨A6, 0, none⟩) 1 1) 2 1 [.int .u64 l[2 * i], .int .u64 l[2 * i + 1]] := m6.sl rfl
   refine Zf1 Zr8 (by kernel_rfl) Z4p (by decide) (by decide) (hO.grew m6.grew) x6 (by decide) m6.wf (fun A e => by have := hA A e; omega) (by omega) rfl fun v7 s7 hO7 ap => ?_
   have n7 := ap.n
   refine ⟨by omega, ?_⟩
   have ht : (l.take (2 * (i + 1))).map (Value.int .u64) = (l.take (2 * i)).map (.int .u64) ++ [.int .u64 l[2 * i], .int .u64 l[2 * i + 1]] := by
    rw [show 2 * (i + 1) = 2 * i + 1 + 1 by omega, Zbm h2, Zbm h1, List.append_assoc, List.map_append]
    rfl
   rw [Zaj (by omega) (by omega)]
   refine ⟨i + 1, by omega, by omega, ?_, ?_, by first | trivial | rfl, ap.wf, ap.grew _ hw.ent (g'.trans m6.grew) hA, v7, some s6.n, ?_, ?_, fun A e => ?_⟩
   ·simp only [U, Zad, wW, reduceCtorEq, Nat.reduceEqDiff, t0]
   ·simp only [U, Zad, wW, reduceCtorEq, Nat.reduceEqDiff]
    rw [show 2 * (i + 1) = 2 * i + 2 by omega]; rfl
   ·simp only [U, Zad, wW, reduceCtorEq, Nat.reduceEqDiff]
   ·rw [ht]; exact hO7
   ·cases e; omega
  ·obtain rfl : i = m := by omega
   rw [if_neg (by omega)]
   have hall : l.take (2 * i) = l := List.take_of_length_le (by omega)
   rw [hall] at hO
   simp (maxSteps := 10000000) only [U, Zad, wW, reduceCtorEq, Nat.reduceEqDiff, t3]
   have hS := hO.sl
   refine Znb hw g' hS fun s9 g9 hs9 => hk v s9 g9 hs9 fun A o sp n c e => ?_
   cases oA with
   | none =>
    obtain ⟨e1, _⟩ := hO
    rw [e1] at e; cases e
   | some A' =>
    obtain ⟨e1, hat, _, hpos⟩ := hO
    obtain ⟨a, cc, ev, _, _, hb⟩ := hs9
    obtain ⟨A9, o9, m9, cells, t, op, ha, _, hat9, _⟩ := hb (by omega)
    rw [ev, ha] at e1
    rw [ev, ha] at e
    cases e1
    cases e
    exact ⟨hA _ rfl, St.at_lt hat9⟩
 ·simp only [U, Zad, wW, reduceCtorEq, Nat.reduceEqDiff]
 ·simp only [U, Zad, wW, reduceCtorEq, Nat.reduceEqDiff]; rfl
 ·simp only [U, Zad, wW, reduceCtorEq, Nat.reduceEqDiff]
end
def OpQ (s : St) (Bx : Nat) (l : List Value) (k i : Nat) (u : Value) (nums : List Int) (s' : St) : Prop :=
 ∃ s1 v, Grew s s1 ∧ Wf s1 ∧ Put s1 Bx (.cells (splice l (if k = 8 then i else 6 + i) [v]) 59 false) s' ∧ v.oneCell' = true ∧
  ((k = 8 ∧ v = u ∧ s1 = s) ∨ (k = 9 ∧ ∃ m, nums.length = m * 2 ∧ Sl s1 v 2 m (nums.map (.int .u64)) ∧ ∀ A o sp n c, v = .slice (some ⟨A, o, sp⟩) n c → s.n ≤ A ∧ A < s1.n))
theorem Zkw {s : St} {v : Value} {sz n : Nat} {cs : List Value} (h : Sl s v sz n cs) : v.oneCell' = true := by
 obtain ⟨a, c, rfl, _⟩ := h
 rfl
section
variable {ro : Nat} {s : St} {Bx Pt k q i n m : Nat} {l : List Value} {u : Value} {nums : List Int} {τ : Tau} {ds : List Deferred} {Q : Ex → XK} {T : Value}
structure OpH (ro : Nat) (s : St) (Bx Pt k q i n m : Nat) (l : List Value) (u : Value) (nums : List Int) (τ : Tau) (T : Value) : Prop where
 bx : s.at Bx = some (.cells l 59 false)
 ll : l.length = 13
 pt : s.at Pt = some (.cells (Prt.cells ⟨k, q, i, n⟩) 30 false)
 w : Wf s
 ro : ro ≤ Bx ∧ ro ≤ s.n
 u1 : u.oneCell' = true
 us : U64s s u nums
 nm : k = 9 → nums.length = m * 2
 hm : m < 2 ^ 30
 hi : i < 6
 hk : k = 8 ∨ k = 9
 t2 : τ 2 = u
 t3 : τ 3 = ptr Bx
 t4 : τ 4 = ptr Pt
 t6 : τ 6 = T
theorem OpH.kind (h : OpH ro s Bx Pt k q i n m l u nums τ T) : Za4 P s 28 (.pointer (some ⟨Pt, 0 + 0, none⟩)) = some (.int .u8 k) := by rw [Zan Zms, Zac h.pt]; rfl
theorem OpH.ix (h : OpH ro s Bx Pt k q i n m l u nums τ T) : Za4 P s 3 (.pointer (some ⟨Pt, 0 + 2, none⟩)) = some (.int .i64 i) := by rw [Zan ap_3, Zac h.pt]; rfl
theorem OpH.put8 (h : OpH ro s Bx Pt k q i n m l u nums τ T) (hk : k = 8) {K : Value → St → Prop} {ty : TypeId} (hf : ∀ s', OpQ s Bx l k i u nums s' → K undef s') : wop P ro (.store 36 (.const (.pointer (some ⟨Bx, 0 + i, none⟩))) (.const u)) ty s K := by
 have hi := h.hi
 have hll := h.ll
 refine Zbc Z3s h.bx h.w h.ro.1 (by omega) h.u1 fun s1 p1 => hf s1 ⟨s, u, .refl _, h.w, ?_, h.u1, .inl ⟨hk, rfl, rfl⟩⟩
 rw [if_pos hk]
 rw [Nat.zero_add] at p1
 exact p1
theorem OpH.put9 (h : OpH ro s Bx Pt k q i n m l u nums τ T) (hk : k = 9) {s1 : St} {v : Value} (g : Grew s s1) (hv : Sl s1 v 2 m (nums.map (.int .u64))) (hn : ∀ A o sp n c, v = .slice (some ⟨A, o, sp⟩) n c → s.n ≤ A ∧ A < s1.n) {K : Value → St → Prop} {ty : TypeId} (hf : ∀ s', OpQ s Bx l k i u nums s' → K undef s') : wop P ro (.store 33 (.const (.pointer (some ⟨Bx, 0 + (6 + i), none⟩))) (.const v)) ty s1 K := by
 have hi := h.hi
 have hll := h.ll
 have hB := St.at_lt h.bx
 have w1 := h.w.grew g
 refine Zbc Zm1 ((g.same Bx hB).trans h.bx) w1 h.ro.1 (by omega) (Zkw hv) fun s2 p2 => hf s2 ⟨s1, v, g, w1, ?_, Zkw hv, .inr ⟨hk, m, h.nm hk, hv, hn⟩⟩
 rw [if_neg (by omega)]
 rw [Nat.zero_add] at p2
 exact p2
theorem opC4 (h : OpH ro s Bx Pt k q i n m l u nums τ T) (hlo : ¬ (k = 8 ∧ i = 0) ∧ ¬ (k = 8 ∧ i = 1) ∧ ¬ (k = 8 ∧ i = 2) ∧ ¬ (k = 8 ∧ i = 3)) (tf : τ 87 = .bool (decide (k = 8 ∧ i = 4))) (hkk : ∀ (τ' : Tau) (al : AL) s', U τ' al 3 = ptr Bx → U τ' al 6 = T → OpQ s Bx l k i u nums s' → Q .normal τ' al ds s') :
  xp (Zao P ro) none 140 k88 Zdf [1, 1, 1, 1, 1, 1, 1, 1, 1, 1, 1, 1, 1, 0, 0, 1] τ [] ds s Q := by
 rw [Zmn]
 unfold Zgo
 rw [tf, h.t2, h.t3, h.t4]
 by_cases h8 : k = 8 ∧ i = 4
 ·obtain ⟨rfl, rfl⟩ := h8
  rw [decide_eq_true ⟨rfl, rfl⟩, Zbb, Zcx, Zaf, Z1z, Zaa]
  refine h.put8 rfl fun s' hq => hkk _ _ s' ?_ ?_ hq
  ·simp only [U, Zad, wW, reduceCtorEq, Nat.reduceEqDiff, h.t2, h.t3, h.t4, h.t6]
  ·simp only [U, Zad, wW, reduceCtorEq, Nat.reduceEqDiff, h.t2, h.t3, h.t4, h.t6]
 rw [decide_eq_false h8, Zak, Zcx, Zaf, Zcz, Zaa, Zab, h.kind, Zaa, Zax, Za1 Zbg, Zaa]
 have hk := h.hk
 have hi := h.hi
 by_cases hk8 : k = 8
 ·subst hk8
  have h5 : i = 5 := by omega
  subst h5
  rw [decide_eq_true (show ((8 : Nat) : Int) = 8 from rfl), Zbb, Zaf, Z1y, Zaa]
  refine h.put8 rfl fun s' hq => hkk _ _ s' ?_ ?_ hq
  ·simp only [U, Zad, wW, reduceCtorEq, Nat.reduceEqDiff, h.t2, h.t3, h.t4, h.t6]
  ·simp only [U, Zad, wW, reduceCtorEq, Nat.reduceEqDiff, h.t2, h.t3, h.t4, h.t6]
 have hk9 : k = 9 := by omega
 subst hk9
 rw [decide_eq_false (by decide), Zak, Zaf, Zd2, Zaa, Zab, h.ix, Zaa, Zax, Za1 Zbp, Zaa]
 by_cases h0 : i = 0
 ·subst h0
  rw [decide_eq_true (by decide), Zbb, Zcn]
  refine Ze9 h.us (h.nm rfl) h.hm h.w h.ro.2 fun v s1 g1 hv hn => ?_
  rw [Zaf, Z1x, Zaa]
  refine h.put9 rfl g1 hv hn fun s' hq => hkk _ _ s' ?_ ?_ hq
  ·simp only [U, Zad, wW, reduceCtorEq, Nat.reduceEqDiff, h.t2, h.t3, h.t4, h.t6]
  ·simp only [U, Zad, wW, reduceCtorEq, Nat.reduceEqDiff, h.t2, h.t3, h.t4, h.t6]
 rw [decide_eq_false (by omega), Zak]
 rw [Zaf, Zd2, Zaa, Zab, h.ix, Zaa, Zax, Za1 Zbp, Zaa]
 by_cases h1 : i = 1
 ·subst h1
  rw [decide_eq_true (by decide), Zbb, Zcn]
  refine Ze9 h.us (h.nm rfl) h.hm h.w h.ro.2 fun v s1 g1 hv hn => ?_
  rw [Zaf, Z1w, Zaa]
  refine h.put9 rfl g1 hv hn fun s' hq => hkk _ _ s' ?_ ?_ hq
  ·simp only [U, Zad, wW, reduceCtorEq, Nat.reduceEqDiff, h.t2, h.t3, h.t4, h.t6]
  ·simp only [U, Zad, wW, reduceCtorEq, Nat.reduceEqDiff, h.t2, h.t3, h.t4, h.t6]
 rw [decide_eq_false (by omega), Zak]
 rw [Zaf, Zd2, Zaa, Zab, h.ix, Zaa, Zax, Za1 Zbp, Zaa]
 by_cases h2 : i = 2
 ·subst h2
  rw [decide_eq_true (by decide), Zbb, Zcn]
  refine Ze9 h.us (h.nm rfl) h.hm h.w h.ro.2 fun v s1 g1 hv hn => ?_
  rw [Zaf, Z1v, Zaa]
  refine h.put9 rfl g1 hv hn fun s' hq => hkk _ _ s' ?_ ?_ hq
  ·simp only [U, Zad, wW, reduceCtorEq, Nat.reduceEqDiff, h.t2, h.t3, h.t4, h.t6]
  ·simp only [U, Zad, wW, reduceCtorEq, Nat.reduceEqDiff, h.t2, h.t3, h.t4, h.t6]
 rw [decide_eq_false (by omega), Zak]
 rw [Zaf, Zd2, Zaa, Zab, h.ix, Zaa, Zax, Za1 Zbp, Zaa]
 by_cases h3 : i = 3
 ·subst h3
  rw [decide_eq_true (by decide), Zbb, Zcn]
  refine Ze9 h.us (h.nm rfl) h.hm h.w h.ro.2 fun v s1 g1 hv hn => ?_
  rw [Zaf, Z1u, Zaa]
  refine h.put9 rfl g1 hv hn fun s' hq => hkk _ _ s' ?_ ?_ hq
  ·simp only [U, Zad, wW, reduceCtorEq, Nat.reduceEqDiff, h.t2, h.t3, h.t4, h.t6]
  ·simp only [U, Zad, wW, reduceCtorEq, Nat.reduceEqDiff, h.t2, h.t3, h.t4, h.t6]
 rw [decide_eq_false (by omega), Zak]
 rw [Zaf, Zd2, Zaa, Zab, h.ix, Zaa, Zax, Za1 Zbp, Zaa]
 by_cases h4 : i = 4
 ·subst h4
  rw [decide_eq_true (by decide), Zbb, Zcn]
  refine Ze9 h.us (h.nm rfl) h.hm h.w h.ro.2 fun v s1 g1 hv hn => ?_
  rw [Zaf, Zwb, Zaa]
  refine h.put9 rfl g1 hv hn fun s' hq => hkk _ _ s' ?_ ?_ hq
  ·simp only [U, Zad, wW, reduceCtorEq, Nat.reduceEqDiff, h.t2, h.t3, h.t4, h.t6]
  ·simp only [U, Zad, wW, reduceCtorEq, Nat.reduceEqDiff, h.t2, h.t3, h.t4, h.t6]
 rw [decide_eq_false (by omega), Zak]
 have h5 : i = 5 := by omega
 subst h5
 rw [Zcn]
 refine Ze9 h.us (h.nm rfl) h.hm h.w h.ro.2 fun v s1 g1 hv hn => ?_
 rw [Zaf, Zwa, Zaa]
 refine h.put9 rfl g1 hv hn fun s' hq => hkk _ _ s' ?_ ?_ hq
 ·simp only [U, Zad, wW, reduceCtorEq, Nat.reduceEqDiff, h.t2, h.t3, h.t4, h.t6]
 ·simp only [U, Zad, wW, reduceCtorEq, Nat.reduceEqDiff, h.t2, h.t3, h.t4, h.t6]
theorem opC3 (h : OpH ro s Bx Pt k q i n m l u nums τ T) (hlo : ¬ (k = 8 ∧ i = 0) ∧ ¬ (k = 8 ∧ i = 1) ∧ ¬ (k = 8 ∧ i = 2)) (tf : τ 76 = .bool (decide (k = 8 ∧ i = 3))) (hkk : ∀ (τ' : Tau) (al : AL) s', U τ' al 3 = ptr Bx → U τ' al 6 = T → OpQ s Bx l k i u nums s' → Q .normal τ' al ds s') :
  xp (Zao P ro) none 140 k88 Zd6 [1, 1, 1, 1, 1, 1, 1, 1, 1, 1, 1, 0, 0, 1] τ [] ds s Q := by
 rw [Zof]
 unfold Zh3
 rw [tf, h.t2, h.t3, h.t4]
 by_cases h8 : k = 8 ∧ i = 3
 ·obtain ⟨rfl, rfl⟩ := h8
  rw [decide_eq_true ⟨rfl, rfl⟩, Zbb, Zcx, Zaf, Z10, Zaa]
  refine h.put8 rfl fun s' hq => hkk _ _ s' ?_ ?_ hq
  ·simp only [U, Zad, wW, reduceCtorEq, Nat.reduceEqDiff, h.t2, h.t3, h.t4, h.t6]
  ·simp only [U, Zad, wW, reduceCtorEq, Nat.reduceEqDiff, h.t2, h.t3, h.t4, h.t6]
 rw [decide_eq_false h8, Zak, Zcx, Zaf, Zcz, Zaa, Zab, h.kind, Zaa, Zax, Za1 Zbg, Zaa]
 have hlo' : ¬ (k = 8 ∧ i = 0) ∧ ¬ (k = 8 ∧ i = 1) ∧ ¬ (k = 8 ∧ i = 2) ∧ ¬ (k = 8 ∧ i = 3) := ⟨hlo.1, hlo.2.1, hlo.2.2, h8⟩
 have hOp : ∀ al : AL, U τ al 2 = u → U τ al 3 = ptr Bx → U τ al 4 = ptr Pt → U τ al 6 = T → OpH ro s Bx Pt k q i n m l u nums (U τ al) T := fun al a b c d => ⟨h.bx, h.ll, h.pt, h.w, h.ro, h.u1, h.us, h.nm, h.hm, h.hi, h.hk, a, b, c, d⟩
 by_cases hk8 : k = 8
 ·subst hk8
  rw [decide_eq_true (show ((8 : Nat) : Int) = 8 from rfl), Zbb, Zaf, Zd2, Zaa, Zab, h.ix, Zaa, Zax, Za1 Zbp, Zaa, Zgl]
  refine opC4 (hOp _ ?_ ?_ ?_ ?_) hlo' ?_ hkk
  ·simp only [U, Zad, wW, reduceCtorEq, Nat.reduceEqDiff, h.t2, h.t3, h.t4, h.t6]
  ·simp only [U, Zad, wW, reduceCtorEq, Nat.reduceEqDiff, h.t2, h.t3, h.t4, h.t6]
  ·simp only [U, Zad, wW, reduceCtorEq, Nat.reduceEqDiff, h.t2, h.t3, h.t4, h.t6]
  ·simp only [U, Zad, wW, reduceCtorEq, Nat.reduceEqDiff, h.t2, h.t3, h.t4, h.t6]
  ·simp only [U, Zad, wW, reduceCtorEq, Nat.reduceEqDiff]
   by_cases hi1 : i = 4
   ·subst hi1
    rfl
   ·rw [decide_eq_false (by omega), decide_eq_false (fun e => hi1 e.2)]
 ·rw [decide_eq_false (by omega), Zak, Zgl]
  refine opC4 (hOp _ ?_ ?_ ?_ ?_) hlo' ?_ hkk
  ·simp only [U, Zad, wW, reduceCtorEq, Nat.reduceEqDiff, h.t2, h.t3, h.t4, h.t6]
  ·simp only [U, Zad, wW, reduceCtorEq, Nat.reduceEqDiff, h.t2, h.t3, h.t4, h.t6]
  ·simp only [U, Zad, wW, reduceCtorEq, Nat.reduceEqDiff, h.t2, h.t3, h.t4, h.t6]
  ·simp only [U, Zad, wW, reduceCtorEq, Nat.reduceEqDiff, h.t2, h.t3, h.t4, h.t6]
  ·simp only [U, Zad, wW, reduceCtorEq, Nat.reduceEqDiff]
   rw [decide_eq_false (fun e => hk8 e.1)]
theorem opC2 (h : OpH ro s Bx Pt k q i n m l u nums τ T) (hlo : ¬ (k = 8 ∧ i = 0) ∧ ¬ (k = 8 ∧ i = 1)) (tf : τ 65 = .bool (decide (k = 8 ∧ i = 2))) (hkk : ∀ (τ' : Tau) (al : AL) s', U τ' al 3 = ptr Bx → U τ' al 6 = T → OpQ s Bx l k i u nums s' → Q .normal τ' al ds s') :
  xp (Zao P ro) none 140 k88 Zev [1, 1, 1, 1, 1, 1, 1, 1, 1, 0, 0, 1] τ [] ds s Q := by
 rw [Zqv]
 unfold Zjx
 rw [tf, h.t2, h.t3, h.t4]
 by_cases h8 : k = 8 ∧ i = 2
 ·obtain ⟨rfl, rfl⟩ := h8
  rw [decide_eq_true ⟨rfl, rfl⟩, Zbb, Zcx, Zaf, Z11, Zaa]
  refine h.put8 rfl fun s' hq => hkk _ _ s' ?_ ?_ hq
  ·simp only [U, Zad, wW, reduceCtorEq, Nat.reduceEqDiff, h.t2, h.t3, h.t4, h.t6]
  ·simp only [U, Zad, wW, reduceCtorEq, Nat.reduceEqDiff, h.t2, h.t3, h.t4, h.t6]
 rw [decide_eq_false h8, Zak, Zcx, Zaf, Zcz, Zaa, Zab, h.kind, Zaa, Zax, Za1 Zbg, Zaa]
 have hlo' : ¬ (k = 8 ∧ i = 0) ∧ ¬ (k = 8 ∧ i = 1) ∧ ¬ (k = 8 ∧ i = 2) := ⟨hlo.1, hlo.2, h8⟩
 have hOp : ∀ al : AL, U τ al 2 = u → U τ al 3 = ptr Bx → U τ al 4 = ptr Pt → U τ al 6 = T → OpH ro s Bx Pt k q i n m l u nums (U τ al) T := fun al a b c d => ⟨h.bx, h.ll, h.pt, h.w, h.ro, h.u1, h.us, h.nm, h.hm, h.hi, h.hk, a, b, c, d⟩
 by_cases hk8 : k = 8
 ·subst hk8
  rw [decide_eq_true (show ((8 : Nat) : Int) = 8 from rfl), Zbb, Zaf, Zd2, Zaa, Zab, h.ix, Zaa, Zax, Za1 Zbp, Zaa, Zgl]
  refine opC3 (hOp _ ?_ ?_ ?_ ?_) hlo' ?_ hkk
  ·simp only [U, Zad, wW, reduceCtorEq, Nat.reduceEqDiff, h.t2, h.t3, h.t4, h.t6]
  ·simp only [U, Zad, wW, reduceCtorEq, Nat.reduceEqDiff, h.t2, h.t3, h.t4, h.t6]
  ·simp only [U, Zad, wW, reduceCtorEq, Nat.reduceEqDiff, h.t2, h.t3, h.t4, h.t6]
  ·simp only [U, Zad, wW, reduceCtorEq, Nat.reduceEqDiff, h.t2, h.t3, h.t4, h.t6]
  ·simp only [U, Zad, wW, reduceCtorEq, Nat.reduceEqDiff]
   by_cases hi1 : i = 3
   ·subst hi1
    rfl
   ·rw [decide_eq_false (by omega), decide_eq_false (fun e => hi1 e.2)]
 ·rw [decide_eq_false (by omega), Zak, Zgl]
  refine opC3 (hOp _ ?_ ?_ ?_ ?_) hlo' ?_ hkk
  ·simp only [U, Zad, wW, reduceCtorEq, Nat.reduceEqDiff, h.t2, h.t3, h.t4, h.t6]
  ·simp only [U, Zad, wW, reduceCtorEq, Nat.reduceEqDiff, h.t2, h.t3, h.t4, h.t6]
  ·simp only [U, Zad, wW, reduceCtorEq, Nat.reduceEqDiff, h.t2, h.t3, h.t4, h.t6]
  ·simp only [U, Zad, wW, reduceCtorEq, Nat.reduceEqDiff, h.t2, h.t3, h.t4, h.t6]
  ·simp only [U, Zad, wW, reduceCtorEq, Nat.reduceEqDiff]
   rw [decide_eq_false (fun e => hk8 e.1)]
theorem opC1 (h : OpH ro s Bx Pt k q i n m l u nums τ T) (hlo : ¬ (k = 8 ∧ i = 0)) (tf : τ 54 = .bool (decide (k = 8 ∧ i = 1))) (hkk : ∀ (τ' : Tau) (al : AL) s', U τ' al 3 = ptr Bx → U τ' al 6 = T → OpQ s Bx l k i u nums s' → Q .normal τ' al ds s') :
  xp (Zao P ro) none 140 k88 Zf8 [1, 1, 1, 1, 1, 1, 1, 0, 0, 1] τ [] ds s Q := by
 rw [Ztu]
 unfold Zmw
 rw [tf, h.t2, h.t3, h.t4]
 by_cases h8 : k = 8 ∧ i = 1
 ·obtain ⟨rfl, rfl⟩ := h8
  rw [decide_eq_true ⟨rfl, rfl⟩, Zbb, Zcx, Zaf, Z12, Zaa]
  refine h.put8 rfl fun s' hq => hkk _ _ s' ?_ ?_ hq
  ·simp only [U, Zad, wW, reduceCtorEq, Nat.reduceEqDiff, h.t2, h.t3, h.t4, h.t6]
  ·simp only [U, Zad, wW, reduceCtorEq, Nat.reduceEqDiff, h.t2, h.t3, h.t4, h.t6]
 rw [decide_eq_false h8, Zak, Zcx, Zaf, Zcz, Zaa, Zab, h.kind, Zaa, Zax, Za1 Zbg, Zaa]
 have hlo' : ¬ (k = 8 ∧ i = 0) ∧ ¬ (k = 8 ∧ i = 1) := ⟨hlo, h8⟩
 have hOp : ∀ al : AL, U τ al 2 = u → U τ al 3 = ptr Bx → U τ al 4 = ptr Pt → U τ al 6 = T → OpH ro s Bx Pt k q i n m l u nums (U τ al) T := fun al a b c d => ⟨h.bx, h.ll, h.pt, h.w, h.ro, h.u1, h.us, h.nm, h.hm, h.hi, h.hk, a, b, c, d⟩
 by_cases hk8 : k = 8
 ·subst hk8
  rw [decide_eq_true (show ((8 : Nat) : Int) = 8 from rfl), Zbb, Zaf, Zd2, Zaa, Zab, h.ix, Zaa, Zax, Za1 Zbp, Zaa, Zgl]
  refine opC2 (hOp _ ?_ ?_ ?_ ?_) hlo' ?_ hkk
  ·simp only [U, Zad, wW, reduceCtorEq, Nat.reduceEqDiff, h.t2, h.t3, h.t4, h.t6]
  ·simp only [U, Zad, wW, reduceCtorEq, Nat.reduceEqDiff, h.t2, h.t3, h.t4, h.t6]
  ·simp only [U, Zad, wW, reduceCtorEq, Nat.reduceEqDiff, h.t2, h.t3, h.t4, h.t6]
  ·simp only [U, Zad, wW, reduceCtorEq, Nat.reduceEqDiff, h.t2, h.t3, h.t4, h.t6]
  ·simp only [U, Zad, wW, reduceCtorEq, Nat.reduceEqDiff]
   by_cases hi1 : i = 2
   ·subst hi1
    rfl
   ·rw [decide_eq_false (by omega), decide_eq_false (fun e => hi1 e.2)]
 ·rw [decide_eq_false (by omega), Zak, Zgl]
  refine opC2 (hOp _ ?_ ?_ ?_ ?_) hlo' ?_ hkk
  ·simp only [U, Zad, wW, reduceCtorEq, Nat.reduceEqDiff, h.t2, h.t3, h.t4, h.t6]
  ·simp only [U, Zad, wW, reduceCtorEq, Nat.reduceEqDiff, h.t2, h.t3, h.t4, h.t6]
  ·simp only [U, Zad, wW, reduceCtorEq, Nat.reduceEqDiff, h.t2, h.t3, h.t4, h.t6]
  ·simp only [U, Zad, wW, reduceCtorEq, Nat.reduceEqDiff, h.t2, h.t3, h.t4, h.t6]
  ·simp only [U, Zad, wW, reduceCtorEq, Nat.reduceEqDiff]
   rw [decide_eq_false (fun e => hk8 e.1)]
theorem opC0 (h : OpH ro s Bx Pt k q i n m l u nums τ T) (hlo : True) (tf : τ 43 = .bool (decide (k = 8 ∧ i = 0))) (hkk : ∀ (τ' : Tau) (al : AL) s', U τ' al 3 = ptr Bx → U τ' al 6 = T → OpQ s Bx l k i u nums s' → Q .normal τ' al ds s') :
  xp (Zao P ro) none 140 k88 Zic [1, 1, 1, 1, 1, 0, 0, 1] τ [] ds s Q := by
 rw [Zxz]
 unfold Zpy
 rw [tf, h.t2, h.t3, h.t4]
 by_cases h8 : k = 8 ∧ i = 0
 ·obtain ⟨rfl, rfl⟩ := h8
  rw [decide_eq_true ⟨rfl, rfl⟩, Zbb, Zcx, Zaf, Z13, Zaa]
  refine h.put8 rfl fun s' hq => hkk _ _ s' ?_ ?_ hq
  ·simp only [U, Zad, wW, reduceCtorEq, Nat.reduceEqDiff, h.t2, h.t3, h.t4, h.t6]
  ·simp only [U, Zad, wW, reduceCtorEq, Nat.reduceEqDiff, h.t2, h.t3, h.t4, h.t6]
 rw [decide_eq_false h8, Zak, Zcx, Zaf, Zcz, Zaa, Zab, h.kind, Zaa, Zax, Za1 Zbg, Zaa]
 have hlo' : ¬ (k = 8 ∧ i = 0) := h8
 have hOp : ∀ al : AL, U τ al 2 = u → U τ al 3 = ptr Bx → U τ al 4 = ptr Pt → U τ al 6 = T → OpH ro s Bx Pt k q i n m l u nums (U τ al) T := fun al a b c d => ⟨h.bx, h.ll, h.pt, h.w, h.ro, h.u1, h.us, h.nm, h.hm, h.hi, h.hk, a, b, c, d⟩
 by_cases hk8 : k = 8
 ·subst hk8
  rw [decide_eq_true (show ((8 : Nat) : Int) = 8 from rfl), Zbb, Zaf, Zd2, Zaa, Zab, h.ix, Zaa, Zax, Za1 Zbp, Zaa, Zgl]
  refine opC1 (hOp _ ?_ ?_ ?_ ?_) hlo' ?_ hkk
  ·simp only [U, Zad, wW, reduceCtorEq, Nat.reduceEqDiff, h.t2, h.t3, h.t4, h.t6]
  ·simp only [U, Zad, wW, reduceCtorEq, Nat.reduceEqDiff, h.t2, h.t3, h.t4, h.t6]
  ·simp only [U, Zad, wW, reduceCtorEq, Nat.reduceEqDiff, h.t2, h.t3, h.t4, h.t6]
  ·simp only [U, Zad, wW, reduceCtorEq, Nat.reduceEqDiff, h.t2, h.t3, h.t4, h.t6]
  ·simp only [U, Zad, wW, reduceCtorEq, Nat.reduceEqDiff]
   by_cases hi1 : i = 1
   ·subst hi1
    rfl
   ·rw [decide_eq_false (by omega), decide_eq_false (fun e => hi1 e.2)]
 ·rw [decide_eq_false (by omega), Zak, Zgl]
  refine opC1 (hOp _ ?_ ?_ ?_ ?_) hlo' ?_ hkk
  ·simp only [U, Zad, wW, reduceCtorEq, Nat.reduceEqDiff, h.t2, h.t3, h.t4, h.t6]
  ·simp only [U, Zad, wW, reduceCtorEq, Nat.reduceEqDiff, h.t2, h.t3, h.t4, h.t6]
  ·simp only [U, Zad, wW, reduceCtorEq, Nat.reduceEqDiff, h.t2, h.t3, h.t4, h.t6]
  ·simp only [U, Zad, wW, reduceCtorEq, Nat.reduceEqDiff, h.t2, h.t3, h.t4, h.t6]
  ·simp only [U, Zad, wW, reduceCtorEq, Nat.reduceEqDiff]
   rw [decide_eq_false (fun e => hk8 e.1)]
end
section
variable {ro : Nat} {s : St} {K : Value → St → Prop} {k q i n m : Nat} {l : List Value} {u : Value} {nums : List Int}
theorem Yds {x : Addr} {R : Nat} (hl : l.length = 13) (hone : l.all (·.oneCell') = true) (h12 : l[12]? = some (.slice (some x) R R)) (hk : k = 8 ∨ k = 9) (hi : i < 6) (hu : U64s s u nums) (hm : k = 9 → nums.length = m * 2) (hmb : m < 2 ^ 30) (hw : Wf s) (hro : ro ≤ s.n)
  (hK : ∀ v s', Grew s s' → Wf s' → v.oneCell' = true → ((k = 8 ∧ v = u) ∨ (k = 9 ∧ ∃ m, nums.length = m * 2 ∧ Sl s' v 2 m (nums.map (.int .u64)) ∧ ∀ A o sp n c, v = .slice (some ⟨A, o, sp⟩) n c → s.n ≤ A ∧ A < s'.n)) → K (.agg (.mk (splice l (if k = 8 then i else 6 + i) [v]))) s') :
  CallWP P ro 88 [.agg (.mk l), .agg (.mk (Prt.cells ⟨k, q, i, n⟩)), u] s K := by
 refine Zas b88 rfl ?_
 rw [n88]
 unfold v88
 simp (maxSteps := 10000000) only [Zcx, Zgp, Zcn]
 refine Zam hw.ent fun Bx s1 m1 => ?_
 refine Zam m1.wf fun Pt s2 m2 => ?_
 have e1 := m1.eq
 have n1 := m1.n
 have e2 := m2.eq
 have n2 := m2.n
 have hn0 : (ent s).n = s.n := rfl
 refine Zai Z4o m2.wf fun T s3 m3 => ?_
 have e3 := m3.eq
 have n3 := m3.n
 have g03 : Grew (ent s) s3 := (m1.grew.trans m2.grew).trans m3.grew
 have hB3 : s3.at Bx = some (.cells l 59 false) := ((m2.grew.trans m3.grew).same Bx (by omega)).trans m1.here
 have hP3 : s3.at Pt = some (.cells (Prt.cells ⟨k, q, i, n⟩) 30 false) := (m3.grew.same Pt (by omega)).trans m2.here
 have hT3 := m3.here
 have hkd : Za4 P s3 28 (.pointer (some ⟨Pt, 0 + 0, none⟩)) = some (.int .u8 k) := by rw [Zan Zms, Zac hP3]; rfl
 have hix : Za4 P s3 3 (.pointer (some ⟨Pt, 0 + 2, none⟩)) = some (.int .i64 i) := by rw [Zan ap_3, Zac hP3]; rfl
 have hus : U64s s3 u nums := (Sl.ent hu).grew g03.same
 have hu1 : u.oneCell' = true := by obtain ⟨a, c, rfl, _⟩ := hu; rfl
 rw [Zaf, Zcz, Zaa, Zab, hkd, Zaa, Zax, Za1 Zbg, Zaa, decide_eq_false (by omega), Zak, Zaf, Zcz, Zaa, Zab, hkd, Zaa, Zax, Za1 Zbg, Zaa, decide_eq_false (by omega), Zak, Zaf, Zcz, Zaa, Zab, hkd, Zaa, Zax, Za1 Zbg, Zaa]
 have hfin : ∀ (τ' : Tau) (al : AL) s', U τ' al 3 = ptr Bx → U τ' al 6 = ptr T → OpQ s3 Bx l k i u nums s' → blkX 0 (sX (Zao P ro) none 140 k88 Z33 [1, 1] (Za5 (Zao P ro) s Tryd.f88.results.toList K)) .normal τ' al [] s' := fun τ' al s' h3 h6 hq => by
  obtain ⟨s4, v, g4, w4, p4, hv1, hv⟩ := hq
  have n4 := g4.n
  have n5 := p4.n
  rw [Ybm, sX_n QOk.leave, Yep]
  unfold Ya9
  have hsl : (splice l (if k = 8 then i else 6 + i) [v]).length = 13 := by
   rw [Za0 (by split <;> simp <;> omega)]; exact hl
  have hso : (splice l (if k = 8 then i else 6 + i) [v]).all (·.oneCell') = true := by
   refine List.all_eq_true.2 fun y hy => ?_
   unfold splice at hy
   rcases List.mem_append.1 hy with hy | hy
   ·exact List.all_eq_true.1 hone y (List.mem_of_mem_take hy)
   ·rcases List.mem_append.1 hy with hy | hy
    ·simp only [List.mem_cons, List.not_mem_nil, or_false] at hy
     subst hy; exact hv1
    ·exact List.all_eq_true.1 hone y (List.mem_of_mem_drop hy)
  have hT4 := (p4.rest T (by omega)).trans ((g4.same T (by omega)).trans hT3)
  rw [h3, h6, Zcx, Zab, Zah Zq7 p4.here hsl, Zaa]
  refine Zag Zuq hT4 (l := splice l (if k = 8 then i else 6 + i) [v]) hsl (by decide) p4.wf (by omega) rfl hso fun s6 p6 => ?_
  have n6 := p6.n
  rw [Zq9, r88]
  have c6 : ∀ z, U (U τ' al) [(139, z)] 6 = ptr T := fun z => by rw [← h6]; rfl
  rw [c6]
  simp (maxSteps := 10000000) only [wW, reduceCtorEq, Nat.reduceEqDiff]
  rw [Zab, Zah Zq7 p6.here hsl, Zaa]
  have hfl : Zct (.agg (.mk (splice l (if k = 8 then i else 6 + i) [v]))) = false := by
   have h12' : (splice l (if k = 8 then i else 6 + i) [v])[12]? = some (.slice (some x) R R) := by
    rw [Zb5 (by split <;> simp <;> omega) (by right; split <;> simp <;> omega)]
    exact h12
   show (false || Zch (splice l (if k = 8 then i else 6 + i) [v])) = false
   have : Zch (splice l (if k = 8 then i else 6 + i) [v]) = false := by
    cases hf : Zch (splice l (if k = 8 then i else 6 + i) [v]) with
    | false => rfl
    | true => have := Zds hf h12'; cases this
   rw [this]; rfl
  have g06 : Grew (ent s) s6 := p6.grew _ hw.ent (p4.grew _ hw.ent (g03.trans g4) (by omega)) (by omega)
  refine Zci hw g06 hfl fun s9 g9 hn9 hat9 => hK v s9 g9 (hw.grew g9) hv1 ?_
  rcases hv with ⟨h1, h2, _⟩ | ⟨h1, m', h2, h3', h4⟩
  ·exact .inl ⟨h1, h2⟩
  ·refine .inr ⟨h1, m', h2, ?_, fun A o sp n c e => ?_⟩
   ·refine Sl.sameAt h3' fun A o sp n c e => ?_
    have := h4 A o sp n c e
    rw [hat9, p6.rest A (by omega), p4.rest A (by omega)]
   ·have := h4 A o sp n c e
    omega
 have hOp : ∀ τ : Tau, τ 2 = u → τ 3 = ptr Bx → τ 4 = ptr Pt → τ 6 = ptr T → OpH ro s3 Bx Pt k q i n m l u nums τ (ptr T) := fun τ a b c d => ⟨hB3, hl, hP3, m3.wf, ⟨by omega, by omega⟩, hu1, hus, hm, hmb, hi, hk, a, b, c, d⟩
 by_cases h8 : k = 8
 ·subst h8
  rw [decide_eq_true (show ((8 : Nat) : Int) = 8 from rfl), Zbb, Zaf, Zd2, Zaa, Zab, hix, Zaa, Zax, Za1 Zbp, Zaa, Zgl]
  refine opC0 (hOp _ ?_ ?_ ?_ ?_) trivial ?_ hfin
  ·simp only [U, Zad, wW, reduceCtorEq, Nat.reduceEqDiff]
  ·simp only [U, Zad, wW, reduceCtorEq, Nat.reduceEqDiff]
  ·simp only [U, Zad, wW, reduceCtorEq, Nat.reduceEqDiff]
  ·simp only [U, Zad, wW, reduceCtorEq, Nat.reduceEqDiff]
  ·simp only [U, Zad, wW, reduceCtorEq, Nat.reduceEqDiff]
   by_cases hi0 : i = 0
   ·subst hi0; rfl
   ·rw [decide_eq_false (by omega), decide_eq_false (fun e => hi0 e.2)]
 ·rw [decide_eq_false (by omega), Zak, Zgl]
  refine opC0 (hOp _ ?_ ?_ ?_ ?_) trivial ?_ hfin
  ·simp only [U, Zad, wW, reduceCtorEq, Nat.reduceEqDiff]
  ·simp only [U, Zad, wW, reduceCtorEq, Nat.reduceEqDiff]
  ·simp only [U, Zad, wW, reduceCtorEq, Nat.reduceEqDiff]
  ·simp only [U, Zad, wW, reduceCtorEq, Nat.reduceEqDiff]
  ·simp only [U, Zad, wW, reduceCtorEq, Nat.reduceEqDiff]
   rw [decide_eq_false (fun e => h8 e.1)]
end
theorem Z0d {c a : List Value} {o : Nat} {x : Value} (h : o + a.length + 1 ≤ c.length) : splice (splice c o a) (o + a.length) [x] = splice c o (a ++ [x]) := by
 have h1 := Zkv (c := c) (l := a) (m := o) (by omega)
 have h2 : (splice c o a).drop (o + a.length + 1) = c.drop (o + a.length + 1) := by
  have e : splice c o a = (c.take o ++ a) ++ c.drop (o + a.length) := by unfold splice; rw [List.append_assoc]
  have hl : (c.take o ++ a).length = o + a.length := by rw [List.length_append, List.length_take]; omega
  rw [e, List.drop_append, hl, List.drop_drop, List.drop_eq_nil_of_le (by rw [hl]; omega), show o + a.length + (o + a.length + 1 - (o + a.length)) = o + a.length + 1 by omega, List.nil_append]
 show (splice c o a).take (o + a.length) ++ ([x] ++ (splice c o a).drop (o + a.length + [x].length)) = _
 rw [h1, List.length_singleton, h2]
 unfold splice
 rw [List.length_append, List.length_singleton, List.append_assoc, List.append_assoc, Nat.add_assoc]
section
variable {ro : Nat} {s : St} {K : Value → St → Prop}
theorem SetR.of {W : Nat → Prop} {k F o : Nat} {c : List Value} {T : TypeId} {l : List Int} {sX : St} (hw : Wf s) (wX : Wf sX) (hn : s.n ≤ sX.n) (hsame : ∀ X, X < s.n → X ≠ F → sX.at X = s.at X) (hlo : min F s.n ≤ sX.lo)
  (hex : ∃ vals, sX.at F = some (.cells (splice c o vals) T false) ∧ SlotW ({ sX with lo := min s.lo sX.lo } : St) W k vals l) : SetR s W F o c T k l { sX with lo := min s.lo sX.lo } := by
 refine ⟨⟨by show min s.lo sX.lo ≤ sX.n; have := hw.lo; omega, wX.len⟩, hn, fun X h1 hne => hsame X h1 hne, hex, fun s0 h0 g hle => ⟨by show s0.n ≤ sX.n; have := g.n; omega, by show min s.lo sX.lo = s0.lo; have := g.lo; have := h0.lo; have := g.n; omega, fun X hX => ?_, fun _ => wX.len⟩⟩
 have := g.n
 show sX.at X = s0.at X
 rw [hsame X (by omega) (by omega)]
 exact g.same X hX
theorem Ycx {A o r : Nat} (hr : r < 8) : Zal P 112 (.pointer (some ⟨A, o, none⟩)) (.int .i64 (r : Int)) = some (.pointer (some ⟨A, o + r, none⟩)) := by
 simp only [Zal, Z67, Zfm, Option.bind_some, Zes]
 rw [if_pos ⟨by omega, by omega⟩, Int.toNat_natCast, Nat.mul_one]
theorem Yej {Bx T : Nat} {l z : List Value} {s2 : St} {x : Addr} {R : Nat} (hl : l.length = 13) (hone : l.all (·.oneCell') = true) (h12 : l[12]? = some (.slice (some x) R R)) (hB : s2.at Bx = some (.cells l 59 false)) (hT : s2.at T = some (.cells z 59 false)) (hz : z.length = 13) (hw : Wf s2) (hro : ro ≤ T)
  (hk : ∀ s3, Put s2 T (.cells l 59 false) s3 → K (.agg (.mk l)) { s3 with lo := min s.lo s3.lo }) {ty1 ty2 ty3 : TypeId} :
  wop P ro (.load 59 (.const (.pointer (some ⟨Bx, 0, none⟩)))) ty1 s2 fun v s3 => wop P ro (.store 59 (.const (.pointer (some ⟨T, 0, none⟩))) (.const v)) ty2 s3 fun _ s4 => wop P ro (.load 59 (.const (.pointer (some ⟨T, 0, none⟩)))) ty3 s4 fun v5 _ => wfin s K v5 s4 := by
 rw [Zab, Zah Zq7 hB hl, Zaa]
 refine Zag Zuq hT (l := l) hl (by decide) hw hro hz hone fun s6 p6 => ?_
 rw [Zab, Zah Zq7 p6.here hl, Zaa]
 have hfl : Zct (.agg (.mk l)) = false := by
  show (false || Zch l) = false
  have : Zch l = false := by
   cases hf : Zch l with
   | false => rfl
   | true => have := Zds hf h12; cases this
  rw [this]; rfl
 rw [Ze8 hfl]
 exact hk s6 p6
theorem Ydt {W : Nat → Prop} {l : List Value} {q i n m F R : Nat} {u : Value} {nums : List Int} {c : List Value} (hl : l.length = 13) (hone : l.all (·.oneCell') = true) (h12 : l[12]? = some (.slice (some ⟨F, 0, none⟩) R R)) (hi : i < R) (hR : R < 2 ^ 20) (hF : s.at F = some (.cells c 114 false)) (hfit : 9 * i + 9 ≤ c.length) (hu : U64s s u nums) (hm : nums.length = m * 2) (hmb : m < 2 ^ 30) (hw : Wf s) (hro : ro ≤ F ∧ ro ≤ s.n) (hW : ∀ A, W A → A < s.n)
  (hK : ∀ s', SetR s W F (9 * i + 8) c 114 11 nums s' → min s.lo (min F s.n) ≤ s'.lo → K (.agg (.mk l)) s') :
  CallWP P ro 88 [.agg (.mk l), .agg (.mk (Prt.cells ⟨11, q, i, n⟩)), u] s K := by
 refine Zas b88 rfl ?_
 rw [n88]
 unfold v88
 simp (maxSteps := 10000000) only [Zcx, Zgp, Zcn]
 refine Zam hw.ent fun Bx s1 m1 => ?_
 refine Zam m1.wf fun Pt s2 m2 => ?_
 have e1 := m1.eq
 have n1 := m1.n
 have e2 := m2.eq
 have n2 := m2.n
 have hn0 : (ent s).n = s.n := rfl
 refine Zai Z4o m2.wf fun T s3 m3 => ?_
 have e3 := m3.eq
 have n3 := m3.n
 have hFl := St.at_lt hF
 have g03 : Grew (ent s) s3 := (m1.grew.trans m2.grew).trans m3.grew
 have hB3 : s3.at Bx = some (.cells l 59 false) := ((m2.grew.trans m3.grew).same Bx (by omega)).trans m1.here
 have hP3 : s3.at Pt = some (.cells (Prt.cells ⟨11, q, i, n⟩) 30 false) := (m3.grew.same Pt (by omega)).trans m2.here
 have hT3 := m3.here
 have hF3 : s3.at F = some (.cells c 114 false) := (g03.same F hFl).trans hF
 have hkd : Za4 P s3 28 (.pointer (some ⟨Pt, 0 + 0, none⟩)) = some (.int .u8 11) := by rw [Zan Zms, Zac hP3]; rfl
 have hix : Za4 P s3 3 (.pointer (some ⟨Pt, 0 + 2, none⟩)) = some (.int .i64 i) := by rw [Zan ap_3, Zac hP3]; rfl
 have hfo : Za4 P s3 57 (.pointer (some ⟨Bx, 0 + 12, none⟩)) = some (.slice (some ⟨F, 0, none⟩) R R) := by rw [Zan Zwo, Zac hB3]; exact h12
 have hus : U64s s3 u nums := (Sl.ent hu).grew g03.same
 rw [Zaf, Zcz, Zaa, Zab, hkd, Zaa, Zax, Za1 Zbg, Zaa, decide_eq_false (by decide), Zak, Zaf, Zcz, Zaa, Zab, hkd, Zaa, Zax, Za1 Zbg, Zaa, decide_eq_true (by decide), Zbb]
 rw [Zaf, Zd5, Zaa, Zab, hfo, Zaa]
 refine ⟨Zmk _ _ _ _ _, ?_⟩
 rw [Zaf, Zd2, Zaa, Zab, hix, Zaa]
 refine ⟨by simp [veq], ?_⟩
 refine Ze9 hus hm hmb m3.wf (by omega) fun v s4 g4 hv hvn => ?_
 have n4 := g4.n
 have w4 := m3.wf.grew g4
 refine ⟨g4.keeps, ?_⟩
 rw [Zae, ixFl (by omega) (by omega), Zaa, Int.toNat_natCast, Zaf, Zrh, Zaa]
 have hF4 := (g4.same F (by omega)).trans hF3
 refine Zbc Zm1 hF4 w4 hro.1 (by omega) (Zkw hv) fun s5 p5 => ?_
 have n5 := p5.n
 have hB5 := (p5.rest Bx (by omega)).trans ((g4.same Bx (by omega)).trans hB3)
 have hT5 := (p5.rest T (by omega)).trans ((g4.same T (by omega)).trans hT3)
 refine Yej hl hone h12 hB5 hT5 rfl p5.wf (by omega) fun s6 p6 => hK _ (SetR.of hw p6.wf (by have := p6.n; omega) (fun X h1 h2 => ?_) ?_ ⟨[v], ?_, ?_⟩) ?_
 ·rw [p6.rest X (by omega), p5.rest X h2, g4.same X (by omega)]
  exact g03.same X h1
 ·rw [p6.lo, p5.lo, g4.lo, g03.lo]
  have : (ent s).lo = s.n := rfl
  omega
 ·exact (p6.rest F (by omega)).trans p5.here
 ·unfold SlotW
  rw [if_neg (by decide), if_neg (by decide), if_neg (by decide)]
  have n6 := p6.n
  refine ⟨v, rfl, m, hm, ?_, fun A o sp n c e => ?_⟩
  ·refine Sl.sameAt hv fun A o sp n c e => ?_
   have := hvn A o sp n c e
   show s6.at A = s4.at A
   rw [p6.rest A (by omega), p5.rest A (by omega)]
  ·have := hvn A o sp n c e
   refine ⟨by show A < s6.n; omega, fun hA => ?_⟩
   have := hW A hA
   omega
 ·show min s.lo (min F s.n) ≤ min s.lo s6.lo
  rw [p6.lo, p5.lo, g4.lo, g03.lo]
  have : (ent s).lo = s.n := rfl
  omega
theorem Ydu {W : Nat → Prop} {l : List Value} {q i n F R : Nat} {u : Value} {nums : List Int} {c : List Value} (hl : l.length = 13) (hone : l.all (·.oneCell') = true) (h12 : l[12]? = some (.slice (some ⟨F, 0, none⟩) R R)) (hi : i < R) (hR : R < 2 ^ 20) (hF : s.at F = some (.cells c 114 false)) (hfit : 9 * i + 9 ≤ c.length) (hu : U64s s u nums) (hm : nums.length = 8) (huF : ∀ A o sp n c, u = .slice (some ⟨A, o, sp⟩) n c → A ≠ F) (hw : Wf s) (hro : ro ≤ F ∧ ro ≤ s.n)
  (hK : ∀ s', SetR s W F (9 * i) c 114 10 nums s' → min s.lo (min F s.n) ≤ s'.lo → K (.agg (.mk l)) s') :
  CallWP P ro 88 [.agg (.mk l), .agg (.mk (Prt.cells ⟨10, q, i, n⟩)), u] s K := by
 refine Zas b88 rfl ?_
 rw [n88]
 unfold v88
 simp (maxSteps := 10000000) only [Zcx, Zgp, Zcn, Z0l]
 refine Zam hw.ent fun Bx s1 m1 => ?_
 refine Zam m1.wf fun Pt s2 m2 => ?_
 have e1 := m1.eq
 have n1 := m1.n
 have e2 := m2.eq
 have n2 := m2.n
 have hn0 : (ent s).n = s.n := rfl
 refine Zai Z4o m2.wf fun T s3 m3 => ?_
 have e3 := m3.eq
 have n3 := m3.n
 have hFl := St.at_lt hF
 have g03 : Grew (ent s) s3 := (m1.grew.trans m2.grew).trans m3.grew
 have hB3 : s3.at Bx = some (.cells l 59 false) := ((m2.grew.trans m3.grew).same Bx (by omega)).trans m1.here
 have hP3 : s3.at Pt = some (.cells (Prt.cells ⟨10, q, i, n⟩) 30 false) := (m3.grew.same Pt (by omega)).trans m2.here
 have hT3 := m3.here
 have hF3 : s3.at F = some (.cells c 114 false) := (g03.same F hFl).trans hF
 have hkd : Za4 P s3 28 (.pointer (some ⟨Pt, 0 + 0, none⟩)) = some (.int .u8 10) := by rw [Zan Zms, Zac hP3]; rfl
 have hus : U64s s3 u nums := (Sl.ent hu).grew g03.same
 rw [Zaf, Zcz, Zaa, Zab, hkd, Zaa, Zax, Za1 Zbg, Zaa, decide_eq_true (by decide), Zbb]
 refine Zdx Zyg Zx8 (fun (r : Nat) τ ds s' => r ≤ 8 ∧ τ 2 = u ∧ τ 3 = ptr Bx ∧ τ 4 = ptr Pt ∧ τ 6 = ptr T ∧ τ 7 = .int .i64 r ∧ ds = [] ∧ Wf s' ∧ s'.n = s3.n ∧ (∀ X, X ≠ F → s'.at X = s3.at X) ∧ min F s3.lo ≤ s'.lo ∧ s'.at F = some (.cells (splice c (9 * i) ((nums.take r).map (.int .u64))) 114 false)) (fun r => 8 - r) ?_ 0 ⟨by omega, ?_, ?_, ?_, ?_, ?_, rfl, m3.wf, rfl, fun _ _ => rfl, Nat.min_le_right _ _, ?_⟩
 ·rintro r τ ds s' ⟨hr, t2, t3, t4, t6, t7, rfl, w', hn', hrest, hlo, hF'⟩
  rw [Zx0]
  unfold Zkq
  have hB' := (hrest Bx (by omega)).trans hB3
  have hP' := (hrest Pt (by omega)).trans hP3
  have hT' := (hrest T (by omega)).trans hT3
  have hix : Za4 P s' 3 (.pointer (some ⟨Pt, 0 + 2, none⟩)) = some (.int .i64 i) := by rw [Zan ap_3, Zac hP']; rfl
  have hfo : Za4 P s' 57 (.pointer (some ⟨Bx, 0 + 12, none⟩)) = some (.slice (some ⟨F, 0, none⟩) R R) := by rw [Zan Zwo, Zac hB']; exact h12
  rw [t2, t3, t4, t7]
  simp (maxSteps := 10000000) only [wW, reduceCtorEq, Nat.reduceEqDiff]
  by_cases hlt : r < 8
  ·rw [if_pos (by omega), Zd5, Zaa, Zab, hfo, Zaa]
   refine ⟨Zmk _ _ _ _ _, ?_⟩
   rw [Zd2, Zaa, Zab, hix, Zaa]
   refine ⟨by simp [veq], ?_⟩
   have hU' : U64s s' u nums := Sl.sameAt hus fun A o sp n c e => hrest A (huF A o sp n c e)
   have hget : nums[r]? = some nums[r] := List.getElem?_eq_getElem (by omega)
   obtain ⟨A1, o1, i1, l1⟩ := hU'.atN hget
   rw [Zae, i1, Zaa, Zab, l1, Zaa]
   refine ⟨by simp [veq], ?_⟩
   rw [Zae, ixFl (by omega) (by omega), Zaa, Int.toNat_natCast, Zri, Zaa, Zae, Ycx hlt, Zaa]
   have htl : ((nums.take r).map (Value.int .u64)).length = r := by rw [List.length_map, List.length_take]; omega
   have hsl : (splice c (9 * i) ((nums.take r).map (.int .u64))).length = c.length := Za0 (by omega)
   refine Zbc Zfm hF' w' hro.1 (by omega) rfl fun s5 p5 => ?_
   have n5 := p5.n
   simp (maxSteps := 10000000) only [wW, reduceCtorEq, Nat.reduceEqDiff]
   rw [Zaj (by omega) (by omega)]
   refine ⟨r + 1, by omega, by omega, ?_, ?_, ?_, ?_, ?_, by first | trivial | rfl, p5.wf, by omega, fun X hX => (p5.rest X hX).trans (hrest X hX), by rw [p5.lo]; omega, ?_⟩
   ·exact t2
   ·exact t3
   ·exact t4
   ·exact t6
   ·rfl
   ·have hsn := Z0d (c := c) (a := (nums.take r).map (.int .u64)) (o := 9 * i) (x := .int .u64 nums[r]) (by rw [htl]; omega)
    rw [htl] at hsn
    rw [p5.here, Zbm hget, List.map_append]
    show some (AO.cells (splice (splice c (9 * i) ((nums.take r).map (.int .u64))) (9 * i + r) [.int .u64 nums[r]]) _ _) = _
    rw [hsn]
    rfl
  ·obtain rfl : r = 8 := by omega
   rw [if_neg (by omega)]
   rw [List.take_of_length_le (by omega)] at hF'
   simp (maxSteps := 10000000) only [U, Zad, wW, reduceCtorEq, Nat.reduceEqDiff, t3, t6]
   refine Yej hl hone h12 hB' hT' rfl w' (by omega) fun s6 p6 => hK _ (SetR.of hw p6.wf (by have := p6.n; omega) (fun X h1 h2 => ?_) ?_ ⟨_, (p6.rest F (by omega)).trans hF', ?_⟩) ?_
   ·rw [p6.rest X (by omega), hrest X h2]
    exact g03.same X h1
   ·rw [p6.lo]
    have := g03.lo
    have : (ent s).lo = s.n := rfl
    omega
   ·unfold SlotW
    rw [if_neg (by decide), if_pos rfl]
    exact ⟨hm, rfl⟩
   ·show min s.lo (min F s.n) ≤ min s.lo s6.lo
    rw [p6.lo]
    have := g03.lo
    have : (ent s).lo = s.n := rfl
    omega
 ·rfl
 ·rfl
 ·rfl
 ·rfl
 ·rfl
 ·rw [hF3]
  have e0 : splice c (9 * i) [] = c := by
   unfold splice
   rw [List.nil_append, List.length_nil, Nat.add_zero, List.take_append_drop]
  rw [List.take_zero, List.map_nil, e0]
end
section
variable {s s' : St} {W : Nat → Prop} {cs : List Value} {B : PfB} {R Q : Nat} {g : Nat → Nat → Nat → List Int}
theorem PfAt.setB {k q i A : Nat} {c : List Value} {T : TypeId} {nums : List Int} (h : PfAt s W cs B R Q g) (ok : OkS R Q k q i) (hA : (Za2 B k q i).1 = some A) (hc : s.at A = some (.cells c T false)) (hWA : W A) (r : SetR s W A (Za2 B k q i).2 c T k nums s') : PfAt s' W cs B R Q (updG g k q i nums) := by
 obtain ⟨vals, hv, hS⟩ := r.ex
 refine h.set ok r.n (fun X h1 h2 => r.same X h1 fun e => h2 (by rw [e]; exact hWA)) hS (by rw [hA]) fun X hX c2 T2 hc2 => ?_
 by_cases hXA : A = X
 ·subst hXA
  rw [if_pos hA]
  rw [hc2] at hc
  cases hc
  exact hv
 ·rw [if_neg (by rw [hA]; simpa using hXA), r.same X (St.at_lt hc2) (fun e => hXA e.symm)]
  exact hc2
theorem Z7l {c l : List Value} {o n : Nat} (h : cut c o n = some l) (hl : l.length = n) (hb : o + n ≤ c.length) : splice c o l = c := by
 rw [Zj0 hb] at h
 have h' : (c.drop o).take n = l := by simpa using h
 subst h'
 unfold splice
 rw [hl, ← List.drop_drop, List.take_append_drop, List.take_append_drop]
theorem Z4s {c l : List Value} {o n j : Nat} {v : Value} (h : cut c o n = some l) (hl : l.length = n) (hb : o + n ≤ c.length) (hj : j < n) : splice c o (splice l j [v]) = splice c (o + j) [v] := by
 rw [Zj0 hb] at h
 have h' : (c.drop o).take n = l := by simpa using h
 have hget : ∀ t, t < n → l[t]? = c[o + t]? := fun t ht => by rw [← h', List.getElem?_take, if_pos ht, List.getElem?_drop]
 have hsl : (splice l j [v]).length = n := by rw [Za0 (by simp; omega)]; exact hl
 refine List.ext_getElem? fun p => ?_
 by_cases hp : p < o ∨ o + n ≤ p
 ·rw [Zb5 (by omega) (by omega), Zb5 (by simp; omega) (by simp; omega)]
 ·obtain ⟨t, rfl⟩ : ∃ t, p = o + t := ⟨p - o, by omega⟩
  rw [Zhh (by omega) (by omega)]
  by_cases ht : t = j
  ·subst ht
   have h1 := Zhh (c := l) (l := [v]) (o := t) (j := 0) (by simp; omega) (by simp)
   have h2 := Zhh (c := c) (l := [v]) (o := o + t) (j := 0) (by simp; omega) (by simp)
   rw [Nat.add_zero] at h1 h2
   rw [h1, h2]
  ·rw [Zb5 (by simp; omega) (by simp; omega), Zb5 (by simp; omega) (by simp; omega), hget t (by omega)]
end
section
variable {ro : Nat} {s : St} {K : Value → St → Prop} {W : Nat → Prop} {cs : List Value} {B : PfB} {R Q : Nat} {g : Nat → Nat → Nat → List Int} {u : Value} {nums : List Int} {q i n : Nat}
theorem Zxm {Bx T : Nat} {l z : List Value} {s2 : St} {x : Addr} {Q : Nat} (hl : l.length = 8) (hone : l.all (·.oneCell') = true) (h7 : l[7]? = some (.slice (some x) Q Q)) (hB : s2.at Bx = some (.cells l 39 false)) (hT : s2.at T = some (.cells z 39 false)) (hz : z.length = 8) (hw : Wf s2) (hro : ro ≤ T)
  (hk : ∀ s3, Put s2 T (.cells l 39 false) s3 → K (.agg (.mk l)) { s3 with lo := min s.lo s3.lo }) {ty1 ty2 ty3 : TypeId} :
  wop P ro (.load 39 (.const (.pointer (some ⟨Bx, 0, none⟩)))) ty1 s2 fun v s3 => wop P ro (.store 39 (.const (.pointer (some ⟨T, 0, none⟩))) (.const v)) ty2 s3 fun _ s4 => wop P ro (.load 39 (.const (.pointer (some ⟨T, 0, none⟩)))) ty3 s4 fun v5 _ => wfin s K v5 s4 := by
 rw [Zab, Zah Zhy hB hl, Zaa]
 refine Zag Zea hT (l := l) hl (by decide) hw hro hz hone fun s6 p6 => ?_
 rw [Zab, Zah Zhy p6.here hl, Zaa]
 have hfl : Zct (.agg (.mk l)) = false := by
  show (false || Zch l) = false
  have : Zch l = false := by
   cases hf : Zch l with
   | false => rfl
   | true => have := Zds hf h7; cases this
  rw [this]; rfl
 rw [Ze8 hfl]
 exact hk s6 p6
structure StR (s : St) (W : Nat → Prop) (cs' : List Value) (B : PfB) (R Q : Nat) (g' : Nat → Nat → Nat → List Int) (s' : St) : Prop where
 wf : Wf s'
 n : s.n ≤ s'.n
 same : ∀ X, X < s.n → ¬ W X → s'.at X = s.at X
 gr : ∀ s0, Wf s0 → Grew s0 s → (s0.n ≤ B.rb ∧ s0.n ≤ B.ob ∧ ∀ j, j < Q → s0.n ≤ B.fb j) → Grew s0 s'
 pf : PfAt s' W cs' B R Q g'
 off : ∀ X, X < s.n → X ≠ B.rb → X ≠ B.ob → (∀ j, j < Q → X ≠ B.fb j) → s'.at X = s.at X
theorem StR.new {s' : St} {cs' : List Value} {g' : Nat → Nat → Nat → List Int} (hw : Wf s) (g1 : Grew s s') (h : PfAt s' W cs' B R Q g') : StR s W cs' B R Q g' s' := ⟨hw.grew g1, g1.n, fun X h1 _ => g1.same X h1, fun s0 _ g0 _ => g0.trans g1, h, fun X h1 _ _ _ => g1.same X h1⟩
theorem Z4r {k o : Nat} {v : Value} {s' : St} (hp : PfAt s W cs B R Q g) (hk : k = 1 ∨ k = 2 ∨ k = 3 ∨ k = 4 ∨ k = 6 ∨ k = 7) (ho : (Za2 B k 0 0).2 = o) (hg : Grew s s') (hw : Wf s) (hS : SlotW s' W k [v] nums) : StR s W (splice cs o [v]) B R Q (updG g k 0 0 nums) s' := by
 refine StR.new hw hg (hp.set (.top k hk) hg.n (fun A h _ => hg.same A h) hS ?_ fun A hA c T hc => ?_)
 ·have : (Za2 B k 0 0).1 = none := by rcases hk with rfl | rfl | rfl | rfl | rfl | rfl <;> rfl
  rw [this, ho]
 ·have : (Za2 B k 0 0).1 = none := by rcases hk with rfl | rfl | rfl | rfl | rfl | rfl <;> rfl
  rw [if_neg (by rw [this]; simp), hg.same A (St.at_lt hc)]
  exact hc
theorem Zfs {l : List Value} {o : Nat} {v : Value} (hl : l.all (·.oneCell') = true) (hv : v.oneCell' = true) : (splice l o [v]).all (·.oneCell') = true := by
 refine List.all_eq_true.2 fun y hy => ?_
 unfold splice at hy
 rcases List.mem_append.1 hy with hy | hy
 ·exact List.all_eq_true.1 hl y (List.mem_of_mem_take hy)
 ·rcases List.mem_append.1 hy with hy | hy
  ·simp only [List.mem_cons, List.not_mem_nil, or_false] at hy
   subst hy; exact hv
  ·exact List.all_eq_true.1 hl y (List.mem_of_mem_drop hy)
theorem wSt1 (hp : PfAt s W cs B R Q g) (hu : U64s s u nums) (huW : ∀ A o sp n c, u = .slice (some ⟨A, o, sp⟩) n c → A < s.n ∧ ¬ W A) (hlen : nums.length < 2 ^ 30) (hW : ∀ A, W A → A < s.n) (hw : Wf s) (hro : ro ≤ s.n) {m : Nat} (hm : nums.length = m * 2)
  (hK : ∀ cs' s', StR s W cs' B R Q (updG g 1 0 0 nums) s' → K (.agg (.mk cs')) s') : CallWP P ro 50 [.agg (.mk cs), .agg (.mk (Prt.cells ⟨1, q, i, n⟩)), u] s K := by
 refine Zas b50 rfl ?_
 rw [n50]
 unfold v50
 simp (maxSteps := 10000000) only [Zcx, Zgp, Zcn]
 refine Zam hw.ent fun Bx s1 m1 => ?_
 refine Zam m1.wf fun Pt s2 m2 => ?_
 have e1 := m1.eq
 have n1 := m1.n
 have e2 := m2.eq
 have n2 := m2.n
 have hn0 : (ent s).n = s.n := rfl
 refine Zai Zh0 m2.wf fun T s3 m3 => ?_
 have e3 := m3.eq
 have n3 := m3.n
 have g03 : Grew (ent s) s3 := (m1.grew.trans m2.grew).trans m3.grew
 have hB3 : s3.at Bx = some (.cells cs 39 false) := ((m2.grew.trans m3.grew).same Bx (by omega)).trans m1.here
 have hP3 : s3.at Pt = some (.cells (Prt.cells ⟨1, q, i, n⟩) 30 false) := (m3.grew.same Pt (by omega)).trans m2.here
 have hT3 := m3.here
 have hkd : Za4 P s3 28 (.pointer (some ⟨Pt, 0 + 0, none⟩)) = some (.int .u8 1) := by rw [Zan Zms, Zac hP3]; rfl
 have hus : U64s s3 u nums := (Sl.ent hu).grew g03.same
 have hcl := hp.cl
 have hone := hp.one
 rw [Zaf, Zcz, Zaa, Zab, hkd, Zaa, Zax, Za1 Zbg, Zaa, decide_eq_true (by decide), Zbb]
 refine Ze9 hus hm (by omega) m3.wf (by omega) fun v s4 g4 hv hvn => ?_
 have n4 := g4.n
 have w4 := m3.wf.grew g4
 rw [Zaf, Zs2, Zaa]
 have hB4 := (g4.same Bx (by omega)).trans hB3
 refine Zbc Zm1 hB4 w4 (by omega) (by omega) (Zkw hv) fun s5 p5 => ?_
 have n5 := p5.n
 have hT5 := (p5.rest T (by omega)).trans ((g4.same T (by omega)).trans hT3)
 have h7 : (splice cs 0 [v])[7]? = some (.slice (some ⟨B.ob, 0, none⟩) Q Q) := by
  rw [Zb5 (by simp; omega) (by simp)]
  exact hp.c7
 have hlen : (splice cs 0 [v]).length = 8 := by rw [Za0 (by simp; omega)]; exact hcl
 refine Zxm (x := ⟨B.ob, 0, none⟩) (Q := Q) hlen (Zfs hone (Zkw hv)) h7 p5.here hT5 rfl p5.wf (by omega) fun s6 p6 => hK _ _ (Z4r (k := 1) hp (by omega) rfl ?_ hw ?_)
 ·have n6 := p6.n
  have g06 : Grew (ent s) s6 := p6.grew _ hw.ent (p5.grew _ hw.ent (g03.trans g4) (by omega)) (by omega)
  exact g06.entL hw
 ·unfold SlotW
  rw [if_neg (by decide), if_neg (by decide), if_neg (by decide)]
  have n6 := p6.n
  refine ⟨v, rfl, m, hm, ?_, fun A o sp n c e => ?_⟩
  ·refine Sl.sameAt hv fun A o sp n c e => ?_
   have := hvn A o sp n c e
   show s6.at A = s4.at A
   rw [p6.rest A (by omega), p5.rest A (by omega)]
  ·have := hvn A o sp n c e
   refine ⟨by show A < s6.n; omega, fun hA => ?_⟩
   have := hW A hA
   omega
theorem wSt3 (hp : PfAt s W cs B R Q g) (hu : U64s s u nums) (huW : ∀ A o sp n c, u = .slice (some ⟨A, o, sp⟩) n c → A < s.n ∧ ¬ W A) (hlen : nums.length < 2 ^ 30) (hW : ∀ A, W A → A < s.n) (hw : Wf s) (hro : ro ≤ s.n) {m : Nat} (hm : nums.length = m * 2)
  (hK : ∀ cs' s', StR s W cs' B R Q (updG g 3 0 0 nums) s' → K (.agg (.mk cs')) s') : CallWP P ro 50 [.agg (.mk cs), .agg (.mk (Prt.cells ⟨3, q, i, n⟩)), u] s K := by
 refine Zas b50 rfl ?_
 rw [n50]
 unfold v50
 simp (maxSteps := 10000000) only [Zcx, Zgp, Zcn]
 refine Zam hw.ent fun Bx s1 m1 => ?_
 refine Zam m1.wf fun Pt s2 m2 => ?_
 have e1 := m1.eq
 have n1 := m1.n
 have e2 := m2.eq
 have n2 := m2.n
 have hn0 : (ent s).n = s.n := rfl
 refine Zai Zh0 m2.wf fun T s3 m3 => ?_
 have e3 := m3.eq
 have n3 := m3.n
 have g03 : Grew (ent s) s3 := (m1.grew.trans m2.grew).trans m3.grew
 have hB3 : s3.at Bx = some (.cells cs 39 false) := ((m2.grew.trans m3.grew).same Bx (by omega)).trans m1.here
 have hP3 : s3.at Pt = some (.cells (Prt.cells ⟨3, q, i, n⟩) 30 false) := (m3.grew.same Pt (by omega)).trans m2.here
 have hT3 := m3.here
 have hkd : Za4 P s3 28 (.pointer (some ⟨Pt, 0 + 0, none⟩)) = some (.int .u8 3) := by rw [Zan Zms, Zac hP3]; rfl
 have hus : U64s s3 u nums := (Sl.ent hu).grew g03.same
 have hcl := hp.cl
 have hone := hp.one
 rw [Zaf, Zcz, Zaa, Zab, hkd, Zaa, Zax, Za1 Zbg, Zaa, decide_eq_false (by decide), Zak, Zax, Za1 Zbg, Zaa, decide_eq_false (by decide), Zak, Zax, Za1 Zbg, Zaa, decide_eq_true (by decide), Zbb]
 refine Ze9 hus hm (by omega) m3.wf (by omega) fun v s4 g4 hv hvn => ?_
 have n4 := g4.n
 have w4 := m3.wf.grew g4
 rw [Zaf, Zwg, Zaa]
 have hB4 := (g4.same Bx (by omega)).trans hB3
 refine Zbc Zm1 hB4 w4 (by omega) (by omega) (Zkw hv) fun s5 p5 => ?_
 have n5 := p5.n
 have hT5 := (p5.rest T (by omega)).trans ((g4.same T (by omega)).trans hT3)
 have h7 : (splice cs 1 [v])[7]? = some (.slice (some ⟨B.ob, 0, none⟩) Q Q) := by
  rw [Zb5 (by simp; omega) (by simp)]
  exact hp.c7
 have hlen : (splice cs 1 [v]).length = 8 := by rw [Za0 (by simp; omega)]; exact hcl
 refine Zxm (x := ⟨B.ob, 0, none⟩) (Q := Q) hlen (Zfs hone (Zkw hv)) h7 p5.here hT5 rfl p5.wf (by omega) fun s6 p6 => hK _ _ (Z4r (k := 3) hp (by omega) rfl ?_ hw ?_)
 ·have n6 := p6.n
  have g06 : Grew (ent s) s6 := p6.grew _ hw.ent (p5.grew _ hw.ent (g03.trans g4) (by omega)) (by omega)
  exact g06.entL hw
 ·unfold SlotW
  rw [if_neg (by decide), if_neg (by decide), if_neg (by decide)]
  have n6 := p6.n
  refine ⟨v, rfl, m, hm, ?_, fun A o sp n c e => ?_⟩
  ·refine Sl.sameAt hv fun A o sp n c e => ?_
   have := hvn A o sp n c e
   show s6.at A = s4.at A
   rw [p6.rest A (by omega), p5.rest A (by omega)]
  ·have := hvn A o sp n c e
   refine ⟨by show A < s6.n; omega, fun hA => ?_⟩
   have := hW A hA
   omega
theorem wSt4 (hp : PfAt s W cs B R Q g) (hu : U64s s u nums) (huW : ∀ A o sp n c, u = .slice (some ⟨A, o, sp⟩) n c → A < s.n ∧ ¬ W A) (hlen : nums.length < 2 ^ 30) (hW : ∀ A, W A → A < s.n) (hw : Wf s) (hro : ro ≤ s.n) {m : Nat} (hm : nums.length = m * 2)
  (hK : ∀ cs' s', StR s W cs' B R Q (updG g 4 0 0 nums) s' → K (.agg (.mk cs')) s') : CallWP P ro 50 [.agg (.mk cs), .agg (.mk (Prt.cells ⟨4, q, i, n⟩)), u] s K := by
 refine Zas b50 rfl ?_
 rw [n50]
 unfold v50
 simp (maxSteps := 10000000) only [Zcx, Zgp, Zcn]
 refine Zam hw.ent fun Bx s1 m1 => ?_
 refine Zam m1.wf fun Pt s2 m2 => ?_
 have e1 := m1.eq
 have n1 := m1.n
 have e2 := m2.eq
 have n2 := m2.n
 have hn0 : (ent s).n = s.n := rfl
 refine Zai Zh0 m2.wf fun T s3 m3 => ?_
 have e3 := m3.eq
 have n3 := m3.n
 have g03 : Grew (ent s) s3 := (m1.grew.trans m2.grew).trans m3.grew
 have hB3 : s3.at Bx = some (.cells cs 39 false) := ((m2.grew.trans m3.grew).same Bx (by omega)).trans m1.here
 have hP3 : s3.at Pt = some (.cells (Prt.cells ⟨4, q, i, n⟩) 30 false) := (m3.grew.same Pt (by omega)).trans m2.here
 have hT3 := m3.here
 have hkd : Za4 P s3 28 (.pointer (some ⟨Pt, 0 + 0, none⟩)) = some (.int .u8 4) := by rw [Zan Zms, Zac hP3]; rfl
 have hus : U64s s3 u nums := (Sl.ent hu).grew g03.same
 have hcl := hp.cl
 have hone := hp.one
 rw [Zaf, Zcz, Zaa, Zab, hkd, Zaa, Zax, Za1 Zbg, Zaa, decide_eq_false (by decide), Zak, Zax, Za1 Zbg, Zaa, decide_eq_false (by decide), Zak, Zax, Za1 Zbg, Zaa, decide_eq_false (by decide), Zak, Zax, Za1 Zbg, Zaa, decide_eq_true (by decide), Zbb]
 refine Ze9 hus hm (by omega) m3.wf (by omega) fun v s4 g4 hv hvn => ?_
 have n4 := g4.n
 have w4 := m3.wf.grew g4
 rw [Zaf, Zwf, Zaa]
 have hB4 := (g4.same Bx (by omega)).trans hB3
 refine Zbc Zm1 hB4 w4 (by omega) (by omega) (Zkw hv) fun s5 p5 => ?_
 have n5 := p5.n
 have hT5 := (p5.rest T (by omega)).trans ((g4.same T (by omega)).trans hT3)
 have h7 : (splice cs 2 [v])[7]? = some (.slice (some ⟨B.ob, 0, none⟩) Q Q) := by
  rw [Zb5 (by simp; omega) (by simp)]
  exact hp.c7
 have hlen : (splice cs 2 [v]).length = 8 := by rw [Za0 (by simp; omega)]; exact hcl
 refine Zxm (x := ⟨B.ob, 0, none⟩) (Q := Q) hlen (Zfs hone (Zkw hv)) h7 p5.here hT5 rfl p5.wf (by omega) fun s6 p6 => hK _ _ (Z4r (k := 4) hp (by omega) rfl ?_ hw ?_)
 ·have n6 := p6.n
  have g06 : Grew (ent s) s6 := p6.grew _ hw.ent (p5.grew _ hw.ent (g03.trans g4) (by omega)) (by omega)
  exact g06.entL hw
 ·unfold SlotW
  rw [if_neg (by decide), if_neg (by decide), if_neg (by decide)]
  have n6 := p6.n
  refine ⟨v, rfl, m, hm, ?_, fun A o sp n c e => ?_⟩
  ·refine Sl.sameAt hv fun A o sp n c e => ?_
   have := hvn A o sp n c e
   show s6.at A = s4.at A
   rw [p6.rest A (by omega), p5.rest A (by omega)]
  ·have := hvn A o sp n c e
   refine ⟨by show A < s6.n; omega, fun hA => ?_⟩
   have := hW A hA
   omega
theorem wSt2 (hp : PfAt s W cs B R Q g) (hu : U64s s u nums) (huW : ∀ A o sp n c, u = .slice (some ⟨A, o, sp⟩) n c → A < s.n ∧ ¬ W A) (hlen : nums.length < 2 ^ 30) (hW : ∀ A, W A → A < s.n) (hw : Wf s) (hro : ro ≤ s.n) {y : Int} (hy : nums = [y])
  (hK : ∀ cs' s', StR s W cs' B R Q (updG g 2 0 0 nums) s' → K (.agg (.mk cs')) s') : CallWP P ro 50 [.agg (.mk cs), .agg (.mk (Prt.cells ⟨2, q, i, n⟩)), u] s K := by
 refine Zas b50 rfl ?_
 rw [n50]
 unfold v50
 simp (maxSteps := 10000000) only [Zcx, Zgp, Zcn]
 refine Zam hw.ent fun Bx s1 m1 => ?_
 refine Zam m1.wf fun Pt s2 m2 => ?_
 have e1 := m1.eq
 have n1 := m1.n
 have e2 := m2.eq
 have n2 := m2.n
 have hn0 : (ent s).n = s.n := rfl
 refine Zai Zh0 m2.wf fun T s3 m3 => ?_
 have e3 := m3.eq
 have n3 := m3.n
 have g03 : Grew (ent s) s3 := (m1.grew.trans m2.grew).trans m3.grew
 have hB3 : s3.at Bx = some (.cells cs 39 false) := ((m2.grew.trans m3.grew).same Bx (by omega)).trans m1.here
 have hP3 : s3.at Pt = some (.cells (Prt.cells ⟨2, q, i, n⟩) 30 false) := (m3.grew.same Pt (by omega)).trans m2.here
 have hT3 := m3.here
 have hkd : Za4 P s3 28 (.pointer (some ⟨Pt, 0 + 0, none⟩)) = some (.int .u8 2) := by rw [Zan Zms, Zac hP3]; rfl
 have hus : U64s s3 u nums := (Sl.ent hu).grew g03.same
 have hcl := hp.cl
 have hone := hp.one
 rw [Zaf, Zcz, Zaa, Zab, hkd, Zaa, Zax, Za1 Zbg, Zaa, decide_eq_false (by decide), Zak, Zax, Za1 Zbg, Zaa, decide_eq_true (by decide), Zbb]
 subst hy
 obtain ⟨A1, o1, i1, l1⟩ := hus.atN (i := 0) (x := y) rfl
 have i1' : Zal P 36 u (.int .i64 0) = some (.pointer (some ⟨A1, o1, none⟩)) := i1
 rw [Zae, i1', Zaa, Zab, l1, Zaa, Zaf, Zwe, Zaa]
 refine Zbc Zfm hB3 m3.wf (by omega) (by omega) rfl fun s5 p5 => ?_
 have n5 := p5.n
 have hT5 := (p5.rest T (by omega)).trans hT3
 have h7 : (splice cs 3 [.int .u64 y])[7]? = some (.slice (some ⟨B.ob, 0, none⟩) Q Q) := by
  rw [Zb5 (by simp; omega) (by simp)]
  exact hp.c7
 have hlen : (splice cs 3 [.int .u64 y]).length = 8 := by rw [Za0 (by simp; omega)]; exact hcl
 refine Zxm (x := ⟨B.ob, 0, none⟩) (Q := Q) hlen (Zfs hone rfl) h7 p5.here hT5 rfl p5.wf (by omega) fun s6 p6 => hK _ _ (Z4r (k := 2) hp (by omega) rfl ?_ hw ?_)
 ·have n6 := p6.n
  have g06 : Grew (ent s) s6 := p6.grew _ hw.ent (p5.grew _ hw.ent g03 (by omega)) (by omega)
  exact g06.entL hw
 ·unfold SlotW
  rw [if_pos (by decide)]
  exact ⟨y, rfl, rfl⟩
theorem wSt7 (hp : PfAt s W cs B R Q g) (hu : U64s s u nums) (huW : ∀ A o sp n c, u = .slice (some ⟨A, o, sp⟩) n c → A < s.n ∧ ¬ W A) (hlen : nums.length < 2 ^ 30) (hW : ∀ A, W A → A < s.n) (hw : Wf s) (hro : ro ≤ s.n) {y : Int} (hy : nums = [y])
  (hK : ∀ cs' s', StR s W cs' B R Q (updG g 7 0 0 nums) s' → K (.agg (.mk cs')) s') : CallWP P ro 50 [.agg (.mk cs), .agg (.mk (Prt.cells ⟨7, q, i, n⟩)), u] s K := by
 refine Zas b50 rfl ?_
 rw [n50]
 unfold v50
 simp (maxSteps := 10000000) only [Zcx, Zgp, Zcn]
 refine Zam hw.ent fun Bx s1 m1 => ?_
 refine Zam m1.wf fun Pt s2 m2 => ?_
 have e1 := m1.eq
 have n1 := m1.n
 have e2 := m2.eq
 have n2 := m2.n
 have hn0 : (ent s).n = s.n := rfl
 refine Zai Zh0 m2.wf fun T s3 m3 => ?_
 have e3 := m3.eq
 have n3 := m3.n
 have g03 : Grew (ent s) s3 := (m1.grew.trans m2.grew).trans m3.grew
 have hB3 : s3.at Bx = some (.cells cs 39 false) := ((m2.grew.trans m3.grew).same Bx (by omega)).trans m1.here
 have hP3 : s3.at Pt = some (.cells (Prt.cells ⟨7, q, i, n⟩) 30 false) := (m3.grew.same Pt (by omega)).trans m2.here
 have hT3 := m3.here
 have hkd : Za4 P s3 28 (.pointer (some ⟨Pt, 0 + 0, none⟩)) = some (.int .u8 7) := by rw [Zan Zms, Zac hP3]; rfl
 have hus : U64s s3 u nums := (Sl.ent hu).grew g03.same
 have hcl := hp.cl
 have hone := hp.one
 rw [Zaf, Zcz, Zaa, Zab, hkd, Zaa, Zax, Za1 Zbg, Zaa, decide_eq_false (by decide), Zak, Zax, Za1 Zbg, Zaa, decide_eq_false (by decide), Zak, Zax, Za1 Zbg, Zaa, decide_eq_false (by decide), Zak, Zax, Za1 Zbg, Zaa, decide_eq_false (by decide), Zak, Zax, Za1 Zbg, Zaa, decide_eq_false (by decide), Zak, Zax, Za1 Zbg, Zaa, decide_eq_false (by decide), Zak, Zax, Za1 Zbg, Zaa, decide_eq_true (by decide), Zbb]
 subst hy
 obtain ⟨A1, o1, i1, l1⟩ := hus.atN (i := 0) (x := y) rfl
 have i1' : Zal P 36 u (.int .i64 0) = some (.pointer (some ⟨A1, o1, none⟩)) := i1
 rw [Zae, i1', Zaa, Zab, l1, Zaa, Zaf, Zwc, Zaa]
 refine Zbc Zfm hB3 m3.wf (by omega) (by omega) rfl fun s5 p5 => ?_
 have n5 := p5.n
 have hT5 := (p5.rest T (by omega)).trans hT3
 have h7 : (splice cs 6 [.int .u64 y])[7]? = some (.slice (some ⟨B.ob, 0, none⟩) Q Q) := by
  rw [Zb5 (by simp; omega) (by simp)]
  exact hp.c7
 have hlen : (splice cs 6 [.int .u64 y]).length = 8 := by rw [Za0 (by simp; omega)]; exact hcl
 refine Zxm (x := ⟨B.ob, 0, none⟩) (Q := Q) hlen (Zfs hone rfl) h7 p5.here hT5 rfl p5.wf (by omega) fun s6 p6 => hK _ _ (Z4r (k := 7) hp (by omega) rfl ?_ hw ?_)
 ·have n6 := p6.n
  have g06 : Grew (ent s) s6 := p6.grew _ hw.ent (p5.grew _ hw.ent g03 (by omega)) (by omega)
  exact g06.entL hw
 ·unfold SlotW
  rw [if_pos (by decide)]
  exact ⟨y, rfl, rfl⟩
theorem wSt6 (hp : PfAt s W cs B R Q g) (hu : U64s s u nums) (huW : ∀ A o sp n c, u = .slice (some ⟨A, o, sp⟩) n c → A < s.n ∧ ¬ W A) (hlen : nums.length < 2 ^ 30) (hW : ∀ A, W A → A < s.n) (hw : Wf s) (hro : ro ≤ s.n)
  (hK : ∀ cs' s', StR s W cs' B R Q (updG g 6 0 0 nums) s' → K (.agg (.mk cs')) s') : CallWP P ro 50 [.agg (.mk cs), .agg (.mk (Prt.cells ⟨6, q, i, n⟩)), u] s K := by
 refine Zas b50 rfl ?_
 rw [n50]
 unfold v50
 simp (maxSteps := 10000000) only [Zcx, Zgp, Zcn]
 refine Zam hw.ent fun Bx s1 m1 => ?_
 refine Zam m1.wf fun Pt s2 m2 => ?_
 have e1 := m1.eq
 have n1 := m1.n
 have e2 := m2.eq
 have n2 := m2.n
 have hn0 : (ent s).n = s.n := rfl
 refine Zai Zh0 m2.wf fun T s3 m3 => ?_
 have e3 := m3.eq
 have n3 := m3.n
 have g03 : Grew (ent s) s3 := (m1.grew.trans m2.grew).trans m3.grew
 have hB3 : s3.at Bx = some (.cells cs 39 false) := ((m2.grew.trans m3.grew).same Bx (by omega)).trans m1.here
 have hP3 : s3.at Pt = some (.cells (Prt.cells ⟨6, q, i, n⟩) 30 false) := (m3.grew.same Pt (by omega)).trans m2.here
 have hT3 := m3.here
 have hkd : Za4 P s3 28 (.pointer (some ⟨Pt, 0 + 0, none⟩)) = some (.int .u8 6) := by rw [Zan Zms, Zac hP3]; rfl
 have hus : U64s s3 u nums := (Sl.ent hu).grew g03.same
 have hcl := hp.cl
 have hone := hp.one
 rw [Zaf, Zcz, Zaa, Zab, hkd, Zaa, Zax, Za1 Zbg, Zaa, decide_eq_false (by decide), Zak, Zax, Za1 Zbg, Zaa, decide_eq_false (by decide), Zak, Zax, Za1 Zbg, Zaa, decide_eq_false (by decide), Zak, Zax, Za1 Zbg, Zaa, decide_eq_false (by decide), Zak, Zax, Za1 Zbg, Zaa, decide_eq_false (by decide), Zak, Zax, Za1 Zbg, Zaa, decide_eq_true (by decide), Zbb]
 have hu1 : u.oneCell' = true := Zkw hu
 rw [Zaf, Zwd, Zaa]
 refine Zbc Z3s hB3 m3.wf (by omega) (by omega) hu1 fun s5 p5 => ?_
 have n5 := p5.n
 have hT5 := (p5.rest T (by omega)).trans hT3
 have h7 : (splice cs 5 [u])[7]? = some (.slice (some ⟨B.ob, 0, none⟩) Q Q) := by
  rw [Zb5 (by simp; omega) (by simp)]
  exact hp.c7
 have hlen : (splice cs 5 [u]).length = 8 := by rw [Za0 (by simp; omega)]; exact hcl
 refine Zxm (x := ⟨B.ob, 0, none⟩) (Q := Q) hlen (Zfs hone hu1) h7 p5.here hT5 rfl p5.wf (by omega) fun s6 p6 => hK _ _ (Z4r (k := 6) hp (by omega) rfl ?_ hw ?_)
 ·have n6 := p6.n
  have g06 : Grew (ent s) s6 := p6.grew _ hw.ent (p5.grew _ hw.ent g03 (by omega)) (by omega)
  exact g06.entL hw
 ·unfold SlotW
  rw [if_neg (by decide), if_neg (by decide), if_pos (by decide)]
  have n6 := p6.n
  refine ⟨u, rfl, nums.length, by omega, ?_, fun A o sp n c e => ⟨by show A < s6.n; have := (huW A o sp n c e).1; omega, (huW A o sp n c e).2⟩⟩
  refine Sl.sameAt hu fun A o sp n c e => ?_
  have := (huW A o sp n c e).1
  show s6.at A = s.at A
  rw [p6.rest A (by omega), p5.rest A (by omega)]
  exact g03.same A this
end
theorem SlV.up {s s' : St} {W W' : Nat → Prop} {sz : Nat} {v : Value} {l : List Int} (h : SlV s W' sz v l) (hn : s.n ≤ s'.n) (hleaf : ∀ A, A < s.n → ¬ W' A → s'.at A = s.at A) (hsub : ∀ A, W A → W' A) : SlV s' W sz v l := by
 obtain ⟨m, h1, h2, h3⟩ := h
 exact ⟨m, h1, h2.sameAt fun A o sp k c e => hleaf A (h3 A o sp k c e).1 (h3 A o sp k c e).2, fun A o sp k c e => ⟨Nat.lt_of_lt_of_le (h3 A o sp k c e).1 hn, fun hA => (h3 A o sp k c e).2 (hsub A hA)⟩⟩
theorem Keeps.ptr2 {s s' : St} {i j A o A' o' : Nat} (hn : s.n ≤ s'.n) (h : s'.at A = s.at A) (h' : s'.at A' = s.at A') : Keeps [(i, .ptr (.pointer (some ⟨A, o, none⟩))), (j, .ptr (.pointer (some ⟨A', o', none⟩)))] s s' :=
 ⟨hn, fun x hx => by
  rcases List.mem_cons.1 hx with rfl | hx
  ·exact (Keeps.ptr1 (i := i) (o := o) hn h).2 _ List.mem_cons_self
  ·simp only [List.mem_cons, List.not_mem_nil, or_false] at hx
   subst hx
   exact (Keeps.ptr1 (i := j) (o := o') hn h').2 _ List.mem_cons_self⟩
section
variable {ro : Nat} {s : St} {K : Value → St → Prop} {W : Nat → Prop} {cs : List Value} {B : PfB} {R Q : Nat} {g : Nat → Nat → Nat → List Int} {u : Value} {nums : List Int} {q i n : Nat}
theorem StR.of {sX : St} {cs' : List Value} {g' : Nat → Nat → Nat → List Int} (hWB : W B.rb ∧ W B.ob ∧ ∀ j, j < Q → W (B.fb j)) (hw : Wf s) (wX : Wf sX) (hn : s.n ≤ sX.n) (hsame : ∀ X, X < s.n → X ≠ B.rb → X ≠ B.ob → (∀ j, j < Q → X ≠ B.fb j) → sX.at X = s.at X) (hlo : ∀ b, b ≤ s.n → b ≤ B.rb → b ≤ B.ob → (∀ j, j < Q → b ≤ B.fb j) → b ≤ sX.lo)
  (pf : PfAt ({ sX with lo := min s.lo sX.lo } : St) W cs' B R Q g') : StR s W cs' B R Q g' { sX with lo := min s.lo sX.lo } := by
 refine ⟨⟨by show min s.lo sX.lo ≤ sX.n; have := hw.lo; omega, wX.len⟩, hn, fun X h1 h2 => hsame X h1 (fun e => h2 (by rw [e]; exact hWB.1)) (fun e => h2 (by rw [e]; exact hWB.2.1)) (fun j hj e => h2 (by rw [e]; exact hWB.2.2 j hj)), fun s0 h0 g0 hle => ⟨by show s0.n ≤ sX.n; have := g0.n; omega, ?_, fun X hX => ?_, fun _ => wX.len⟩, pf, hsame⟩
 ·show min s.lo sX.lo = s0.lo
  have := hlo s0.n g0.n hle.1 hle.2.1 hle.2.2
  have := g0.lo
  have := h0.lo
  omega
 ·have := g0.n
  show sX.at X = s0.at X
  rw [hsame X (by omega) (by omega) (by omega) (fun j hj => by have := hle.2.2 j hj; omega)]
  exact g0.same X hX
theorem Ycp {j : Nat} {l : List Value} (hl : l.length = 13) (h8 : ∀ i, i < 6 → ∃ v, l[i]? = some v ∧ SlV s W 1 v (g 8 j i)) (h9 : ∀ i, i < 6 → ∃ v, l[6 + i]? = some v ∧ SlV s W 2 v (g 9 j i)) (h12 : l[12]? = some (.slice (some ⟨B.fb j, 0, none⟩) R R)) : veq (.agg (.mk l)) (.agg (.mk l)) = true := by
 refine Z26 fun v hv => ?_
 obtain ⟨i, hi⟩ := List.getElem?_of_mem hv
 have hlt := (List.getElem?_eq_some_iff.1 hi).1
 by_cases hi6 : i < 6
 ·obtain ⟨w, e, hw⟩ := h8 i hi6
  rw [hi] at e; cases e
  exact Zmv hw
 ·by_cases hi12 : i < 12
  ·obtain ⟨w, e, hw⟩ := h9 (i - 6) (by omega)
   rw [show 6 + (i - 6) = i by omega, hi] at e
   cases e
   exact Zmv hw
  ·have : i = 12 := by omega
   subst this
   rw [hi] at h12; cases h12
   exact Zmk _ _ _ _ _
theorem wSt5 (hp : PfAt s W cs B R Q g) (hi : i < R) (hu : U64s s u nums) {m : Nat} (hm : nums.length = m * 2) (hlen : nums.length < 2 ^ 30) (hW : ∀ A, W A → A < s.n) (hw : Wf s) (hro : ro ≤ s.n ∧ ro ≤ B.rb)
  (hK : ∀ cs' s', StR s W cs' B R Q (updG g 5 0 i nums) s' → K (.agg (.mk cs')) s') : CallWP P ro 50 [.agg (.mk cs), .agg (.mk (Prt.cells ⟨5, q, i, n⟩)), u] s K := by
 refine Zas b50 rfl ?_
 rw [n50]
 unfold v50
 simp (maxSteps := 10000000) only [Zcx, Zgp, Zcn]
 refine Zam hw.ent fun Bx s1 m1 => ?_
 refine Zam m1.wf fun Pt s2 m2 => ?_
 have e1 := m1.eq
 have n1 := m1.n
 have e2 := m2.eq
 have n2 := m2.n
 have hn0 : (ent s).n = s.n := rfl
 refine Zai Zh0 m2.wf fun T s3 m3 => ?_
 have e3 := m3.eq
 have n3 := m3.n
 have g03 : Grew (ent s) s3 := (m1.grew.trans m2.grew).trans m3.grew
 have hB3 : s3.at Bx = some (.cells cs 39 false) := ((m2.grew.trans m3.grew).same Bx (by omega)).trans m1.here
 have hP3 : s3.at Pt = some (.cells (Prt.cells ⟨5, q, i, n⟩) 30 false) := (m3.grew.same Pt (by omega)).trans m2.here
 have hT3 := m3.here
 have hkd : Za4 P s3 28 (.pointer (some ⟨Pt, 0 + 0, none⟩)) = some (.int .u8 5) := by rw [Zan Zms, Zac hP3]; rfl
 have hix : Za4 P s3 3 (.pointer (some ⟨Pt, 0 + 2, none⟩)) = some (.int .i64 i) := by rw [Zan ap_3, Zac hP3]; rfl
 have hrd : Za4 P s3 35 (.pointer (some ⟨Bx, 0 + 4, none⟩)) = some (.slice (some ⟨B.rb, 0, none⟩) R R) := by rw [Zan Zwp, Zac hB3]; exact hp.c4
 have hus : U64s s3 u nums := (Sl.ent hu).grew g03.same
 have hcl := hp.cl
 have hone := hp.one
 obtain ⟨rc, hrc, hrl⟩ := hp.rb
 have hrbl := St.at_lt hrc
 rw [Zaf, Zcz, Zaa, Zab, hkd, Zaa, Zax, Za1 Zbg, Zaa, decide_eq_false (by decide), Zak, Zax, Za1 Zbg, Zaa, decide_eq_false (by decide), Zak, Zax, Za1 Zbg, Zaa, decide_eq_false (by decide), Zak, Zax, Za1 Zbg, Zaa, decide_eq_false (by decide), Zak, Zax, Za1 Zbg, Zaa, decide_eq_true (by decide), Zbb]
 rw [Zaf, Zjk, Zaa, Zab, hrd, Zaa]
 refine ⟨Zmk _ _ _ _ _, ?_⟩
 rw [Zaf, Zd2, Zaa, Zab, hix, Zaa]
 refine ⟨by simp [veq], ?_⟩
 refine Ze9 hus hm (by omega) m3.wf (by omega) fun v s4 g4 hv hvn => ?_
 have n4 := g4.n
 have w4 := m3.wf.grew g4
 refine ⟨g4.keeps, ?_⟩
 rw [Zae, ixRd (by omega) (by omega), Zaa, Int.toNat_natCast]
 have hr4 : s4.at B.rb = some (.cells rc 33 false) := (g4.same _ (by omega)).trans ((g03.same _ hrbl).trans hrc)
 refine Zbc Zm1 hr4 w4 hro.2 (by omega) (Zkw hv) fun s5 p5 => ?_
 have n5 := p5.n
 have hB5 := (p5.rest Bx (by omega)).trans ((g4.same Bx (by omega)).trans hB3)
 have hT5 := (p5.rest T (by omega)).trans ((g4.same T (by omega)).trans hT3)
 refine Zxm hcl hone hp.c7 hB5 hT5 rfl p5.wf (by omega) fun s6 p6 => ?_
 have n6 := p6.n
 have r : SetR s W B.rb i rc 33 5 nums ({ s6 with lo := min s.lo s6.lo } : St) := by
  refine SetR.of hw p6.wf (by omega) (fun X h1 h2 => ?_) ?_ ⟨[v], (p6.rest B.rb (by omega)).trans p5.here, ?_⟩
  ·rw [p6.rest X (by omega), p5.rest X h2, g4.same X (by omega)]
   exact g03.same X h1
  ·rw [p6.lo, p5.lo, g4.lo, g03.lo]
   have : (ent s).lo = s.n := rfl
   omega
  ·unfold SlotW
   rw [if_neg (by decide), if_neg (by decide), if_neg (by decide)]
   refine ⟨v, rfl, m, hm, ?_, fun A o sp n c e => ?_⟩
   ·refine Sl.sameAt hv fun A o sp n c e => ?_
    have := hvn A o sp n c e
    show s6.at A = s4.at A
    rw [p6.rest A (by omega), p5.rest A (by omega)]
   ·have := hvn A o sp n c e
    refine ⟨by show A < s6.n; omega, fun hA => ?_⟩
    have := hW A hA
    omega
 exact hK _ _ ⟨r.wf, r.n, fun X h1 h2 => r.same X h1 fun e => h2 (by rw [e]; exact hp.w.1), fun s0 h0 g0 hle => r.gr s0 h0 g0 hle.1, hp.setB (.round i hi) rfl hrc hp.w.1 r, fun X h1 h2 _ _ => r.same X h1 h2⟩
end
section
variable {ro : Nat} {s : St} {K : Value → St → Prop} {W : Nat → Prop} {cs : List Value} {B : PfB} {R Q : Nat} {g : Nat → Nat → Nat → List Int} {u : Value} {nums : List Int} {k q i n : Nat}
def Ydi (ro : Nat) (s : St) (W : Nat → Prop) (cs : List Value) (B : PfB) (R Q : Nat) (g : Nat → Nat → Nat → List Int) (u : Value) (nums : List Int) (k q i n : Nat) : Prop :=
 ∀ (s3 : St) (T : Nat) (oc l : List Value) (K' : Value → St → Prop), Grew (ent s) s3 → Wf s3 → s.n ≤ T → T < s3.n → s.at B.ob = some (.cells oc 59 false) → oc.length = 13 * Q → cut oc (13 * q) 13 = some l → l.length = 13 → l.all (·.oneCell') = true → l[12]? = some (.slice (some ⟨B.fb q, 0, none⟩) R R) →
  (∀ l' s4, Wf s4 → s3.n ≤ s4.n → (∀ X, s.n ≤ X → X < s3.n → s4.at X = s3.at X) → s4.at B.ob = s.at B.ob → l'.length = 13 → l'.all (·.oneCell') = true →
   (∀ s6, Wf s6 → s4.n ≤ s6.n → (∀ X, X ≠ B.ob → X ≠ T → s6.at X = s4.at X) → s6.at B.ob = some (.cells (splice oc (13 * q) l') 59 false) → (∀ b, b ≤ s4.lo → b ≤ B.ob → b ≤ T → b ≤ s6.lo) → StR s W cs B R Q (updG g k q i nums) { s6 with lo := min s.lo s6.lo }) → K' (.agg (.mk l')) s4) →
  CallWP P ro 88 [.agg (.mk l), .agg (.mk (Prt.cells ⟨k, q, i, n⟩)), u] s3 K'
theorem wStQ (hp : PfAt s W cs B R Q g) (hk : 8 ≤ k ∧ k ≤ 11) (hq : q < Q) (hw : Wf s) (hro : ro ≤ s.n ∧ ro ≤ B.ob) (hop : Ydi ro s W cs B R Q g u nums k q i n)
  (hK : ∀ cs' s', StR s W cs' B R Q (updG g k q i nums) s' → K (.agg (.mk cs')) s') : CallWP P ro 50 [.agg (.mk cs), .agg (.mk (Prt.cells ⟨k, q, i, n⟩)), u] s K := by
 refine Zas b50 rfl ?_
 rw [n50]
 unfold v50
 simp (maxSteps := 10000000) only [Zcx, Zgp, Zcn]
 refine Zam hw.ent fun Bx s1 m1 => ?_
 refine Zam m1.wf fun Pt s2 m2 => ?_
 have e1 := m1.eq
 have n1 := m1.n
 have e2 := m2.eq
 have n2 := m2.n
 have hn0 : (ent s).n = s.n := rfl
 refine Zai Zh0 m2.wf fun T s3 m3 => ?_
 have e3 := m3.eq
 have n3 := m3.n
 have g03 : Grew (ent s) s3 := (m1.grew.trans m2.grew).trans m3.grew
 have hB3 : s3.at Bx = some (.cells cs 39 false) := ((m2.grew.trans m3.grew).same Bx (by omega)).trans m1.here
 have hP3 : s3.at Pt = some (.cells (Prt.cells ⟨k, q, i, n⟩) 30 false) := (m3.grew.same Pt (by omega)).trans m2.here
 have hT3 := m3.here
 have hkd : Za4 P s3 28 (.pointer (some ⟨Pt, 0 + 0, none⟩)) = some (.int .u8 k) := by rw [Zan Zms, Zac hP3]; rfl
 have hqx : Za4 P s3 3 (.pointer (some ⟨Pt, 0 + 1, none⟩)) = some (.int .i64 q) := by rw [Zan ap_3, Zac hP3]; rfl
 have hld : Za4 P s3 37 (.pointer (some ⟨Bx, 0 + 7, none⟩)) = some (.slice (some ⟨B.ob, 0, none⟩) Q Q) := by rw [Zan Znt, Zac hB3]; exact hp.c7
 have hcl := hp.cl
 have hone := hp.one
 obtain ⟨oc, l, ho, hcut, hl13, hlone, h8, h9, h12⟩ := hp.opn hq
 obtain ⟨oc', ho', hol, _⟩ := hp.ob
 rw [ho] at ho'
 cases ho'
 have hobl := St.at_lt ho
 have ho3 : s3.at B.ob = some (.cells oc 59 false) := (g03.same _ hobl).trans ho
 have hki : ∀ z : Nat, z < 8 → decide ((k : Int) = z) = false := fun z hz => decide_eq_false (by omega)
 rw [Zaf, Zcz, Zaa, Zab, hkd, Zaa, Zax, Za1 Zbg, Zaa, decide_eq_false (by omega), Zak, Zax, Za1 Zbg, Zaa, decide_eq_false (by omega), Zak, Zax, Za1 Zbg, Zaa, decide_eq_false (by omega), Zak, Zax, Za1 Zbg, Zaa, decide_eq_false (by omega), Zak, Zax, Za1 Zbg, Zaa, decide_eq_false (by omega), Zak, Zax, Za1 Zbg, Zaa, decide_eq_false (by omega), Zak, Zax, Za1 Zbg, Zaa, decide_eq_false (by omega), Zak]
 have vi : ∀ k z, veq (.int k z) (.int k z) = true := fun k z => by simp [veq]
 rw [Zaf, Zel, Zaa, Zab, hld, Zaa]
 refine ⟨Zmk _ _ _ _ _, ?_⟩
 rw [Zaf, Zpj, Zaa, Zab, hqx, Zaa]
 refine ⟨vi _ _, ?_⟩
 rw [Zaf, Zel, Zaa, Zab, hld, Zaa]
 refine ⟨Zmk _ _ _ _ _, ?_⟩
 rw [Zaf, Zpj, Zaa, Zab, hqx, Zaa]
 refine ⟨vi _ _, ?_⟩
 rw [Zae, ixOp (by omega) (by omega), Zaa, Int.toNat_natCast, Zab, Zdr Zq7 ho3 hcut, Zaa]
 refine ⟨Ycp hl13 h8 h9 h12, ?_⟩
 rw [Zab, Zah Ztz hP3 rfl, Zaa]
 refine ⟨by simp [veq, veqA, veqL, Prt.cells], ?_⟩
 refine hop s3 T oc l _ g03 m3.wf (by omega) (by omega) ho hol hcut hl13 hlone h12 fun l' s4 w4 hn4 hbox hob4 hl' hone' hfin => ?_
 refine ⟨Keeps.ptr2 hn4 (hbox Pt (by omega) (by omega)) (hbox Bx (by omega) (by omega)), ?_⟩
 have ho4 := hob4.trans ho
 have hB4 := (hbox Bx (by omega) (by omega)).trans hB3
 have hT4 := (hbox T (by omega) (by omega)).trans hT3
 rw [Zae, ixOp (by omega) (by omega), Zaa, Int.toNat_natCast]
 refine Zt5 Zuq ho4 hl' (by decide) w4 hro.2 (by omega) hone' fun s5 p5 => ?_
 have n5 := p5.n
 have hB5 := (p5.rest Bx (by omega)).trans hB4
 have hT5 := (p5.rest T (by omega)).trans hT4
 refine Zxm hcl hone hp.c7 hB5 hT5 rfl p5.wf (by omega) fun s6 p6 => hK cs _ (hfin s6 p6.wf (by have := p6.n; omega) (fun X h1 h2 => (p6.rest X h2).trans (p5.rest X h1)) ((p6.rest B.ob (by omega)).trans p5.here) fun b h1 h2 h3 => ?_)
 rw [p6.lo, p5.lo]
 omega
theorem Ydp {m : Nat} (hp : PfAt s W cs B R Q g) (hk : k = 8 ∨ k = 9) (hq : q < Q) (hi : i < 6) (hu : U64s s u nums) (huW : ∀ A o sp n c, u = .slice (some ⟨A, o, sp⟩) n c → A < s.n ∧ ¬ W A) (hm : k = 9 → nums.length = m * 2) (hmb : m < 2 ^ 30) (hW : ∀ A, W A → A < s.n) (hw : Wf s) (hro : ro ≤ s.n ∧ ro ≤ B.ob)
  (hK : ∀ cs' s', StR s W cs' B R Q (updG g k q i nums) s' → K (.agg (.mk cs')) s') : CallWP P ro 50 [.agg (.mk cs), .agg (.mk (Prt.cells ⟨k, q, i, n⟩)), u] s K := by
 refine wStQ hp (by omega) hq hw hro (fun s3 T oc l K' g03 w3 hT hT3 ho hol hcut hl hone h12 hk' => ?_) hK
 have hn0 : (ent s).n = s.n := rfl
 have n3 := g03.n
 have hus : U64s s3 u nums := (Sl.ent hu).grew g03.same
 have hobl := St.at_lt ho
 have ok : OkS R Q k q i := by
  rcases hk with rfl | rfl
  ·exact .row q i hq hi
  ·exact .path q i hq hi
 have hsA : Za2 B k q i = (some B.ob, 13 * q + (if k = 8 then i else 6 + i)) := by
  rcases hk with rfl | rfl
  ·rfl
  ·show (some B.ob, 13 * q + 6 + i) = (some B.ob, 13 * q + (6 + i))
   rw [Nat.add_assoc]
 have hoff : (if k = 8 then i else 6 + i) < 13 := by split <;> omega
 refine Yds hl hone h12 hk hi hus hm hmb w3 (by omega) fun v s4 g4 w4 hv1 hv => ?_
 have n4 := g4.n
 refine hk' _ s4 w4 n4 (fun X _ h2 => g4.same X h2) ((g4.same _ (by omega)).trans (g03.same _ hobl)) (by rw [Za0 (by simp; omega)]; exact hl) (Zfs hone hv1) fun s6 w6 hn6 hs6 ho6 hlo6 => ?_
 rw [Z4s hcut hl (by rw [hol]; have := Nat.mul_le_mul_left 13 hq; omega) hoff] at ho6
 have hold : ∀ X, X < s.n → X ≠ B.ob → s6.at X = s.at X := fun X h1 h2 => (hs6 X h2 (by omega)).trans ((g4.same X (by omega)).trans (g03.same X h1))
 refine StR.of hp.w hw w6 (by omega) (fun X h1 _ h2 _ => hold X h1 h2) (fun b h1 _ h2 _ => hlo6 b ?_ h2 (by omega)) (hp.set (s' := ({ s6 with lo := min s.lo s6.lo } : St)) (vals := [v]) ok (by show s.n ≤ s6.n; omega) (fun A h1 h2 => hold A h1 fun e => h2 (by rw [e]; exact hp.w.2.1)) ?_ (by rw [hsA]) fun A hA c T' hc => ?_)
 ·rw [g4.lo, g03.lo]
  exact h1
 ·unfold SlotW
  rw [if_neg (by omega), if_neg (by omega)]
  refine ⟨v, rfl, ?_⟩
  rcases hv with ⟨rfl, rfl⟩ | ⟨rfl, m', h2, h3, h4⟩
  ·rw [if_pos (by decide)]
   refine ⟨nums.length, by omega, ?_, fun A o sp n c e => ⟨by show A < s6.n; have := (huW A o sp n c e).1; omega, (huW A o sp n c e).2⟩⟩
   refine Sl.sameAt hu fun A o sp n c e => ?_
   have hA := huW A o sp n c e
   exact hold A hA.1 fun e => hA.2 (by rw [e]; exact hp.w.2.1)
  ·rw [if_neg (by decide)]
   refine ⟨m', h2, ?_, fun A o sp n c e => ?_⟩
   ·refine Sl.sameAt h3 fun A o sp n c e => ?_
    have := h4 A o sp n c e
    exact hs6 A (by omega) (by omega)
   ·have := h4 A o sp n c e
    refine ⟨by show A < s6.n; omega, fun hA => ?_⟩
    have := hW A hA
    omega
 ·rw [hsA]
  by_cases hX : A = B.ob
  ·subst hX
   rw [if_pos rfl]
   rw [ho] at hc
   cases hc
   exact ho6
  ·rw [if_neg (by simpa using fun e : B.ob = A => hX e.symm)]
   exact (hold A (St.at_lt hc) hX).trans hc
theorem wStF {m : Nat} (hp : PfAt s W cs B R Q g) (hk : k = 10 ∨ k = 11) (hq : q < Q) (hi : i < R) (hR : R < 2 ^ 20) (hu : U64s s u nums) (huW : ∀ A o sp n c, u = .slice (some ⟨A, o, sp⟩) n c → A < s.n ∧ ¬ W A) (h10 : k = 10 → nums.length = 8) (hm : k = 11 → nums.length = m * 2) (hmb : m < 2 ^ 30) (hW : ∀ A, W A → A < s.n) (hw : Wf s) (hro : ro ≤ s.n ∧ ro ≤ B.ob ∧ ro ≤ B.fb q)
  (hK : ∀ cs' s', StR s W cs' B R Q (updG g k q i nums) s' → K (.agg (.mk cs')) s') : CallWP P ro 50 [.agg (.mk cs), .agg (.mk (Prt.cells ⟨k, q, i, n⟩)), u] s K := by
 refine wStQ hp (by omega) hq hw ⟨hro.1, hro.2.1⟩ (fun s3 T oc l K' g03 w3 hT hT3 ho hol hcut hl hone h12 hk' => ?_) hK
 have hn0 : (ent s).n = s.n := rfl
 have n3 := g03.n
 have hus : U64s s3 u nums := (Sl.ent hu).grew g03.same
 have hobl := St.at_lt ho
 obtain ⟨fc, hf, hfl⟩ := hp.fb q hq
 have hfbl := St.at_lt hf
 have hf3 := (g03.same _ hfbl).trans hf
 have hne := hp.nef q hq
 have hfit : 9 * i + 9 ≤ fc.length := by rw [hfl]; have := Nat.mul_le_mul_left 9 hi; omega
 have ok : OkS R Q k q i := by
  rcases hk with rfl | rfl
  ·exact .leaf q i hq hi
  ·exact .fold q i hq hi
 -- what follows, whatever was written
 have main : ∀ (off : Nat) (s4 : St) (W' : Nat → Prop), Za2 B k q i = (some (B.fb q), off) → (∀ A, W A → W' A) → (∀ A, s.n ≤ A → A < s3.n → W' A) → SetR s3 W' (B.fb q) off fc 114 k nums s4 → min s3.lo (min (B.fb q) s3.n) ≤ s4.lo → K' (.agg (.mk l)) s4 := fun off s4 W' hsA hsub hown r hlr => by
  have n4 := r.n
  refine hk' l s4 r.wf n4 (fun X h1 h2 => r.same X h2 (by omega)) ((r.same _ (by omega) (fun e => hne.2.1 e.symm)).trans (g03.same _ hobl)) hl hone fun s6 w6 hn6 hs6 ho6 hlo6 => ?_
  rw [Z7l hcut hl (by rw [hol]; have := Nat.mul_le_mul_left 13 hq; omega)] at ho6
  obtain ⟨vals, hat, hS⟩ := r.ex
  have hF6 := (hs6 (B.fb q) hne.2.1 (by omega)).trans hat
  have hold : ∀ X, X < s.n → X ≠ B.fb q → s6.at X = s.at X := fun X h1 h2 => by
   by_cases hX : X = B.ob
   ·subst hX
    rw [ho6, ho]
   ·exact (hs6 X hX (by omega)).trans ((r.same X (by omega) h2).trans (g03.same X h1))
  refine StR.of hp.w hw w6 (by omega) (fun X h1 _ _ h2 => hold X h1 (h2 q hq)) (fun b h1 _ h2 h3 => hlo6 b ?_ h2 (by omega)) (hp.set (s' := ({ s6 with lo := min s.lo s6.lo } : St)) (vals := vals) ok (by show s.n ≤ s6.n; omega) (fun A h1 h2 => hold A h1 fun e => h2 (by rw [e]; exact hp.w.2.2 q hq)) ?_ (by rw [hsA]) fun A hA c T' hc => ?_)
  ·have := g03.lo
   have : (ent s).lo = s.n := rfl
   have := h3 q hq
   omega
  ·unfold SlotW at hS ⊢
   rcases hk with rfl | rfl
   ·exact hS
   ·obtain ⟨v, e, hv⟩ := hS
    refine ⟨v, e, hv.up (s' := ({ s6 with lo := min s.lo s6.lo } : St)) (by show s4.n ≤ s6.n; omega) (fun A h1 h2 => hs6 A (fun e => h2 (by rw [e]; exact hsub _ hp.w.2.1)) (fun e => h2 (by rw [e]; exact hown T hT hT3))) hsub⟩
  ·rw [hsA]
   by_cases hX : A = B.fb q
   ·subst hX
    rw [if_pos rfl]
    rw [hf] at hc
    cases hc
    exact hF6
   ·rw [if_neg (by simpa using fun e : B.fb q = A => hX e.symm)]
    exact (hold A (St.at_lt hc) hX).trans hc
 rcases hk with rfl | rfl
 ·exact Ydu (W := fun A => W A ∨ (s.n ≤ A ∧ A < s3.n)) hl hone h12 hi hR hf3 hfit hus (h10 rfl) (fun A o sp n c e he => (huW A o sp n c e).2 (by rw [he]; exact hp.w.2.2 q hq)) w3 ⟨hro.2.2, by omega⟩ fun s4 r hl => main _ s4 _ rfl (fun A h => .inl h) (fun A h1 h2 => .inr ⟨h1, h2⟩) r hl
 ·exact Ydt (W := fun A => W A ∨ (s.n ≤ A ∧ A < s3.n)) hl hone h12 hi hR hf3 hfit hus (hm rfl) hmb w3 ⟨hro.2.2, by omega⟩ (fun A hA => hA.elim (fun hA => by have := hW A hA; omega) fun hA => hA.2) fun s4 r hl => main _ s4 _ rfl (fun A h => .inl h) (fun A h1 h2 => .inr ⟨h1, h2⟩) r hl
end
section
variable {ro : Nat} {s : St} {K : Value → St → Prop} {W : Nat → Prop} {cs : List Value} {B : PfB} {R Q : Nat} {g : Nat → Nat → Nat → List Int} {u : Value} {nums : List Int} {k q i n : Nat}
theorem Yfk (hp : PfAt s W cs B R Q g) (ok : OkS R Q k q i) (hR : R < 2 ^ 20) (hu : U64s s u nums) (huW : ∀ A o sp n c, u = .slice (some ⟨A, o, sp⟩) n c → A < s.n ∧ ¬ W A) (hlen : nums.length < 2 ^ 30) (hln : Z5l k nums) (hW : ∀ A, W A → A < s.n) (hw : Wf s) (hro : ro ≤ s.n ∧ ro ≤ B.rb ∧ ro ≤ B.ob ∧ ∀ j, j < Q → ro ≤ B.fb j)
  (hK : ∀ cs' s', StR s W cs' B R Q (updG g k q i nums) s' → K (.agg (.mk cs')) s') : CallWP P ro 50 [.agg (.mk cs), .agg (.mk (Prt.cells ⟨k, q, i, n⟩)), u] s K := by
 have h2 : nums.length % 2 = 0 → nums.length = (nums.length / 2) * 2 := fun h => by omega
 unfold Z5l at hln
 cases ok with
 | top k hk =>
  rcases hk with rfl | rfl | rfl | rfl | rfl | rfl
  ·exact wSt1 (q := (0 : Nat)) (i := (0 : Nat)) hp hu huW hlen hW hw hro.1 (h2 hln) hK
  ·obtain ⟨y, rfl⟩ : ∃ y, nums = [y] := by
    match nums, hln with
    | [y], _ => exact ⟨y, rfl⟩
   exact wSt2 (q := (0 : Nat)) (i := (0 : Nat)) hp hu huW hlen hW hw hro.1 rfl hK
  ·exact wSt3 (q := (0 : Nat)) (i := (0 : Nat)) hp hu huW hlen hW hw hro.1 (h2 hln) hK
  ·exact wSt4 (q := (0 : Nat)) (i := (0 : Nat)) hp hu huW hlen hW hw hro.1 (h2 hln) hK
  ·exact wSt6 (q := (0 : Nat)) (i := (0 : Nat)) hp hu huW hlen hW hw hro.1 hK
  ·obtain ⟨y, rfl⟩ : ∃ y, nums = [y] := by
    match nums, hln with
    | [y], _ => exact ⟨y, rfl⟩
   exact wSt7 (q := (0 : Nat)) (i := (0 : Nat)) hp hu huW hlen hW hw hro.1 rfl hK
 | round i hi => exact wSt5 (q := (0 : Nat)) hp hi hu (h2 hln) hlen hW hw ⟨hro.1, hro.2.1⟩ hK
 | row q i hq hi => exact Ydp (m := 0) hp (.inl rfl) hq hi hu huW (fun h => by cases h) (by decide) hW hw ⟨hro.1, hro.2.2.1⟩ hK
 | path q i hq hi => exact Ydp hp (.inr rfl) hq hi hu huW (fun _ => h2 hln) (by omega) hW hw ⟨hro.1, hro.2.2.1⟩ hK
 | leaf q i hq hi => exact wStF (m := 0) hp (.inl rfl) hq hi hR hu huW (fun _ => hln) (fun h => by cases h) (by decide) hW hw ⟨hro.1, hro.2.2.1, hro.2.2.2 q hq⟩ hK
 | fold q i hq hi => exact wStF hp (.inr rfl) hq hi hR hu huW (fun h => by cases h) (fun _ => h2 hln) (by omega) hW hw ⟨hro.1, hro.2.2.1, hro.2.2.2 q hq⟩ hK
end
section
variable {ro : Nat} {h : Shp}
theorem Yeg (hv : shV h = true) {s0 s : St} {C Pb O rb ob m0 : Nat} (hw0 : Wf s0) (hro : ro ≤ s0.n) (hI : BlI s0 C Pb O rb ob h (shR h).toNat h.q.toNat m0 0 s) (hne : C ≠ ob ∧ Pb ≠ ob ∧ O ≠ ob ∧ rb ≠ ob ∧ ob < m0 ∧ s0.n ≤ ob)
  {τ : Tau} {ds : List Deferred} {R k0 : WK} {L : List (Nat × WK)} (t2 : τ 2 = ptr C) (t7 : τ 7 = ptr Pb) (t8 : τ 8 = .int .i64 0) (hk : ∀ τ' s', τ' 1 = τ 1 → τ' 2 = ptr C → τ' 4 = τ 4 → τ' 7 = ptr Pb → BlI s0 C Pb O rb ob h (shR h).toNat h.q.toNat m0 h.q.toNat s' → k0 τ' ds s') :
  Zf2 P ro 121 none Zfy τ ds s R ((0, k0) :: L) := by
 have hbd := Z3g hv
 have zv : ∀ (z : Array Value) (n : Nat), (0 < z.toList.length ∧ veqL z.toList z.toList = true) → veqL (Zaz z n) (Zaz z n) = true := Zu2
 have hs2 : ∀ A n c, veq (.slice (some ⟨A, 0, none⟩) n c) (.slice (some ⟨A, 0, none⟩) n c) = true := fun A n c => by simp [veq]
 have hb7 : (Zfz (shR h).toNat h.q.toNat rb ob)[7]? = some (.slice (some ⟨ob, 0, none⟩) h.q.toNat h.q.toNat) := rfl
 refine Zdx Z1c Z01 (fun (i : Nat) τ' ds' s' => i ≤ h.q.toNat ∧ τ' 1 = τ 1 ∧ τ' 2 = ptr C ∧ τ' 4 = τ 4 ∧ τ' 7 = ptr Pb ∧ τ' 8 = .int .i64 i ∧ ds' = ds ∧ BlI s0 C Pb O rb ob h (shR h).toNat h.q.toNat m0 i s') (fun i => h.q.toNat - i) ?_ 0 ⟨by omega, rfl, t2, rfl, t7, t8, rfl, hI⟩
 rintro i τ' ds' s' ⟨hi, a1, a2, a4, a7, a8, rfl, hI⟩
 rw [Z0v]
 unfold Znj
 obtain ⟨fb, oc, ho, hol, hof, hon, hfb⟩ := hI.ex
 have him := hI.m
 have hgn := hI.gr.n
 simp (maxSteps := 10000000) only [wW, reduceCtorEq, Nat.reduceEqDiff, a2, a7, a8, Zc0, Zab, Zan ap_3, Zac hI.sh, shc4, Nat.zero_add]
 by_cases hlt : i < h.q.toNat
 ·rw [if_pos (by omega)]
  simp (maxSteps := 10000000) only [wW, reduceCtorEq, Nat.reduceEqDiff, Zel, Zab, Zan Znt, Zac hI.pb, Nat.zero_add, hb7, hs2, true_and]
  rw [Zah Zc2 hI.sh rfl, Zaa]
  refine ⟨Z24 h, ?_⟩
  rw [Zn3 h hbd.1 hI.wf]
  refine ⟨.refl _, ?_⟩
  refine Zdb Z4v Z7b hI.wf (by omega) (Int.le_refl _) (by omega) (by decide) fun F s7 m7 => ?_
  have e7 := m7.eq
  have n7 := m7.n
  refine ⟨m7.fresh (zv _ _ ⟨by decide, rfl⟩), ?_⟩
  have hix : Zal P 37 (.slice (some ⟨ob, 0, none⟩) h.q.toNat h.q.toNat) (.int .i64 (i : Int)) = some (.pointer (some ⟨ob, i * 13, none⟩)) := by
   simp only [Zal, Yb5, Zuq, Option.bind_some, Zes]
   rw [if_pos ⟨by omega, by omega⟩, Int.toNat_natCast, Nat.zero_add]
  rw [Zae, hix, Zaa]
  simp (maxSteps := 10000000) only [wW, reduceCtorEq, Nat.reduceEqDiff, Zd5]
  have ho7 := (m7.grew.same ob (by omega)).trans ho
  refine Zbc Ybj ho7 m7.wf (by omega) (by omega) rfl fun s8 p8 => ?_
  have n8 := p8.n
  refine ⟨by omega, ?_⟩
  rw [Zaj (by omega) (by omega)]
  refine ⟨i + 1, by omega, by omega, ?_, ?_, ?_, ?_, ?_, ?_⟩
  ·exact a1
  ·exact a2
  ·exact a4
  ·exact a7
  ·rfl
  have g8 : ∀ A, A < s'.n → A ≠ ob → s8.at A = s'.at A := fun A hA hne => (p8.rest A hne).trans (m7.grew.same A hA)
  obtain ⟨co, hO, hO8⟩ := hI.out
  have hsl := St.at_lt hI.sh
  have hpl := St.at_lt hI.pb
  have hrl := St.at_lt hI.rb
  have hol2 := St.at_lt hO
  have hll : (splice oc (i * 13 + 12) [.slice (some ⟨F, 0, none⟩) (shR h).toNat (shR h).toNat]).length = oc.length := Za0 (by simp; omega)
  have hout : ∀ p, p ≠ 13 * i + 12 → (splice oc (i * 13 + 12) [.slice (some ⟨F, 0, none⟩) (shR h).toNat (shR h).toNat])[p]? = oc[p]? := fun p hp => Zb5 (by simp; omega) (by simp; omega)
  refine ⟨p8.wf, p8.grew _ hw0 (hI.gr.trans m7.grew) hne.2.2.2.2.2, (g8 C hsl hne.1).trans hI.sh, (g8 Pb hpl hne.2.1).trans hI.pb, ⟨co, (g8 O hol2 hne.2.2.1).trans hO, hO8⟩, (g8 rb hrl hne.2.2.2.1).trans hI.rb, by omega, fun j => if j = i then F else fb j, _, p8.here, hll.trans hol, fun j hj => ?_, fun p hp hnp => ?_, fun j hj => ?_⟩
  ·dsimp only
   by_cases hji : j = i
   ·subst hji
    rw [if_pos rfl]
    have := Zhh (c := oc) (o := j * 13 + 12) (l := [.slice (some ⟨F, 0, none⟩) (shR h).toNat (shR h).toNat]) (j := 0) (by simp; omega) (by simp)
    rw [Nat.add_zero] at this
    rw [show 13 * j + 12 = j * 13 + 12 by omega, this]; rfl
   ·rw [if_neg hji, hout _ (by omega)]
    exact hof j (by omega)
  ·rw [hout p (hnp i (by omega))]
   exact hon p hp fun j hj => hnp j (by omega)
  ·dsimp only
   by_cases hji : j = i
   ·subst hji
    rw [if_pos rfl]
    refine ⟨(p8.rest F (by omega)).trans m7.here, by omega, fun j2 hj2 he => ?_⟩
    by_cases hj2i : j2 = j
    ·exact hj2i.symm
    ·rw [if_neg hj2i] at he
     obtain ⟨hb, _, _⟩ := hfb j2 (by omega)
     have := St.at_lt hb
     omega
   ·rw [if_neg hji]
    obtain ⟨hb, h1, h2⟩ := hfb j (by omega)
    have hbl := St.at_lt hb
    refine ⟨(g8 _ hbl (by omega)).trans hb, h1, fun j2 hj2 he => ?_⟩
    by_cases hj2i : j2 = i
    ·subst hj2i
     rw [if_pos rfl] at he
     omega
    ·rw [if_neg hj2i] at he
     exact h2 j2 (by omega) he
 ·obtain rfl : i = h.q.toNat := by omega
  rw [if_neg (by omega)]
  refine hk _ s' ?_ ?_ ?_ ?_ hI
  ·exact a1
  ·exact a2
  ·exact a4
  ·exact a7
end
structure KdR (τ τ' : Tau) : Prop where
 a1 : τ' 1 = τ 1
 a2 : τ' 2 = τ 2
 a4 : τ' 4 = τ 4
 a7 : τ' 7 = τ 7
 a10 : τ' 10 = τ 10
 a11 : τ' 11 = τ 11
theorem KdR.refl (τ : Tau) : KdR τ τ := ⟨rfl, rfl, rfl, rfl, rfl, rfl⟩
section
variable {ro : Nat} {h : Shp} {s0 s : St}
theorem rdN {b : List Int} {u v : Value} {C O k0 n p : Nat} {l : List Prt} (hb : ∀ x ∈ b, 0 ≤ x ∧ x < 256) (hbl : b.length < 2 ^ 40) (hC : s.at C = some (.cells h.cells 23 false)) (hO : ∃ c, s.at O = some (.cells c 39 false) ∧ c.length = 8) (hO0 : s0.n ≤ O) (hu : Bys s u b) (hP : PrsS s v l) (hp : p < l.length) (hpn : ∀ hp, (l[p]'hp).n = n) (hw : Wf s) (hg0 : Grew s0 s) (hw0 : Wf s0) (hro0 : ro ≤ s0.n)
  (hkn : 4 * k0 ≤ b.length) (hn : n ≤ 2 ^ 20)
  {τ : Tau} {ds : List Deferred} {Kx k4 : WK} {L : List (Nat × WK)} (t1 : τ 1 = u) (t2 : τ 2 = ptr C) (t4 : τ 4 = ptr O) (t9 : τ 9 = .int .i64 (4 * k0 : Nat)) (t10 : τ 10 = v) (t11 : τ 11 = .int .i64 p) (t12 : τ 12 = .slice none 0 0) (t13 : τ 13 = .int .i64 0)
  (hk : ∀ τ' s' w, KdR τ τ' → τ' 9 = .int .i64 (4 * (k0 + n) : Nat) → τ' 12 = w → 4 * (k0 + n) ≤ b.length → (∀ j, k0 ≤ j → j < k0 + n → rdE b (fP h.f) j = none) → Wf s' → Grew s s' → U64s s' w (Zmm b k0 n) → (∀ A o sp n c, w = .slice (some ⟨A, o, sp⟩) n c → s.n ≤ A ∧ A < s'.n) → k4 τ' ds s')
  (hret : ∀ τ' s' e j, k0 ≤ j → j < k0 + n → (∀ j', k0 ≤ j' → j' < j → rdE b (fP h.f) j' = none) → rdE b (fP h.f) j = some e → τ' 4 = ptr O → τ' 5 = .int .i64 e.1 → τ' 6 = .int .i64 e.2 → Wf s' → Grew s0 s' → s'.at O = some (.cells Zcu 39 false) → Kx τ' ds s') :
  Zf2 P ro 121 none Zb0 τ ds s Kx ((4, k4) :: L) := by
 have hCl := St.at_lt hC
 have hg0n := hg0.n
 obtain ⟨co, hOc, hO8⟩ := hO
 have hOl := St.at_lt hOc
 refine Zdx Zkg Zkc (fun (r : Nat) τ' ds' s' => r ≤ n ∧ KdR τ τ' ∧ τ' 9 = .int .i64 (4 * (k0 + r) : Nat) ∧ τ' 13 = .int .i64 r ∧ ds' = ds ∧ 4 * (k0 + r) ≤ b.length ∧ (∀ j, k0 ≤ j → j < k0 + r → rdE b (fP h.f) j = none) ∧ Wf s' ∧ Grew s s' ∧ ∃ w oA, τ' 12 = w ∧ Own s' w 34 1 r ((Zmm b k0 r).map (.int .u64)) oA ∧ ∀ A, oA = some A → s.n ≤ A) (fun r => n - r) ?_ 0 ⟨by omega, .refl _, t9, t13, rfl, by omega, fun j h1 h2 => by omega, hw, .refl _, .slice none 0 0, none, t12, ⟨rfl, rfl, by simp [Zmm]⟩, fun A e => by cases e⟩
 rintro r τ' ds' s' ⟨hr, kd, a9, a13, rfl, hkr, hgood, w', g', w, oA, a12, hOw, hA⟩
 rw [Zj8]
 unfold Zd0
 have a1 := kd.a1.trans t1
 have a2 := kd.a2.trans t2
 have a4 := kd.a4.trans t4
 have a10 := kd.a10.trans t10
 have a11 := kd.a11.trans t11
 have hgn := g'.n
 have hus : Bys s' u b := Sl.grew hu g'.same
 have hPs : PrsS s' v l := Sl.grew hP g'.same
 have hOs : s'.at O = some (.cells co 39 false) := (g'.same O hOl).trans hOc
 have hCs : s'.at C = some (.cells h.cells 23 false) := (g'.same C hCl).trans hC
 have hFe : ∀ (K : Value → St → Prop), CallWP P ro 21 [.int .i64 h.f] s' K = K (.int .u64 (fP h.f)) s' := fun K => wrP h.f
 obtain ⟨A3, o3, c3, q1, q2, q3⟩ := hPs.ix3 hp
 rw [hpn hp] at q3
 have hln : Za4 P s' 3 (.pointer (some ⟨A3, o3 + 3, none⟩)) = some (.int .i64 n) := by rw [Zan ap_3, q2]; exact q3
 have hlen : ∀ (K : Value → St → Prop) ty, wop P ro (.call ⟨.builtin .len, ⟨[.const u]⟩, #[32]⟩) ty s' K = K (.int .i64 b.length) s' := fun K ty => Sl.wlen hus Zr9 ty K
 rw [a1, a2, a4, a9, a10, a11, a12, a13]
 simp (maxSteps := 10000000) only [wW, reduceCtorEq, Nat.reduceEqDiff]
 rw [Zae, q1, Zaa, Znq, Zaa, Zab, hln, Zaa]
 simp (maxSteps := 10000000) only [wW, reduceCtorEq, Nat.reduceEqDiff]
 by_cases hlt : r < n
 ·rw [if_pos (by omega), hlen]
  simp (maxSteps := 10000000) only [wW, reduceCtorEq, Nat.reduceEqDiff]
  rw [Zaj (n := (b.length : Int) - ((4 * (k0 + r) : Nat) : Int)) (by omega) (by omega)]
  by_cases hsh : (b.length : Int) < 4 * ((k0 + r : Nat) : Int) + 4
  ·rw [if_pos (by omega), bldZ, Zaa, hlen]
   refine Zag Zea hOs (l := Zcu) rfl (by decide) w' (by omega) hO8 rfl fun s3 p3 => ?_
   refine hret _ s3 ((b.length : Int), 5) (k0 + r) (by omega) (by omega) hgood (by unfold rdE; rw [if_pos hsh]) ?_ ?_ ?_ p3.wf (p3.grew _ hw0 (hg0.trans g') hO0) p3.here
   ·simp only [U, Zad, wW, reduceCtorEq, Nat.reduceEqDiff, a4]
   ·simp only [U, Zad, wW, reduceCtorEq, Nat.reduceEqDiff]
   ·simp only [U, Zad, wW, reduceCtorEq, Nat.reduceEqDiff]
  ·rw [if_neg (by omega), Zaj (n := ((4 * (k0 + r) : Nat) : Int) + 1) (by omega) (by omega), Zaj (n := ((4 * (k0 + r) : Nat) : Int) + 2) (by omega) (by omega), Zaj (n := ((4 * (k0 + r) : Nat) : Int) + 3) (by omega) (by omega)]
   have hrd : ∀ i : Nat, i < 4 → ∃ pp, Zal P 32 u (.int .i64 (((4 * (k0 + r) : Nat) : Int) + (i : Int))) = some pp ∧ Za4 P s' 5 pp = some (.int .u8 (byt b (4 * (k0 + r) + i))) := fun i hi => by
    obtain ⟨pp, h1, h2⟩ := hus.ix (i := ((4 * (k0 + r) : Nat) : Int) + (i : Int)) (by omega) (by omega)
    refine ⟨pp, h1, ?_⟩
    rw [h2, show (((4 * (k0 + r) : Nat) : Int) + (i : Int)).toNat = 4 * (k0 + r) + i by omega]
   obtain ⟨p0, b0, l0⟩ := hrd 0 (by decide)
   obtain ⟨p1, b1, l1⟩ := hrd 1 (by decide)
   obtain ⟨p2, b2, l2⟩ := hrd 2 (by decide)
   obtain ⟨p3, b3, l3⟩ := hrd 3 (by decide)
   have b0' : Zal P 32 u (.int .i64 ((4 * (k0 + r) : Nat) : Int)) = some p0 := by rw [← b0]; congr 2
   have b1' : Zal P 32 u (.int .i64 (((4 * (k0 + r) : Nat) : Int) + 1)) = some p1 := b1
   have b2' : Zal P 32 u (.int .i64 (((4 * (k0 + r) : Nat) : Int) + 2)) = some p2 := b2
   have b3' : Zal P 32 u (.int .i64 (((4 * (k0 + r) : Nat) : Int) + 3)) = some p3 := b3
   have y0 := Zhc hb (4 * (k0 + r) + 0)
   have y1 := Zhc hb (4 * (k0 + r) + 1)
   have y2 := Zhc hb (4 * (k0 + r) + 2)
   have y3 := Zhc hb (4 * (k0 + r) + 3)
   have hshl : ∀ (y : Int) (n : Nat), 0 ≤ y → y < 256 → n ≤ 24 → Zbj P .shl .u64 y .u64 (n : Int) = some (.int .u64 (y * 2 ^ n)) := fun y n h0 h1 hn => by
    rw [Zv0 _ _ _ _ (by omega), Int.toNat_natCast, show min n IntKind.u64.bits = n by show min n 64 = n; omega]
    have hp : (2 : Int) ^ n ≤ 2 ^ 24 := by have := Nat.pow_le_pow_right (n := 2) (by decide) hn; exact_mod_cast this
    have hp0 : (0 : Int) < 2 ^ n := Int.pow_pos (by decide)
    rw [Zf3 (Int.mul_nonneg h0 (Int.le_of_lt hp0))]
    have : y * 2 ^ n ≤ 255 * 2 ^ 24 := Int.mul_le_mul (by omega) hp (by omega) (by decide)
    omega
   have z1 : ∀ y : Int, 0 ≤ y ∧ y < 256 → Zbj P .shl .u64 y .u64 8 = some (.int .u64 (y * 2 ^ 8)) := fun y hy => hshl y 8 hy.1 hy.2 (by decide)
   have z2 : ∀ y : Int, 0 ≤ y ∧ y < 256 → Zbj P .shl .u64 y .u64 16 = some (.int .u64 (y * 2 ^ 16)) := fun y hy => hshl y 16 hy.1 hy.2 (by decide)
   have z3 : ∀ y : Int, 0 ≤ y ∧ y < 256 → Zbj P .shl .u64 y .u64 24 = some (.int .u64 (y * 2 ^ 24)) := fun y hy => hshl y 24 hy.1 hy.2 (by decide)
   have hnum : byt b (4 * (k0 + r) + 0) + byt b (4 * (k0 + r) + 1) * 2 ^ 8 + byt b (4 * (k0 + r) + 2) * 2 ^ 16 + byt b (4 * (k0 + r) + 3) * 2 ^ 24 = Znn b (k0 + r) := by
    unfold Znn
    simp only [accB]
    omega
   rw [Zae, b0', Zaa, Zab, l0, Zaa, Zhs, Zf3 (by omega) (by omega)]
   refine ⟨rfl, ?_⟩
   rw [Zae, b1', Zaa, Zab, l1, Zaa, Zhs, Zf3 (by omega) (by omega)]
   refine ⟨rfl, ?_⟩
   rw [Zax, z1 _ y1, Zaa, Zax, Z3j (n := 8) ⟨by omega, by omega⟩ y1.1 (by omega), Zaa, Zae, b2', Zaa, Zab, l2, Zaa, Zhs, Zf3 (by omega) (by omega)]
   refine ⟨rfl, ?_⟩
   rw [Zax, z2 _ y2, Zaa, Zax, Z3j (n := 16) ⟨by omega, by omega⟩ y2.1 (by omega), Zaa, Zae, b3', Zaa, Zab, l3, Zaa, Zhs, Zf3 (by omega) (by omega)]
   refine ⟨rfl, ?_⟩
   rw [Zax, z3 _ y3, Zaa, Zax, Z3j (n := 24) ⟨by omega, by omega⟩ y3.1 (by omega), Zaa, hnum]
   simp (maxSteps := 10000000) only [wW, reduceCtorEq, Nat.reduceEqDiff, Zdi, Zab, Zan ap_3, Zac hCs, shc0, Nat.zero_add]
   rw [hFe]
   simp (maxSteps := 10000000) only [wW, reduceCtorEq, Nat.reduceEqDiff]
   by_cases hge : Znn b (k0 + r) ≥ fP h.f
   ·rw [if_pos hge, bldZ, Zaa]
    refine Zag Zea hOs (l := Zcu) rfl (by decide) w' (by omega) hO8 rfl fun s3 p3 => ?_
    refine hret _ s3 (4 * ((k0 + r : Nat) : Int), 2) (k0 + r) (by omega) (by omega) hgood (by unfold rdE; rw [if_neg hsh, if_pos hge]) ?_ ?_ ?_ p3.wf (p3.grew _ hw0 (hg0.trans g') hO0) p3.here
    ·simp only [U, Zad, wW, reduceCtorEq, Nat.reduceEqDiff, a4]
    ·simp only [U, Zad, wW, reduceCtorEq, Nat.reduceEqDiff, a9]
     congr 1
    ·simp only [U, Zad, wW, reduceCtorEq, Nat.reduceEqDiff]
   ·rw [if_neg hge]
    refine Zb3 Zh1 Zvb w' [.int .u64 (Znn b (k0 + r))] rfl rfl (by decide) (fun v hv => by
     simp only [List.mem_cons, List.not_mem_nil, or_false] at hv
     subst hv
     rfl) fun A6 s6 m6 => ?_
    have n6 := m6.n
    have x6 : Sl s6 (.slice (some ⟨A6, 0, none⟩) 1 1) 1 1 [.int .u64 (Znn b (k0 + r))] := m6.sl rfl
    refine Zf1 Zh1 (by kernel_rfl) Zvb (by decide) (by decide) (hOw.grew m6.grew) x6 (by decide) m6.wf (fun A e => by have := hA A e; omega) (by omega) rfl fun v7 s7 hO7 ap => ?_
    have n7 := ap.n
    have hst : (Zmm b k0 (r + 1)).map (Value.int .u64) = (Zmm b k0 r).map (.int .u64) ++ [.int .u64 (Znn b (k0 + r))] := by rw [Zug, List.map_append]; rfl
    rw [Zaj (n := ((4 * (k0 + r) : Nat) : Int) + 4) (by omega) (by omega), Zaj (n := (r : Int) + 1) (by omega) (by omega)]
    refine ⟨r + 1, by omega, by omega, ⟨?_, ?_, ?_, ?_, ?_, ?_⟩, ?_, ?_, by first | trivial | rfl, by omega, fun j h1 h2 => ?_, ap.wf, ap.grew _ hw (g'.trans m6.grew) hA, v7, some s6.n, ?_, ?_, fun A e => ?_⟩
    ·simp only [U, Zad, wW, reduceCtorEq, Nat.reduceEqDiff, a1, t1]
    ·simp only [U, Zad, wW, reduceCtorEq, Nat.reduceEqDiff, a2, t2]
    ·simp only [U, Zad, wW, reduceCtorEq, Nat.reduceEqDiff, a4, t4]
    ·simp only [U, Zad, wW, reduceCtorEq, Nat.reduceEqDiff, kd.a7]
    ·simp only [U, Zad, wW, reduceCtorEq, Nat.reduceEqDiff, a10, t10]
    ·simp only [U, Zad, wW, reduceCtorEq, Nat.reduceEqDiff, a11, t11]
    ·simp only [U, Zad, wW, reduceCtorEq, Nat.reduceEqDiff]
     congr 1
    ·simp only [U, Zad, wW, reduceCtorEq, Nat.reduceEqDiff]; rfl
    ·by_cases hj : j = k0 + r
     ·subst hj
      unfold rdE
      rw [if_neg hsh, if_neg (by omega)]
     ·exact hgood j h1 (by omega)
    ·simp only [U, Zad, wW, reduceCtorEq, Nat.reduceEqDiff]
    ·rw [hst]; exact hO7
    ·cases e; omega
 ·obtain rfl : r = n := by omega
  rw [if_neg (by omega)]
  have hS := hOw.sl
  refine hk _ s' w ⟨?_, ?_, ?_, ?_, ?_, ?_⟩ ?_ ?_ hkr hgood w' g' ?_ fun A o sp n c e => ?_
  ·simp only [U, Zad, wW, reduceCtorEq, Nat.reduceEqDiff, a1, t1]
  ·simp only [U, Zad, wW, reduceCtorEq, Nat.reduceEqDiff, a2, t2]
  ·simp only [U, Zad, wW, reduceCtorEq, Nat.reduceEqDiff, a4, t4]
  ·simp only [U, Zad, wW, reduceCtorEq, Nat.reduceEqDiff, kd.a7]
  ·simp only [U, Zad, wW, reduceCtorEq, Nat.reduceEqDiff, a10, t10]
  ·simp only [U, Zad, wW, reduceCtorEq, Nat.reduceEqDiff, a11, t11]
  ·simp only [U, Zad, wW, reduceCtorEq, Nat.reduceEqDiff, a9]
  ·simp only [U, Zad, wW, reduceCtorEq, Nat.reduceEqDiff, a12]
  ·unfold U64s
   rw [Zga]
   exact hS
  ·cases oA with
   | none =>
    obtain ⟨e1, _⟩ := hOw
    rw [e1] at e; cases e
   | some A' =>
    obtain ⟨e1, hat, _⟩ := hOw
    rw [e1] at e; cases e
    exact ⟨hA _ rfl, St.at_lt hat⟩
end
section
variable {ro : Nat} {h : Shp} {s0 sL : St}
theorem ddP {b : List Int} {u v : Value} {C O Pb : Nat} {W : Nat → Prop} {B : PfB} {R Q : Nat} {l : List Prt} (hb : ∀ x ∈ b, 0 ≤ x ∧ x < 256) (hbl : b.length < 2 ^ 40) (hC : sL.at C = some (.cells h.cells 23 false)) (hCW : ¬ W C) (hO : ∃ c, sL.at O = some (.cells c 39 false) ∧ c.length = 8) (hOW : ¬ W O) (hO0 : s0.n ≤ O)
  (hu : Bys sL u b) (huW : b ≠ [] → ∀ A o sp n c, u = .slice (some ⟨A, o, sp⟩) n c → A < sL.n ∧ ¬ W A) (hP : PrsS sL v l) (hPW : ∀ A o sp n c, v = .slice (some ⟨A, o, sp⟩) n c → A < sL.n ∧ ¬ W A) (hl : l.length ≤ 2000) (hok : ∀ x ∈ l, PrtZ R Q x) (hR : R < 2 ^ 20)
  (hWp : W Pb) (hBW : W B.rb ∧ W B.ob ∧ ∀ j, j < Q → W (B.fb j)) (hPbne : Pb ≠ B.rb ∧ Pb ≠ B.ob ∧ ∀ j, j < Q → Pb ≠ B.fb j) (hWL : ∀ A, W A → s0.n ≤ A ∧ A < sL.n) (hw0 : Wf s0) (hro0 : ro ≤ s0.n) (hI : DcI s0 sL W O Pb B R Q b (fP h.f) l 0 sL)
  {τ : Tau} {ds : List Deferred} {Kx kx k4 : WK} (t1 : τ 1 = u) (t2 : τ 2 = ptr C) (t4 : τ 4 = ptr O) (t7 : τ 7 = ptr Pb) (t9 : τ 9 = .int .i64 0) (t10 : τ 10 = v) (t11 : τ 11 = .int .i64 0)
  (hk : ∀ τ' s', τ' 1 = u → τ' 4 = ptr O → τ' 7 = ptr Pb → τ' 9 = .int .i64 (4 * (Zb4 b l).1 : Nat) → DcI s0 sL W O Pb B R Q b (fP h.f) l l.length s' → kx τ' ds s')
  (hret : ∀ τ' s' e, errF b (fP h.f) (Zb4 b l).1 0 = some e → τ' 4 = ptr O → τ' 5 = .int .i64 e.1 → τ' 6 = .int .i64 e.2 → Wf s' → Grew s0 s' → s'.at O = some (.cells Zcu 39 false) → Kx τ' ds s') :
  Zf2 P ro 121 none Zdw τ ds sL Kx [(2, kx), (4, k4)] := by
 refine Zdx Ztx Ztw (fun (i : Nat) τ' ds' s' => i ≤ l.length ∧ τ' 1 = u ∧ τ' 2 = ptr C ∧ τ' 4 = ptr O ∧ τ' 7 = ptr Pb ∧ τ' 9 = .int .i64 (4 * (Zb4 b (l.take i)).1 : Nat) ∧ τ' 10 = v ∧ τ' 11 = .int .i64 i ∧ ds' = ds ∧ DcI s0 sL W O Pb B R Q b (fP h.f) l i s') (fun i => l.length - i) ?_ 0 ⟨by omega, t1, t2, t4, t7, by rw [t9]; rfl, t10, t11, rfl, hI⟩
 rintro i τ' ds' s' ⟨hi, a1, a2, a4, a7, a9, a10, a11, rfl, hI'⟩
 rw [Ztv]
 unfold Zif
 have hIn := hI'.n
 have hg0n := hI'.g0.n
 have hOl : O < sL.n := by obtain ⟨c, hc, _⟩ := hO; exact St.at_lt hc
 have hCl := St.at_lt hC
 have hPs : PrsS s' v l := Sl.sameAt hP fun A o sp n c e => hI'.keep A (hPW A o sp n c e).1 (hPW A o sp n c e).2
 rw [a10, a11]
 simp (maxSteps := 10000000) only [wW, reduceCtorEq, Nat.reduceEqDiff]
 rw [Sl.wlen hPs Zis]
 simp (maxSteps := 10000000) only [wW, reduceCtorEq, Nat.reduceEqDiff]
 by_cases hlt : i < l.length
 ·rw [if_pos (by omega)]
  obtain ⟨k, q, ix, n, hx, ok, hn20, hln⟩ := hok l[i] (List.getElem_mem hlt)
  have hkeep : ∀ X, X < sL.n → ¬ W X → s'.at X = sL.at X := hI'.keep
  have hO' : ∃ c, s'.at O = some (.cells c 39 false) ∧ c.length = 8 := by
   obtain ⟨c, hc, h8⟩ := hO
   exact ⟨c, (hkeep O hOl hOW).trans hc, h8⟩
  have hu' : Bys s' u b := Bys.sameAt hu fun b0 X o sp n c e => hkeep X (huW b0 X o sp n c e).1 (huW b0 X o sp n c e).2
  have hst : Zb4 b (l.take (i + 1)) = stepG b (Zb4 b (l.take i)) ⟨k, q, ix, n⟩ := by rw [Zbm (List.getElem?_eq_getElem hlt), Zus, hx]
  have hst1 : (Zb4 b (l.take (i + 1))).1 = (Zb4 b (l.take i)).1 + n := by rw [hst]; rfl
  have hle := Zur b l (i + 1)
  have hk1 := ok.k1
  refine rdN (h := h) (k0 := (Zb4 b (l.take i)).1) (n := n) (p := i) hb hbl ((hkeep C hCl hCW).trans hC) hO' hO0 hu' hPs hlt (fun _ => by rw [hx]) hI'.wf hI'.g0 hw0 hro0 hI'.k (Nat.le_of_lt hn20) ?_ ?_ ?_ ?_ ?_ ?_ ?_ ?_ (fun τ7 s7 w kd c9 c12 hk7 hgood7 w7 g7 hU7 hw7 => ?_) (fun τ7 s7 e j hj1 hj2 hjg hje c4 c5 c6 w7 g7 hO7 => ?_)
  ·simp only [U, Zad, wW, reduceCtorEq, Nat.reduceEqDiff, a1]
  ·simp only [U, Zad, wW, reduceCtorEq, Nat.reduceEqDiff, a2]
  ·simp only [U, Zad, wW, reduceCtorEq, Nat.reduceEqDiff, a4]
  ·simp only [U, Zad, wW, reduceCtorEq, Nat.reduceEqDiff, a9]
  ·simp only [U, Zad, wW, reduceCtorEq, Nat.reduceEqDiff, a10]
  ·simp only [U, Zad, wW, reduceCtorEq, Nat.reduceEqDiff, a11]
  ·simp only [U, Zad, wW, reduceCtorEq, Nat.reduceEqDiff]
  ·simp only [U, Zad, wW, reduceCtorEq, Nat.reduceEqDiff]
  ·have d1 : τ7 1 = u := by rw [kd.a1]; simp only [U, Zad, wW, reduceCtorEq, Nat.reduceEqDiff, a1]
   have d2 : τ7 2 = ptr C := by rw [kd.a2]; simp only [U, Zad, wW, reduceCtorEq, Nat.reduceEqDiff, a2]
   have d4 : τ7 4 = ptr O := by rw [kd.a4]; simp only [U, Zad, wW, reduceCtorEq, Nat.reduceEqDiff, a4]
   have d7 : τ7 7 = ptr Pb := by rw [kd.a7]; simp only [U, Zad, wW, reduceCtorEq, Nat.reduceEqDiff, a7]
   have d10 : τ7 10 = v := by rw [kd.a10]; simp only [U, Zad, wW, reduceCtorEq, Nat.reduceEqDiff, a10]
   have d11 : τ7 11 = .int .i64 i := by rw [kd.a11]; simp only [U, Zad, wW, reduceCtorEq, Nat.reduceEqDiff, a11]
   have hn7 := g7.n
   obtain ⟨cs, hPb, hpf⟩ := hI'.pf
   have hPbl := (hWL Pb hWp).2
   have hPb7 : s7.at Pb = some (.cells cs 39 false) := (g7.same Pb (by omega)).trans hPb
   have hpf7 := hpf.grew g7
   have hPs7 : PrsS s7 v l := Sl.grew hPs g7.same
   obtain ⟨Ax, ox, q1, q2⟩ := hPs7.ix hlt
   rw [hx] at q2
   have hxv : veq (.agg (.mk (Prt.cells ⟨k, q, ix, n⟩))) (.agg (.mk (Prt.cells ⟨k, q, ix, n⟩))) = true := by simp [veq, veqA, veqL, Prt.cells]
   simp (maxSteps := 10000000) only [wW, reduceCtorEq, Nat.reduceEqDiff]
   rw [d7, d10, d11, c12, Zab, Zah Zhy hPb7 hpf7.cl, Zaa]
   refine ⟨hpf7.veq, ?_⟩
   rw [Zae, q1, Zaa, Zab, q2, Zaa]
   refine ⟨hxv, ?_⟩
   have hB0 : s0.n ≤ B.rb ∧ s0.n ≤ B.ob ∧ ∀ j, j < Q → s0.n ≤ B.fb j := ⟨(hWL _ hBW.1).1, (hWL _ hBW.2.1).1, fun j hj => (hWL _ (hBW.2.2 j hj)).1⟩
   refine Yfk hpf7 ok hR hU7 (fun A o sp nn c e => ⟨(hw7 A o sp nn c e).2, fun hA => ?_⟩) (by rw [Zga]; omega) (by unfold Z5l; rw [Zga]; exact hln) (fun A hA => ?_) w7 ⟨by omega, by omega, by omega, fun j hj => by have := hB0.2.2 j hj; omega⟩ fun cs' s8 r => ?_
   ·have := (hw7 A o sp nn c e).1
    rcases hA with hA | hA | hA
    ·have := hWL A hA; omega
    ·omega
    ·omega
   ·rcases hA with hA | hA | hA
    ·have := hWL A hA; omega
    ·omega
    ·omega
   have hn8 := r.n
   have hPb8 : s8.at Pb = some (.cells cs 39 false) := (r.off Pb (by omega) hPbne.1 hPbne.2.1 hPbne.2.2).trans hPb7
   refine Zag Zea hPb8 (l := cs') r.pf.cl (by decide) r.wf (by have := (hWL Pb hWp).1; omega) hpf7.cl r.pf.one fun s9 p9 => ?_
   have n9 := p9.n
   rw [Zax, Zsu Zbp, Zaa, Zaj (n := (i : Int) + 1) (by omega) (by omega)]
   have g08 := r.gr s0 hw0 (hI'.g0.trans g7) hB0
   refine ⟨i + 1, by omega, by omega, ?_, ?_, ?_, ?_, ?_, ?_, ?_, ?_, p9.wf, p9.grew _ hw0 g08 (hWL Pb hWp).1, by omega, fun X h1 h2 => ?_, ⟨cs', p9.here, ?_⟩, by rw [hst1]; omega, fun j hj => ?_⟩
   ·simp only [U, Zad, wW, reduceCtorEq, Nat.reduceEqDiff, d1]
   ·simp only [U, Zad, wW, reduceCtorEq, Nat.reduceEqDiff, d2]
   ·simp only [U, Zad, wW, reduceCtorEq, Nat.reduceEqDiff, d4]
   ·simp only [U, Zad, wW, reduceCtorEq, Nat.reduceEqDiff, d7]
   ·simp only [U, Zad, wW, reduceCtorEq, Nat.reduceEqDiff, c9, hst1]
   ·simp only [U, Zad, wW, reduceCtorEq, Nat.reduceEqDiff, d10]
   ·simp only [U, Zad, wW, reduceCtorEq, Nat.reduceEqDiff]; rfl
   ·first | trivial | rfl
   ·rw [p9.rest X (fun e => h2 (by rw [e]; exact hWp)), r.off X (by omega) (fun e => h2 (by rw [e]; exact hBW.1)) (fun e => h2 (by rw [e]; exact hBW.2.1)) (fun j hj e => h2 (by rw [e]; exact hBW.2.2 j hj)), g7.same X (by omega)]
    exact hkeep X h1 h2
   ·rw [hst]
    exact r.pf.off (X := Pb) (by omega) (fun A hA => p9.rest A hA) (.inl hWp) hPbne.1 hPbne.2.1 hPbne.2.2
   ·rw [hst1] at hj
    by_cases hjj : j < (Zb4 b (l.take i)).1
    ·exact hI'.good j hjj
    ·exact hgood7 j (by omega) hj
  ·refine hret τ7 s7 e (Zs3 (fun j' _ h2 => ?_) hje (by omega) (by omega)) c4 c5 c6 w7 g7 hO7
   by_cases hjj : j' < (Zb4 b (l.take i)).1
   ·exact hI'.good j' hjj
   ·exact hjg j' (by omega) h2
 ·obtain rfl : i = l.length := by omega
  rw [if_neg (by omega)]
  rw [List.take_length] at a9
  refine hk _ s' ?_ ?_ ?_ ?_ hI'
  ·simp only [U, Zad, wW, reduceCtorEq, Nat.reduceEqDiff, a1]
  ·simp only [U, Zad, wW, reduceCtorEq, Nat.reduceEqDiff, a4]
  ·simp only [U, Zad, wW, reduceCtorEq, Nat.reduceEqDiff, a7]
  ·simp only [U, Zad, wW, reduceCtorEq, Nat.reduceEqDiff, a9]
end
end Go.VE
