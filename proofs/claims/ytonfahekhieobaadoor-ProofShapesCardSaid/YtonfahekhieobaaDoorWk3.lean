/-
  What the functions compute.
-/
import Derived.Test.YtonfahekhieobaaDoorWk2
set_option linter.unusedSimpArgs false
set_option linter.unusedVariables false
/- proof.Fits. -/
namespace Go.VE
open Go Go.Proofs
set_option maxRecDepth 20000
section
variable {ro : Nat} {s : St} {K : Value → St → Prop} {W : Nat → Prop} {cs : List Value} {B : PfB} {Q : Nat} {g : Nat → Nat → Nat → List Int}
theorem veqSl (A o : Nat) (sp : Option Nat) (n c : Nat) : veq (.slice (some ⟨A, o, sp⟩) n c) (.slice (some ⟨A, o, sp⟩) n c) = true := by simp [veq]
theorem veqShp (h : Shp) : veq (.agg (.mk h.cells)) (.agg (.mk h.cells)) = true := by simp [veq, veqA, veqL, Shp.cells]
theorem shV_bd {h : Shp} (hv : shV h = true) : (0 ≤ h.a ∧ h.a ≤ 100) ∧ 0 ≤ shR h ∧ shR h ≤ 100 ∧ 1 ≤ h.q ∧ h.q ≤ 64 := by
  have hv' := hv
  unfold shV inR at hv'
  simp only [Bool.and_eq_true, decide_eq_true_eq] at hv'
  have h1 : 0 ≤ h.a ∧ h.a ≤ 100 := by omega
  have h2 : 1 ≤ h.q ∧ h.q ≤ 64 := by omega
  have h3 : 0 ≤ shR h ∧ shR h ≤ 100 := by unfold shR; omega
  exact ⟨h1, h3.1, h3.2, h2.1, h2.2⟩
theorem wFits (h : Shp) (hv : shV h = true) (hp : PfAt s W cs B (shR h).toNat h.q.toNat g) (hg : ∀ k q i, (g k q i).length < 2 ^ 20) (hw : Wf s) (hro : ro ≤ s.n) (hF : FieldsAt s) : CallWP P ro 22 [.agg (.mk h.cells), .agg (.mk cs)] s K = K (.bool (fitsB h g)) s := by
  refine callEq (call_wp b22 rfl ?_) K
  rw [n22]
  unfold v22
  simp (maxSteps := 10000000) only [wW, reduceCtorEq, Nat.reduceEqDiff]
  refine box_rule hw.ent fun C s1 m1 => ?_
  refine box_rule m1.wf fun E s2 m2 => ?_
  have e1 := m1.eq
  have n1 := m1.n
  have e2 := m2.eq
  have n2 := m2.n
  refine alloc_rule ty_4 m2.wf fun T s3 m3 => ?_
  have e3 := m3.eq
  have n3 := m3.n
  have hn0 : (ent s).n = s.n := rfl
  have g03 : Grew (ent s) s3 := (m1.grew.trans m2.grew).trans m3.grew
  have hC3 : s3.at C = some (.cells h.cells 23 false) := ((m2.grew.trans m3.grew).same C (by omega)).trans m1.here
  have hE3 : s3.at E = some (.cells cs 39 false) := (m3.grew.same E (by omega)).trans m2.here
  have hbd := shV_bd hv
  have hp0 : PfAt (ent s) W cs B (shR h).toNat h.q.toNat g := hp.keep (s' := ent s) (Nat.le_refl _) fun _ _ => rfl
  have hp3 := hp0.grew g03
  have hF3 : FieldsAt s3 := FieldsAt.grew (s := ent s) hF g03
  rw [wop_load, load_all ap_23 hC3 rfl, wopt_some]
  refine ⟨veqShp h, ?_⟩
  rw [wHValid h m3.wf (by omega) hF3, hv]
  have hc4 : h.cells[4]? = some (.int .i64 h.q) := rfl
  have hvq : veq (.int .i64 h.q) (.int .i64 h.q) = true := by simp [veq]
  simp (maxSteps := 10000000) only [wW, reduceCtorEq, Nat.reduceEqDiff, wop_load, fa_39_4, load1 ap_35, acells_some hE3, Nat.zero_add, hp.c4, veqSl, true_and, wop_len se_35]
  rw [load_all ap_23 hC3 rfl, wopt_some]
  refine ⟨veqShp h, ?_⟩
  rw [wGRounds h hbd.1 m3.wf]
  refine ⟨.refl _, ?_⟩
  simp (maxSteps := 10000000) only [wW, reduceCtorEq, Nat.reduceEqDiff]
  rw [if_neg (by omega)]
  simp (maxSteps := 10000000) only [wW, reduceCtorEq, Nat.reduceEqDiff, wop_load, fa_39_7, load1 ap_37, acells_some hE3, Nat.zero_add, hp.c7, veqSl, true_and, wop_len se_37, fa_23_4, load1 ap_3, acells_some hC3, hc4, hvq]
  rw [if_neg (by omega)]
  rw [wFoldsOk hC3 hp3 (by omega) hbd.1 (by omega) m3.wf (by omega)]
  simp (maxSteps := 10000000) only [wW, reduceCtorEq, Nat.reduceEqDiff]
  rw [load_all ap_23 hC3 rfl, wopt_some]
  refine wAllFn h m3.wf fun B9 s4 g4 hB9 hB9n => ?_
  have n4 := g4.n
  have w4 := m3.wf.grew g4
  have hB9l := St.at_lt hB9
  refine wrange (by omega) fun t ht => ?_
  have g5 : Grew s4 (s4.new (.defd (some []))) := .new _ _
  generalize hr0 : ({ state := .ready, pending := none, t := t, params := #[32].toList, assign := c22_1110100, body := c22_1110101, defers := s4.n } : Lp) = lp
  have g6 : Grew (s4.new (.defd (some []))) ((s4.new (.defd (some []))).new (.loop lp)) := .new _ _
  have hD6 : ((s4.new (.defd (some []))).new (.loop lp)).at s4.n = some (.defd (some [])) := (g6.same s4.n (Nat.lt_succ_self s4.n)).trans (at_newest _ _)
  have hL6 : ((s4.new (.defd (some []))).new (.loop lp)).at (s4.n + 1) = some (.loop lp) := at_newest (s4.new (.defd (some []))) _
  have w6 : Wf ((s4.new (.defd (some []))).new (.loop lp)) := (w4.new _).new _
  have n6 : ((s4.new (.defd (some []))).new (.loop lp)).n = s4.n + 2 := rfl
  have g46 := g5.trans g6
  have hlp : lp.state = .ready ∧ lp.pending = none ∧ lp.t = t ∧ lp.params = [32] ∧ lp.assign = c22_1110100 ∧ lp.body = c22_1110101 := by rw [← hr0]; exact ⟨rfl, rfl, rfl, rfl, rfl, rfl⟩
  clear hr0
  generalize (s4.new (.defd (some []))).new (.loop lp) = s6 at *
  have g06 := g03.trans (g4.trans g46)
  have g36 := g4.trans g46
  have hlo6 : s6.lo = s.n := g06.lo
  have elp : ({ lp with state := .ready, pending := none } : Lp) = lp := by
    obtain ⟨a, b, _⟩ := hlp
    cases lp
    simp only at a b
    subst a b
    rfl
  have hT3 : s3.at T = some (.cells [.bool false] 4 false) := m3.here
  refine wAllJ (h := h) lp (FtJ (ent s) h cs g C E T (s4.n + 1) s4.n lp) (FtS (ent s) h g T (s4.n + 1) s4.n lp) hv ((g46.same B9 hB9l).trans hB9) (by rw [hlp.2.2.2.1]; rfl) FtJ.cli (by omega) (by omega) (fun i M s' hi hJ => ?_) (M0 := [s4.n + 1]) ?_ ?_ (fun M s' hJ => ?_) (fun s' hS => ?_)
  · refine ftRound ht hlp ?_ ?_ ?_ hp0 hv hg hF (by omega) ⟨by omega, by omega, by omega, by omega, by omega, by omega, by omega, by omega, by omega, by omega⟩ hi hJ
    · simp only [U, tset_eq, wW, reduceCtorEq, Nat.reduceEqDiff]
    · simp only [U, tset_eq, wW, reduceCtorEq, Nat.reduceEqDiff]
    · simp only [U, tset_eq, wW, reduceCtorEq, Nat.reduceEqDiff]
  · refine ⟨w6.ent, by show s.n ≤ s6.n; omega, fun A hA => g06.same A hA, by show s.n ≤ s6.n; omega, hL6, hD6, (g36.same C (by omega)).trans hC3, (g36.same E (by omega)).trans hE3, (g36.same T (by omega)).trans hT3, fun x hx => (by simp at hx), rfl⟩
  · simp only [List.mem_cons, List.not_mem_nil, or_false, not_or]
    omega
  · refine ⟨lp, .normal, hJ.loop, .inl hlp.1, by rw [hlp.2.1]; rfl, ?_⟩
    have wf' : Wf ({ s' with lo := min s6.lo s'.lo } : St) := ⟨by show min s6.lo s'.lo ≤ s'.n; have := hJ.wf.lo; omega, hJ.wf.len⟩
    have pe := Put.mk' wf' (St.at_lt (s := ({ s' with lo := min s6.lo s'.lo } : St)) hJ.loop) (.loop { lp with state := .exhausted })
    generalize ({ s' with lo := min s6.lo s'.lo } : St).put (s4.n + 1) (.loop { lp with state := .exhausted }) = se at pe ⊢
    have hne := pe.n
    have hne' : se.n = s'.n := hne
    have hTe : se.at T = some (.cells [.bool false] 4 false) := (pe.rest T (by omega)).trans hJ.t
    have hDe : se.at s4.n = some (.defd (some [])) := (pe.rest _ (by omega)).trans hJ.dfr
    have hTl := St.at_lt hJ.t
    have hJn : s.n ≤ s'.n := hJ.n
    have hJlo : s.n ≤ s'.lo := hJ.lo
    simp (maxSteps := 10000000) only [U, tset_eq, wW, reduceCtorEq, Nat.reduceEqDiff]
    refine store1_rule isz_4 hTe pe.wf (by omega) (by decide) rfl fun s7 p7 => ?_
    have n7 := p7.n
    have hD7 := (p7.rest s4.n (by omega)).trans hDe
    refine ⟨hD7, by omega, ?_⟩
    have pd := Put.mk' p7.wf (St.at_lt hD7) (.defd none)
    generalize s7.put s4.n (.defd none) = sd at pd ⊢
    have nd := pd.n
    have hTd : sd.at T = some (.cells [.bool true] 4 false) := (pd.rest T (by omega)).trans p7.here
    rw [wdefers_nil, load_one ap_4 hTd rfl, wopt_some]
    have hb : fitsB h g = true := by
      unfold fitsB
      exact List.all_eq_true.2 fun x hx => hJ.good x (by rw [List.take_length]; exact hx)
    refine fin_flat rfl ⟨by omega, ?_, fun A hA => ?_, fun _ => pd.wf.len⟩ ⟨by rw [hb], rfl⟩
    · rw [pd.lo, p7.lo, pe.lo]
      show min (min (min (min s6.lo s'.lo) (s4.n + 1)) T) s4.n = s.n
      omega
    · have hA' : A < s.n := hA
      rw [pd.rest A (by omega), p7.rest A (by omega), pe.rest A (by omega)]
      exact hJ.same A hA
  · refine ⟨_, .ret, hS.loop, .inr rfl, rfl, ?_⟩
    have wf' : Wf ({ s' with lo := min s6.lo s'.lo } : St) := ⟨by show min s6.lo s'.lo ≤ s'.n; have := hS.wf.lo; omega, hS.wf.len⟩
    have pe := Put.mk' wf' (St.at_lt (s := ({ s' with lo := min s6.lo s'.lo } : St)) hS.loop) (.loop { lp with state := .exhausted, pending := some .ret })
    generalize ({ s' with lo := min s6.lo s'.lo } : St).put (s4.n + 1) (.loop { lp with state := .exhausted, pending := some .ret }) = se at pe ⊢
    have hne := pe.n
    have hne' : se.n = s'.n := hne
    have hTe : se.at T = some (.cells [.bool false] 4 false) := (pe.rest T (by omega)).trans hS.t
    have hDe : se.at s4.n = some (.defd (some [])) := (pe.rest _ (by omega)).trans hS.dfr
    have hJn : s.n ≤ s'.n := hS.n
    have hJlo : s.n ≤ s'.lo := hS.lo
    simp only [thenW, outs_ret]
    rw [r22]
    simp (maxSteps := 10000000) only [U, tset_eq, wW, reduceCtorEq, Nat.reduceEqDiff]
    refine ⟨hDe, by omega, ?_⟩
    have pd := Put.mk' pe.wf (St.at_lt hDe) (.defd none)
    generalize se.put s4.n (.defd none) = sd at pd ⊢
    have nd := pd.n
    have hTd : sd.at T = some (.cells [.bool false] 4 false) := (pd.rest T (by omega)).trans hTe
    rw [wdefers_nil, wop_load, load_one ap_4 hTd rfl, wopt_some]
    refine fin_flat rfl ⟨by omega, ?_, fun A hA => ?_, fun _ => pd.wf.len⟩ ⟨by rw [hS.bad], rfl⟩
    · rw [pd.lo, pe.lo]
      show min (min (min s6.lo s'.lo) (s4.n + 1)) s4.n = s.n
      omega
    · have hA' : A < s.n := hA
      rw [pd.rest A (by omega), pe.rest A (by omega)]
      exact hS.same A hA
end
end Go.VE
/- Numbers as bytes. -/
namespace Go.VE
open Go Go.Proofs
set_option maxRecDepth 20000
def leB (x : Int) (j : Nat) : Int := IntKind.u8.wrap (x.fdiv (2 ^ min (8 * j) 64))
def leN (x : Int) (r : Nat) : List Int := (List.range r).map (leB x)
theorem leN_succ (x : Int) (r : Nat) : leN x (r + 1) = leN x r ++ [leB x r] := by
  unfold leN
  rw [List.range_succ, List.map_append]; rfl
theorem leN_len (x : Int) (r : Nat) : (leN x r).length = r := by unfold leN; simp
def encL (l : List Int) : List Int := l.flatMap fun x => leN x 4
theorem encL_snoc (l : List Int) (x : Int) : encL (l ++ [x]) = encL l ++ leN x 4 := by unfold encL; rw [List.flatMap_append]; simp
theorem encL_len : ∀ l : List Int, (encL l).length = 4 * l.length
  | [] => rfl
  | x :: l => by
    have ih := encL_len l
    unfold encL at ih ⊢
    rw [List.flatMap_cons, List.length_append, leN_len, ih, List.length_cons]
    omega
def encP (g : Nat → Nat → Nat → List Int) (l : List Prt) : List Int := l.flatMap fun x => encL (gOf g x)
theorem encP_snoc (g : Nat → Nat → Nat → List Int) (l : List Prt) (x : Prt) : encP g (l ++ [x]) = encP g l ++ encL (gOf g x) := by unfold encP; rw [List.flatMap_append]; simp
section
variable {ro : Nat} {s : St} {K : Value → St → Prop}
theorem conv_u64_u8 (x : Int) (ty : TypeId) (s : St) (K : Value → St → Prop) : wop P ro (.convert 34 5 (.const (.int .u64 x))) ty s K = K (.int .u8 (IntKind.u8.wrap x)) s := by kernel_rfl
theorem append_inB {A m c : Nat} {cs : List Value} {x : Value} {y : Int} (hA : s.at A = some (.cells cs 5 false)) (hw : Wf s) (hro : ro ≤ A) (hx : Sl s x 1 1 [.int .u8 y]) (hm : m + 1 ≤ c) (hc : cs.length = c) {ty : TypeId}
    (hk : ∀ s', Put s A (.cells (splice cs m [.int .u8 y]) 5 false) s' → K (.slice (some ⟨A, 0, none⟩) (m + 1) c) s') : wop P ro (.call ⟨.builtin .append, ⟨[.const (.slice (some ⟨A, 0, none⟩) m c), .const x]⟩, #[32, 32]⟩) ty s K := by
  obtain ⟨i, hi, his, hib, hz, hf, hzs⟩ := tyOk_spec ty_5
  obtain ⟨ha, hfst⟩ := hx.first
  rw [wop_append]
  have e1 : aappend P ro s #[32, 32] [.slice (some ⟨A, 0, none⟩) m c, x] = some (.slice (some ⟨A, 0, none⟩) (m + 1) c, s.put A (.cells (splice cs m [.int .u8 y]) 5 false)) := by
    have hni : notInt P 32 = true := by kernel_rfl
    simp only [aappend, se_32, hni, hi, ha, his, hfst, Option.bind_some, aappendTo]
    rw [if_pos hm, Nat.zero_add, Nat.mul_one, awrite_some hA hro (by simp) (by simp; omega) rfl]
    rfl
  rw [e1]
  exact hk _ (.mk' hw (St.at_lt hA) _)
structure EnI (s0 : St) (A X cap : Nat) (acc : List Int) (s : St) : Prop where
  wf : Wf s
  n : s0.n ≤ s.n
  rest : ∀ B, B < s0.n → B ≠ A → B ≠ X → s.at B = s0.at B
  lo : min s0.lo (min A X) ≤ s.lo
  a : ∃ c, s.at A = some (.cells c 5 false) ∧ c.length = cap ∧ c.take acc.length = acc.map (.int .u8) ∧ ∀ y ∈ c, ∃ z, y = .int .u8 z
  x : s.at X = some (.cells [.slice (some ⟨A, 0, none⟩) acc.length cap] 32 false)
  ne : A ≠ X ∧ A < s0.n ∧ X < s0.n
structure KeE (τ τ' : Tau) : Prop where
  a6 : τ' 6 = τ 6
  a28 : τ' 28 = τ 28
  a29 : τ' 29 = τ 29
  a30 : τ' 30 = τ 30
  a9 : τ' 9 = τ 9
theorem KeE.refl (τ : Tau) : KeE τ τ := ⟨rfl, rfl, rfl, rfl, rfl⟩
theorem EnI.byte {s0 : St} {A X cap : Nat} {acc : List Int} {y : Int} (h : EnI s0 A X cap acc s) (hc : acc.length + 1 ≤ cap) (hro : ro ≤ A ∧ ro ≤ X) {K : Value → Value → St → Prop} {ty ty' : TypeId}
    (hk : ∀ v w s', EnI s0 A X cap (acc ++ [y]) s' → K v w s') :
    wop P ro (.buildSlice 32 1 ⟨[(0, .const (.int .u8 y))]⟩) ty s fun v s1 => FreshOk s s1 ∧ wop P ro (.call ⟨.builtin .append, ⟨[.const (.slice (some ⟨A, 0, none⟩) acc.length cap), .const v]⟩, #[32, 32]⟩) ty' s1 fun w s2 => s1.n ≤ s2.n ∧ wop P ro (.store 32 (.const (ptr X)) (.const w)) 0 s2 fun _ s3 => s2.n ≤ s3.n ∧ K v w s3 := by
  obtain ⟨c, hA, hcl, hct, hcu⟩ := h.a
  have hAl := St.at_lt hA
  have hXl := St.at_lt h.x
  obtain ⟨hne, hA0, hX0⟩ := h.ne
  refine buildSlice_rule se_32 ty_5 h.wf [.int .u8 y] rfl rfl (by decide) (fun v hv => by
    simp only [List.mem_cons, List.not_mem_nil, or_false] at hv
    subst hv
    rfl) fun Z s1 m1 => ?_
  have n1 := m1.n
  refine ⟨m1.fresh (by simp [veqL, veq, Value.cells]), ?_⟩
  have x1 : Sl s1 (.slice (some ⟨Z, 0, none⟩) 1 1) 1 1 [.int .u8 y] := m1.sl rfl
  refine append_inB ((m1.grew.same A hAl).trans hA) m1.wf hro.1 x1 hc hcl fun s2 p2 => ?_
  have n2 := p2.n
  refine ⟨by omega, ?_⟩
  have hX2 := (p2.rest X (fun e => hne e.symm)).trans ((m1.grew.same X hXl).trans h.x)
  refine store1_rule isz_32 hX2 p2.wf hro.2 (by simp) rfl fun s3 p3 => ?_
  have n3 := p3.n
  refine ⟨by omega, hk _ _ s3 ⟨p3.wf, by have := h.n; omega, fun B h1 h2 h3 => ?_, ?_, ⟨_, (p3.rest A hne).trans p2.here, ?_, ?_, fun z hz => ?_⟩, ?_, h.ne⟩⟩
  · have hn := h.n
    rw [p3.rest B h3, p2.rest B h2, m1.grew.same B (by omega)]
    exact h.rest B h1 h2 h3
  · rw [p3.lo, p2.lo, m1.grew.lo]
    have := h.lo
    omega
  · rw [splice_length (by simp; omega)]; exact hcl
  · rw [List.length_append, List.length_singleton, List.map_append, ← hct]
    exact splice_front (l := [.int .u8 y]) (by simp; omega)
  · unfold splice at hz
    rcases List.mem_append.1 hz with hz | hz
    · exact hcu z (List.mem_of_mem_take hz)
    · rcases List.mem_append.1 hz with hz | hz
      · simp only [List.mem_cons, List.not_mem_nil, or_false] at hz
        exact ⟨y, hz⟩
      · exact hcu z (List.mem_of_mem_drop hz)
  · rw [p3.here, List.length_append]; rfl
theorem enc4 {s0 : St} {A X cap : Nat} {acc : List Int} {x : Int} (hI : EnI s0 A X cap acc s) (hc : acc.length + 4 ≤ cap) (hro : ro ≤ A ∧ ro ≤ X) {rnd : Option Nat}
    {τ : Tau} {ds : List Deferred} {R k4 : WK} {L : List (Nat × WK)} (t6 : τ 6 = ptr X) (t9 : τ 9 = .int .u64 x) (t34 : τ 34 = .int .i64 0) (hk : ∀ τ' s', KeE τ τ' → EnI s0 A X cap (acc ++ leN x 4) s' → k4 τ' ds s') :
    WLoop P ro 48 rnd c23_1110101010011001100 τ ds s R ((4, k4) :: L) := by
  refine wloop l23_1110101010011001100 m23_1110101010011001100 (fun (r : Nat) τ' ds' s' => r ≤ 4 ∧ KeE τ τ' ∧ τ' 34 = .int .i64 r ∧ ds' = ds ∧ EnI s0 A X cap (acc ++ leN x r) s') (fun r => 4 - r) ?_ 0 ⟨by omega, .refl _, t34, rfl, by unfold leN; simpa using hI⟩
  rintro r τ' ds' s' ⟨hr, ke, a34, rfl, hI'⟩
  rw [n23_1110101010011001100]
  unfold v23_1110101010011001100
  have a6 := ke.a6.trans t6
  have a9 := ke.a9.trans t9
  have hll : (acc ++ leN x r).length = acc.length + r := by rw [List.length_append, leN_len]
  simp (maxSteps := 10000000) only [wW, reduceCtorEq, Nat.reduceEqDiff, a34, a6, a9]
  by_cases hlt : r < 4
  · rw [if_pos (by omega)]
    rw [wop_load, load_one ap_32 hI'.x rfl, wopt_some]
    refine ⟨by simp [veq], ?_⟩
    have hsh : abinInt P .shr .u64 x .i64 (8 * (r : Int)) = some (.int .u64 (x.fdiv (2 ^ min (8 * r) 64))) := by
      rw [int_shr _ _ _ _ (by omega)]
      have : (8 * (r : Int)).toNat = 8 * r := by omega
      rw [this]; rfl
    rw [wrap_i64 (by omega) (by omega), hsh, wopt_some, conv_u64_u8]
    refine ⟨rfl, by simp [veq], ?_⟩
    refine EnI.byte (y := leB x r) hI' (by omega) hro fun v w s3 hI3 => ?_
    rw [wrap_i64 (by omega) (by omega)]
    refine ⟨r + 1, by omega, by omega, ⟨?_, ?_, ?_, ?_, ?_⟩, ?_, by first | trivial | rfl, ?_⟩
    · simp only [U, tset_eq, wW, reduceCtorEq, Nat.reduceEqDiff, a6, t6]
    · simp only [U, tset_eq, wW, reduceCtorEq, Nat.reduceEqDiff, ke.a28]
    · simp only [U, tset_eq, wW, reduceCtorEq, Nat.reduceEqDiff, ke.a29]
    · simp only [U, tset_eq, wW, reduceCtorEq, Nat.reduceEqDiff, ke.a30]
    · simp only [U, tset_eq, wW, reduceCtorEq, Nat.reduceEqDiff, a9, t9]
    · simp only [U, tset_eq, wW, reduceCtorEq, Nat.reduceEqDiff]; rfl
    · rw [leN_succ, ← List.append_assoc]; exact hI3
  · obtain rfl : r = 4 := by omega
    rw [if_neg (by omega)]
    refine hk _ s' ⟨?_, ?_, ?_, ?_, ?_⟩ hI'
    · simp only [U, tset_eq, wW, reduceCtorEq, Nat.reduceEqDiff, ke.a6]
    · simp only [U, tset_eq, wW, reduceCtorEq, Nat.reduceEqDiff, ke.a28]
    · simp only [U, tset_eq, wW, reduceCtorEq, Nat.reduceEqDiff, ke.a29]
    · simp only [U, tset_eq, wW, reduceCtorEq, Nat.reduceEqDiff, ke.a30]
    · simp only [U, tset_eq, wW, reduceCtorEq, Nat.reduceEqDiff, ke.a9]
end
end Go.VE
/- The numbers of a part as bytes; how many bytes there are. -/
namespace Go.VE
open Go Go.Proofs
set_option maxRecDepth 20000
def sumN : List Prt → Nat
  | [] => 0
  | x :: l => x.n.toNat + sumN l
theorem sumN_le {l : List Prt} {m : Nat} (h : ∀ x ∈ l, x.n.toNat ≤ m) : sumN l ≤ l.length * m := by
  induction l with
  | nil => simp [sumN]
  | cons x l ih =>
    have h1 := h x List.mem_cons_self
    have h2 := ih fun y hy => h y (List.mem_cons_of_mem _ hy)
    simp only [sumN, List.length_cons, Nat.add_mul, Nat.one_mul]
    omega
theorem sumN_keep : ∀ l : List Prt, sumN (keepP l) = sumN l
  | [] => rfl
  | x :: l => by
    have ih := sumN_keep l
    unfold keepP at ih ⊢
    rw [List.filter_cons]
    by_cases hx : x.n = 0
    · rw [if_neg (by simpa using hx), ih]
      simp [sumN, hx]
    · rw [if_pos (by simpa using hx)]
      simp only [sumN, ih]
theorem sizeW_sum {l : List Prt} (h : ∀ x ∈ l, 0 ≤ x.n) (hb : 4 * sumN l < 2 ^ 60) : sizeW l = 4 * sumN l := by
  have main : ∀ (l : List Prt) (a : Int), 0 ≤ a → (∀ x ∈ l, 0 ≤ x.n) → a + 4 * sumN l < 2 ^ 61 → l.foldl (fun a p => IntKind.i64.wrap (a + IntKind.i64.wrap (4 * p.n))) a = a + 4 * sumN l := by
    intro l
    induction l with
    | nil => intro a _ _ _; simp [sumN]
    | cons x l ih =>
      intro a ha hx hb
      have hx0 := hx x List.mem_cons_self
      simp only [sumN] at hb
      rw [List.foldl_cons, wrap_i64 (n := 4 * x.n) (by omega) (by omega), wrap_i64 (by omega) (by omega), ih _ (by omega) (fun y hy => hx y (List.mem_cons_of_mem _ hy)) (by omega)]
      simp only [sumN]
      omega
  unfold sizeW
  rw [main l 0 (by omega) h (by omega)]
  omega
theorem encP_len {g : Nat → Nat → Nat → List Int} {f : Int} : ∀ {l : List Prt}, (∀ x ∈ l, fitX f g x = true) → (encP g l).length = 4 * sumN l
  | [], _ => rfl
  | x :: l, h => by
    have ih := encP_len fun y hy => h y (List.mem_cons_of_mem _ hy)
    have hx := h x List.mem_cons_self
    unfold fitX at hx
    simp only [Bool.and_eq_true, decide_eq_true_eq] at hx
    unfold encP at ih ⊢
    rw [List.flatMap_cons, List.length_append, encL_len, ih]
    simp only [sumN]
    omega
theorem encP_take (g : Nat → Nat → Nat → List Int) (l : List Prt) (i : Nat) : (encP g (l.take i)).length ≤ (encP g l).length := by
  conv => rhs; rw [← List.take_append_drop i l]
  unfold encP
  rw [List.flatMap_append, List.length_append]
  omega
theorem PrtZ.n0 {R Q : Nat} {x : Prt} (h : PrtZ R Q x) : 0 ≤ x.n ∧ x.n.toNat ≤ 2 ^ 20 := by
  obtain ⟨k, q, i, n, rfl, _, h, _⟩ := h
  exact ⟨by show (0 : Int) ≤ n; omega, by show (n : Int).toNat ≤ _; omega⟩
theorem size_bound {h : Shp} (hv : shV h = true) : 4 * sumN (partsR h) < 2 ^ 34 := by
  have h1 := partsR_len hv
  have h2 := sumN_le (l := partsR h) (m := 2 ^ 20) fun x hx => (partsR_ok hv x hx).n0.2
  have h3 : (partsR h).length * 2 ^ 20 ≤ 2000 * 2 ^ 20 := Nat.mul_le_mul_right _ h1
  omega
theorem size_sum {h : Shp} (hv : shV h = true) : sizeM h = 4 * sumN (partsR h) := by
  unfold sizeM
  rw [if_pos hv, sizeW_sum (fun x hx => (partsR_ok hv x hx).n0.1) (by have := size_bound hv; omega)]
theorem size_enc {h : Shp} {g : Nat → Nat → Nat → List Int} (hv : shV h = true) (hf : fitsB h g = true) : sizeM h = ((encP g (partsAll h)).length : Int) := by
  rw [size_sum hv, encP_len (List.all_eq_true.1 hf), ← partsAll_keep hv, sumN_keep]
  push_cast; rfl
theorem U64s.keep {s s' : St} {v : Value} {l : List Int} (h : U64s s v l) (hs : ∀ A c T op, s.at A = some (.cells c T op) → (∃ y, Value.int .u64 y ∈ c) → s'.at A = s.at A) : U64s s' v l := by
  obtain ⟨a, c, hv, hl, hx, hb⟩ := h
  refine ⟨a, c, hv, hl, hx, fun hn => ?_⟩
  obtain ⟨A, o, m, cells, t, op, ha, hm, hA, hc⟩ := hb hn
  refine ⟨A, o, m, cells, t, op, ha, hm, (hs A cells t op hA ?_).trans hA, hc⟩
  cases l with
  | nil => simp at hn
  | cons y l =>
    refine ⟨y, ?_⟩
    have : Value.int .u64 y ∈ (cells.drop o).take ((y :: l).length * 1) := by rw [hc]; exact List.mem_cons_self
    exact List.mem_of_mem_drop (List.mem_of_mem_take this)
end Go.VE
/- proof.Encode: a part. -/
namespace Go.VE
open Go Go.Proofs
set_option maxRecDepth 20000
section
variable {ro : Nat} {s : St} {K : Value → St → Prop}
theorem encLs {s0 : St} {A X cap : Nat} {acc l : List Int} {v : Value} (hI : EnI s0 A X cap acc s0) (hU : U64s s0 v l) (hl : l.length < 2 ^ 30) (hc : acc.length + 4 * l.length ≤ cap) (hro : ro ≤ A ∧ ro ≤ X) {rnd : Option Nat}
    {τ : Tau} {ds : List Deferred} {R k2 k4 : WK} (t6 : τ 6 = ptr X) (t28 : τ 28 = v) (t29 : τ 29 = .int .i64 l.length) (t30 : τ 30 = .int .i64 0) (hk : ∀ τ' s', EnI s0 A X cap (acc ++ encL l) s' → k2 τ' ds s') :
    WLoop P ro 48 rnd c23_11101010100 τ ds s0 R [(2, k2), (4, k4)] := by
  obtain ⟨c0, hA0, _, _, hcu0⟩ := hI.a
  have hX0 := hI.x
  refine wloop l23_11101010100 m23_11101010100 (fun (i : Nat) τ' ds' s' => i ≤ l.length ∧ τ' 6 = ptr X ∧ τ' 28 = v ∧ τ' 29 = .int .i64 l.length ∧ τ' 30 = .int .i64 i ∧ ds' = ds ∧ EnI s0 A X cap (acc ++ encL (l.take i)) s') (fun i => l.length - i) ?_ 0 ⟨by omega, t6, t28, t29, t30, rfl, by simpa [encL] using hI⟩
  rintro i τ' ds' s' ⟨hi, a6, a28, a29, a30, rfl, hI'⟩
  rw [n23_11101010100]
  unfold v23_11101010100
  simp (maxSteps := 10000000) only [wW, reduceCtorEq, Nat.reduceEqDiff, a28, a29, a30]
  by_cases hlt : i < l.length
  · rw [if_pos (by omega)]
    have hU' : U64s s' v l := hU.keep fun B c T op hB hm => hI'.rest B (St.at_lt hB) (fun e => by
      subst e
      rw [hA0] at hB
      cases hB
      obtain ⟨y, hy⟩ := hm
      obtain ⟨z, hz⟩ := hcu0 _ hy
      cases hz) (fun e => by
      subst e
      rw [hX0] at hB
      cases hB
      obtain ⟨y, hy⟩ := hm
      simp at hy)
    obtain ⟨A5, o5, q1, q2, _⟩ := Sl.ix hU' (by decide) (show (0 : Int) ≤ i by omega) (show (i : Int) < l.length by omega)
    have q2' := q2 0 (by decide)
    rw [Nat.add_zero, Nat.add_zero, Nat.mul_one, Int.toNat_natCast, List.getElem?_map, List.getElem?_eq_getElem hlt] at q2'
    have hld : aload P s' 34 (.pointer (some ⟨A5, o5, none⟩)) = some (.int .u64 l[i]) := by
      rw [load1 ap_34]
      exact q2'
    rw [wop_indexAddr, q1 se_36 isz_34, wopt_some, wop_load, hld, wopt_some]
    have hll : (acc ++ encL (l.take i)).length = acc.length + 4 * i := by rw [List.length_append, encL_len, List.length_take]; omega
    have hIs : EnI s' A X cap (acc ++ encL (l.take i)) s' := ⟨hI'.wf, Nat.le_refl _, fun _ _ _ _ => rfl, Nat.min_le_left _ _, hI'.a, hI'.x, hI'.ne.1, by have := hI'.ne.2.1; have := hI'.n; omega, by have := hI'.ne.2.2; have := hI'.n; omega⟩
    refine enc4 (x := l[i]) hI' (by omega) hro ?_ ?_ ?_ fun τ2 s2 ke h2 => ?_
    · simp only [U, tset_eq, wW, reduceCtorEq, Nat.reduceEqDiff, a6]
    · simp only [U, tset_eq, wW, reduceCtorEq, Nat.reduceEqDiff]
    · simp only [U, tset_eq, wW, reduceCtorEq, Nat.reduceEqDiff]
    have c6 : τ2 6 = ptr X := by rw [ke.a6]; simp only [U, tset_eq, wW, reduceCtorEq, Nat.reduceEqDiff, a6]
    have c28 : τ2 28 = v := by rw [ke.a28]; simp only [U, tset_eq, wW, reduceCtorEq, Nat.reduceEqDiff, a28]
    have c29 : τ2 29 = .int .i64 l.length := by rw [ke.a29]; simp only [U, tset_eq, wW, reduceCtorEq, Nat.reduceEqDiff, a29]
    have c30 : τ2 30 = .int .i64 i := by rw [ke.a30]; simp only [U, tset_eq, wW, reduceCtorEq, Nat.reduceEqDiff, a30]
    simp (maxSteps := 10000000) only [wW, reduceCtorEq, Nat.reduceEqDiff, c30]
    rw [wrap_i64 (by omega) (by omega)]
    refine ⟨i + 1, by omega, by omega, ?_, ?_, ?_, ?_, by first | trivial | rfl, ?_⟩
    · simp only [U, tset_eq, wW, reduceCtorEq, Nat.reduceEqDiff, c6]
    · simp only [U, tset_eq, wW, reduceCtorEq, Nat.reduceEqDiff, c28]
    · simp only [U, tset_eq, wW, reduceCtorEq, Nat.reduceEqDiff, c29]
    · simp only [U, tset_eq, wW, reduceCtorEq, Nat.reduceEqDiff]; rfl
    · rw [take_succ_eq (List.getElem?_eq_getElem hlt), encL_snoc, ← List.append_assoc]
      exact h2
  · obtain rfl : i = l.length := by omega
    rw [if_neg (by omega)]
    rw [List.take_length] at hI'
    exact hk _ s' hI'
structure EcJ (s0 : St) (h : Shp) (cs : List Value) (g : Nat → Nat → Nat → List Int) (C E A X L D cap : Nat) (r0 : Lp) (i : Nat) (M : List Nat) (s : St) : Prop where
  wf : Wf s
  n : s0.n ≤ s.n
  same : ∀ B, B < s0.n → s.at B = s0.at B
  lo : s0.n ≤ s.lo
  loop : s.at L = some (.loop r0)
  dfr : s.at D = some (.defd (some []))
  c : s.at C = some (.cells h.cells 23 false)
  e : s.at E = some (.cells cs 39 false)
  a : ∃ c, s.at A = some (.cells c 5 false) ∧ c.length = cap ∧ c.take (encP g ((partsAll h).take i)).length = (encP g ((partsAll h).take i)).map (.int .u8) ∧ ∀ y ∈ c, ∃ z, y = .int .u8 z
  x : s.at X = some (.cells [.slice (some ⟨A, 0, none⟩) (encP g ((partsAll h).take i)).length cap] 32 false)
  m : M = [L, A, X]
theorem EcJ.cli {s0 : St} {h : Shp} {cs : List Value} {g : Nat → Nat → Nat → List Int} {C E A X L D cap : Nat} {r0 : Lp} : Cli L r0 (EcJ s0 h cs g C E A X L D cap r0) where
  loop := fun h => h.loop
  wf := fun h => h.wf
  lt := fun h B hB => by
    rw [h.m] at hB
    obtain ⟨c, hc, _⟩ := h.a
    simp only [List.mem_cons, List.not_mem_nil, or_false] at hB
    rcases hB with rfl | rfl | rfl
    · exact St.at_lt h.loop
    · exact St.at_lt hc
    · exact St.at_lt h.x
  grew := fun h g w => by
    have e : ∀ A o, _ = some o → _ = some o := fun A o he => (g.same A (St.at_lt he)).trans he
    have hn := h.n
    obtain ⟨c, hc, hc2⟩ := h.a
    exact ⟨w, Nat.le_trans h.n g.n, fun A hA => (g.same A (by omega)).trans (h.same A hA), by rw [g.lo]; exact h.lo, e _ _ h.loop, e _ _ h.dfr, e _ _ h.c, e _ _ h.e, ⟨c, e _ _ hc, hc2⟩, e _ _ h.x, h.m⟩
variable {W : Nat → Prop} {cs : List Value} {B : PfB} {g : Nat → Nat → Nat → List Int} {h : Shp}
theorem ecRound {s0 s' : St} {C E A X L D : Nat} {lp : Lp} {t : Tr} {τ : Tau} (ht : Agr 48 t τ) (hlp : lp.state = .ready ∧ lp.pending = none ∧ lp.t = t ∧ lp.params = [20] ∧ lp.assign = c23_1110100 ∧ lp.body = c23_1110101)
    (t3 : τ 3 = ptr E) (t6 : τ 6 = ptr X) (hp : PfAt s0 W cs B (shR h).toNat h.q.toNat g) (hv : shV h = true) (hg : ∀ k q i, (g k q i).length < 2 ^ 20) (hro : ro ≤ s0.n)
    (hne : s0.n ≤ C ∧ s0.n ≤ E ∧ s0.n ≤ A ∧ s0.n ≤ X ∧ s0.n ≤ L ∧ s0.n ≤ D) (hd : C ≠ L ∧ E ≠ L ∧ A ≠ L ∧ X ≠ L ∧ D ≠ L ∧ A ≠ X ∧ C ≠ A ∧ C ≠ X ∧ E ≠ A ∧ E ≠ X ∧ D ≠ A ∧ D ≠ X) {i : Nat} {M : List Nat} (hi : i < (partsAll h).length) (hJ : EcJ s0 h cs g C E A X L D (encP g (partsAll h)).length lp i M s') :
    RoundWP P ro L (setAll lp.t lp.params [.agg (.mk ((partsAll h)[i]).cells)]) lp.assign lp.body s' fun v s2 => (v = .bool true ∧ s2.lo ≤ L ∧ ∃ M', EcJ s0 h cs g C E A X L D (encP g (partsAll h)).length lp (i + 1) M' s2 ∧ Step M s' M' s2) ∨ (v = .bool false ∧ s2.lo ≤ L ∧ False) := by
  rw [hlp.2.2.1, hlp.2.2.2.1, hlp.2.2.2.2.1, hlp.2.2.2.2.2]
  have hLl := St.at_lt hJ.loop
  have hCl := St.at_lt hJ.c
  have hEl := St.at_lt hJ.e
  have hXl := St.at_lt hJ.x
  have hDl := St.at_lt hJ.dfr
  have hJn := hJ.n
  obtain ⟨ca, hA, hcl, hct, hcu⟩ := hJ.a
  have hAl := St.at_lt hA
  obtain ⟨d1, d2, d3, d4, d5, d6, d7, d8, d9, d10, d11, d12⟩ := hd
  obtain ⟨k, q, ix, n, hx, ok, hn20, hln⟩ := partsAll_ok hv (partsAll h)[i] (List.getElem_mem hi)
  have hgx : gOf g (partsAll h)[i] = g k q ix := by rw [hx]; rfl
  have hst : encP g ((partsAll h).take (i + 1)) = encP g ((partsAll h).take i) ++ encL (g k q ix) := by rw [take_succ_eq (List.getElem?_eq_getElem hi), encP_snoc, hgx]
  have hcap := encP_take g (partsAll h) (i + 1)
  rw [hst, List.length_append, encL_len] at hcap
  refine round_wp (N := 48) (Agr.set ht 20 _ (by decide)) l23_1110100 l23_1110101 (by omega) ?_
  rw [n23_1110100]
  unfold v23_1110100
  simp (maxSteps := 10000000) only [U, tset_eq, wW, reduceCtorEq, Nat.reduceEqDiff, hx]
  refine alloc_rule ty_30 hJ.wf fun E4 s4 m4 => ?_
  have e4 := m4.eq
  have n4 := m4.n
  refine storeAll_rule isz_30 m4.here (l := Prt.cells ⟨k, q, ix, n⟩) rfl (by decide) m4.wf (by omega) rfl rfl fun s5 p5 => ?_
  have n5 := p5.n
  have g5 : Grew s' s5 := p5.grew _ hJ.wf m4.grew (by omega)
  have hL5 := (g5.same _ hLl).trans hJ.loop
  refine ⟨lp, hL5, hlp.1, ?_⟩
  have pb := Put.mk' p5.wf (St.at_lt hL5) (.loop { lp with state := .busy })
  generalize s5.put L (.loop { lp with state := .busy }) = sb at pb ⊢
  have nb := pb.n
  rw [n23_1110101]
  unfold v23_1110101
  have hE4 : sb.at E4 = some (.cells (Prt.cells ⟨k, q, ix, n⟩) 30 false) := (pb.rest E4 (by omega)).trans p5.here
  have hoth : ∀ A, A < s'.n → A ≠ L → sb.at A = s'.at A := fun A h1 h2 => (pb.rest A h2).trans (g5.same A h1)
  have hEb := (hoth E hEl d2).trans hJ.e
  have hold : ∀ A, A < s0.n → sb.at A = s0.at A := fun A hA => (hoth A (by omega) (by omega)).trans (hJ.same A hA)
  have hpb : PfAt sb W cs B (shR h).toNat h.q.toNat g := hp.keep (by omega) hold
  have hx0 : (Prt.cells ⟨k, q, ix, n⟩)[0]? = some (.int .u8 k) := rfl
  have hki : veq (.int .u8 (k : Int)) (.int .u8 (k : Int)) = true := by simp [veq]
  have hxv : veq (.agg (.mk (Prt.cells ⟨k, q, ix, n⟩))) (.agg (.mk (Prt.cells ⟨k, q, ix, n⟩))) = true := by simp [veq, veqA, veqL, Prt.cells]
  have hvf : ∀ f, veq (fnV f) (fnV f) = true := fun f => by simp [veq, veqA, veqL]
  simp (maxSteps := 10000000) only [U, tset_eq, wW, reduceCtorEq, Nat.reduceEqDiff, t3, fa_30_0, wop_load, load1 ap_28, acells_some hE4, Nat.zero_add, hx0, hki, true_and]
  rw [load_all ap_30 hE4 rfl, wopt_some]
  refine ⟨hxv, ?_⟩
  refine wPlaces pb.wf fun Ap s8 g8 w8 hAp => ?_
  refine ⟨g8.keeps, ?_⟩
  have hn8 := g8.n
  have hk1 := ok.k1
  have hpix : aindexAddr P 84 (.slice (some ⟨Ap, 0, none⟩) 12 12) (.int .u8 (k : Int)) = some (ptrO Ap k) := by
    simp only [aindexAddr, un_84, isz_83, Option.bind_some, aplace]
    rw [if_pos ⟨by omega, by omega⟩, Int.toNat_natCast, Nat.mul_one, Nat.zero_add]
  have hE8 := (g8.same E (by omega)).trans hEb
  have hp8 := hpb.grew g8
  obtain ⟨f, hf, hcall⟩ := wPl (ro := ro) (n := n) hE8 hp8 ok w8 (by omega)
  rw [wop_indexAddr, hpix, wopt_some, load1 ap_83, acells_some hAp, Option.bind_some, hf, wopt_some]
  refine ⟨hvf f, ?_⟩
  show CallWP P ro f [ptr E, .agg (.mk (Prt.cells ⟨k, q, ix, n⟩))] s8 _
  refine hcall _ fun s9 g9 w9 => ?_
  have hn9 := g9.n
  have g89 := g8.trans g9
  have hE9 := (g89.same E (by omega)).trans hEb
  have hp9 := hpb.grew g89
  obtain ⟨c, hc, hfit, hS⟩ := hp9.at hE9 ok
  refine wGet hk1 hc hfit hS (hg k q ix) w9 (by omega) fun v sx gx hU => ?_
  have wx := w9.grew gx
  have nx := gx.n
  have gbx := g89.trans gx
  have hothx : ∀ A, A < s'.n → A ≠ L → sx.at A = s'.at A := fun A h1 h2 => (gbx.same A (by omega)).trans (hoth A h1 h2)
  have hLx := (gbx.same L (by omega)).trans pb.here
  have hlo : sx.lo = min s'.lo L := by rw [gbx.lo, pb.lo, g5.lo]
  have hJlo := hJ.lo
  have hI : EnI sx A X (encP g (partsAll h)).length (encP g ((partsAll h).take i)) sx := ⟨wx, Nat.le_refl _, fun _ _ _ _ => rfl, Nat.min_le_left _ _, ⟨ca, (hothx A hAl d3).trans hA, hcl, hct, hcu⟩, (hothx X hXl d4).trans hJ.x, d6, by omega, by omega⟩
  rw [Sl.wlen hU se_36]
  refine encLs hI hU (by have := hg k q ix; omega) hcap ⟨by omega, by omega⟩ ?_ ?_ ?_ ?_ fun τ7 s7 h7 => ?_
  · simp only [U, tset_eq, wW, reduceCtorEq, Nat.reduceEqDiff, t6]
  · simp only [U, tset_eq, wW, reduceCtorEq, Nat.reduceEqDiff]
  · simp only [U, tset_eq, wW, reduceCtorEq, Nat.reduceEqDiff]
  · simp only [U, tset_eq, wW, reduceCtorEq, Nat.reduceEqDiff]
  rw [← hst] at h7
  have n7 := h7.n
  have hL7 := (h7.rest L (by omega) (fun e => d3 e.symm) (fun e => d4 e.symm)).trans hLx
  obtain ⟨c7, hA7, hcl7, hct7, hcu7⟩ := h7.a
  refine ⟨_, hL7, .inl ⟨rfl, ?_, [L, A, X], ?_, ?_⟩⟩
  · show min s7.lo L ≤ L
    exact Nat.min_le_right _ _
  · have elp : ({ lp with state := .ready, pending := none } : Lp) = lp := by
      obtain ⟨a, b, _⟩ := hlp
      cases lp
      simp only at a b
      subst a b
      rfl
    have pf := Put.mk' h7.wf (St.at_lt hL7) (.loop lp)
    show EcJ s0 h cs g C E A X L D (encP g (partsAll h)).length lp (i + 1) _ (s7.put L (.loop { lp with state := .ready, pending := none }))
    rw [elp]
    generalize s7.put L (.loop lp) = sf at pf ⊢
    have nf := pf.n
    have hfin : ∀ B, B < s'.n → B ≠ L → B ≠ A → B ≠ X → sf.at B = s'.at B := fun B h1 h2 h3 h4 => by
      rw [pf.rest B h2, h7.rest B (by omega) h3 h4]
      exact hothx B h1 h2
    refine ⟨pf.wf, by omega, fun B hB => ?_, ?_, pf.here, ?_, ?_, ?_, ⟨c7, (pf.rest A d3).trans hA7, hcl7, hct7, hcu7⟩, (pf.rest X d4).trans h7.x, rfl⟩
    · rw [hfin B (by omega) (by omega) (by omega) (by omega)]
      exact hJ.same B hB
    · rw [pf.lo]
      have := h7.lo
      omega
    · rw [hfin D hDl d5 d11 d12]; exact hJ.dfr
    · rw [hfin C hCl d1 d7 d8]; exact hJ.c
    · rw [hfin E hEl d2 d9 d10]; exact hJ.e
  · have nf : (s7.put L (.loop { lp with state := if (jumpOf .normal).isNone = true then .ready else .done, pending := jumpOf .normal })).n = s7.n := rfl
    rw [hJ.m]
    refine ⟨by rw [nf]; omega, fun B hA1 hA2 => ?_, fun B hA1 => .inl hA1⟩
    simp only [List.mem_cons, List.not_mem_nil, or_false, not_or] at hA2
    rw [at_put' _ _ _ _ (St.at_lt hL7) h7.wf.len, if_neg hA2.1, h7.rest B (by omega) hA2.2.1 hA2.2.2]
    exact hothx B hA1 hA2.1
end
end Go.VE
/- proof.Encode. -/
namespace Go.VE
open Go Go.Proofs
set_option maxRecDepth 20000
theorem zeroU8 {y : Value} {n : Nat} (h : y ∈ zeroList (Value.int .u8 0).cells n) : y = .int .u8 0 := by
  unfold zeroList at h
  obtain ⟨i, _, rfl⟩ := List.mem_map.1 h
  show ([Value.int .u8 0] : List Value).getD (i % 1) default = _
  rw [Nat.mod_one]; rfl
section
variable {ro : Nat} {s : St} {K : Value → St → Prop} {W : Nat → Prop} {cs : List Value} {B : PfB} {g : Nat → Nat → Nat → List Int} {h : Shp}
theorem wEncOk (hv : shV h = true) (hp : PfAt s W cs B (shR h).toNat h.q.toNat g) (hcl : cs.length = 8) (hg : ∀ k q i, (g k q i).length < 2 ^ 20) (hb : fitsB h g = true) (hw : Wf s) (hro : ro ≤ s.n) (hF : FieldsAt s)
    (hk : ∀ A s', Grew s s' → s.n ≤ A → Bys s' (.slice (some ⟨A, 0, none⟩) (encP g (partsAll h)).length (encP g (partsAll h)).length) (encP g (partsAll h)) → K (.tuple (.mk [.slice (some ⟨A, 0, none⟩) (encP g (partsAll h)).length (encP g (partsAll h)).length, .int .i64 0])) s') :
    CallWP P ro 23 [.agg (.mk h.cells), .agg (.mk cs)] s K := by
  refine call_wp b23 rfl ?_
  rw [n23]
  unfold v23
  simp (maxSteps := 10000000) only [wW, reduceCtorEq, Nat.reduceEqDiff]
  refine box_rule hw.ent fun C s1 m1 => ?_
  refine box_rule m1.wf fun E s2 m2 => ?_
  have e1 := m1.eq
  have n1 := m1.n
  have e2 := m2.eq
  have n2 := m2.n
  have hn0 : (ent s).n = s.n := rfl
  have g02 := m1.grew.trans m2.grew
  have hC2 : s2.at C = some (.cells h.cells 23 false) := (m2.grew.same C (by omega)).trans m1.here
  have hE2 : s2.at E = some (.cells cs 39 false) := m2.here
  have hp0 : PfAt (ent s) W cs B (shR h).toNat h.q.toNat g := hp.keep (s' := ent s) (Nat.le_refl _) fun _ _ => rfl
  have hF2 : FieldsAt s2 := FieldsAt.grew (s := ent s) hF g02
  rw [wop_load, load_all ap_23 hC2 rfl, wopt_some, wop_load, load_all ap_39 hE2 hcl, wopt_some, wFits h hv (hp0.grew g02) hg m2.wf (by omega) hF2, hb]
  simp (maxSteps := 10000000) only [wW, reduceCtorEq, Nat.reduceEqDiff]
  rw [wop_load, load_all ap_23 hC2 rfl, wopt_some, wGSize h m2.wf (by omega) hF2, size_enc hv hb]
  have hsz := size_bound hv
  have hse := size_enc (g := g) hv hb
  rw [size_sum hv] at hse
  refine makeLC_rule se_32 ty_5 m2.wf (by decide) (by omega) (by omega) (by decide) fun A s3 m3 => ?_
  have e3 := m3.eq
  have n3 := m3.n
  rw [Int.toNat_natCast] at m3 ⊢
  refine alloc_rule ty_32 m3.wf fun X s4 m4 => ?_
  have e4 := m4.eq
  have n4 := m4.n
  refine store1_rule isz_32 m4.here m4.wf (by omega) (by decide) rfl fun s5 p5 => ?_
  have n5 := p5.n
  have g24 := m3.grew.trans m4.grew
  have g25 : Grew s2 s5 := p5.grew _ m2.wf g24 (by omega)
  have g05 := g02.trans g25
  have hC5 := (g25.same C (by omega)).trans hC2
  have hE5 := (g25.same E (by omega)).trans hE2
  have hA5 := (p5.rest A (by omega)).trans ((m4.grew.same A (by omega)).trans m3.here)
  have hX5 := p5.here
  rw [wop_load, load_all ap_23 hC5 rfl, wopt_some]
  refine wAllFn h p5.wf fun B9 s6 g6 hB9 hB9n => ?_
  have n6 := g6.n
  have w6 := p5.wf.grew g6
  have hB9l := St.at_lt hB9
  refine wrange (by omega) fun t ht => ?_
  have g7 : Grew s6 (s6.new (.defd (some []))) := .new _ _
  generalize hr0 : ({ state := .ready, pending := none, t := t, params := #[20].toList, assign := c23_1110100, body := c23_1110101, defers := s6.n } : Lp) = lp
  have g8 : Grew (s6.new (.defd (some []))) ((s6.new (.defd (some []))).new (.loop lp)) := .new _ _
  have hD8 : ((s6.new (.defd (some []))).new (.loop lp)).at s6.n = some (.defd (some [])) := (g8.same s6.n (Nat.lt_succ_self s6.n)).trans (at_newest _ _)
  have hL8 : ((s6.new (.defd (some []))).new (.loop lp)).at (s6.n + 1) = some (.loop lp) := at_newest (s6.new (.defd (some []))) _
  have w8 : Wf ((s6.new (.defd (some []))).new (.loop lp)) := (w6.new _).new _
  have n8 : ((s6.new (.defd (some []))).new (.loop lp)).n = s6.n + 2 := rfl
  have g68 := g7.trans g8
  have hlp : lp.state = .ready ∧ lp.pending = none ∧ lp.t = t ∧ lp.params = [20] ∧ lp.assign = c23_1110100 ∧ lp.body = c23_1110101 := by rw [← hr0]; exact ⟨rfl, rfl, rfl, rfl, rfl, rfl⟩
  clear hr0
  generalize (s6.new (.defd (some []))).new (.loop lp) = s8 at *
  have g58 := g6.trans g68
  have g08 := g05.trans g58
  have hlo8 : s8.lo = s.n := g08.lo
  refine wAllJ (h := h) lp (EcJ (ent s) h cs g C E A X (s6.n + 1) s6.n (encP g (partsAll h)).length lp) (fun _ => False) hv ((g68.same B9 hB9l).trans hB9) (by rw [hlp.2.2.2.1]; rfl) EcJ.cli (by omega) (by omega) (fun i M s' hi hJ => ?_) (M0 := [s6.n + 1, A, X]) ?_ ?_ (fun M s' hJ => ?_) (fun s' hS => hS.elim)
  · refine ecRound ht hlp ?_ ?_ hp0 hv hg (by omega) ⟨by omega, by omega, by omega, by omega, by omega, by omega⟩ ⟨by omega, by omega, by omega, by omega, by omega, by omega, by omega, by omega, by omega, by omega, by omega, by omega⟩ hi hJ
    · simp only [U, tset_eq, wW, reduceCtorEq, Nat.reduceEqDiff]
    · simp only [U, tset_eq, wW, reduceCtorEq, Nat.reduceEqDiff]
  · refine ⟨w8.ent, by show s.n ≤ s8.n; omega, fun A hA => g08.same A hA, by show s.n ≤ s8.n; omega, hL8, hD8, (g58.same C (by omega)).trans hC5, (g58.same E (by omega)).trans hE5, ⟨_, (g58.same A (by omega)).trans hA5, ?_, ?_, fun y hy => ?_⟩, (g58.same X (by omega)).trans hX5, rfl⟩
    · rw [zeroList_len]; exact Nat.mul_one _
    · simp [encP]
    · exact ⟨0, zeroU8 hy⟩
  · simp only [List.mem_cons, List.not_mem_nil, or_false, not_or]
    exact ⟨by omega, by omega, by omega⟩
  · refine ⟨lp, .normal, hJ.loop, .inl hlp.1, by rw [hlp.2.1]; rfl, ?_⟩
    have wf' : Wf ({ s' with lo := min s8.lo s'.lo } : St) := ⟨by show min s8.lo s'.lo ≤ s'.n; have := hJ.wf.lo; omega, hJ.wf.len⟩
    have pe := Put.mk' wf' (St.at_lt (s := ({ s' with lo := min s8.lo s'.lo } : St)) hJ.loop) (.loop { lp with state := .exhausted })
    generalize ({ s' with lo := min s8.lo s'.lo } : St).put (s6.n + 1) (.loop { lp with state := .exhausted }) = se at pe ⊢
    have hne := pe.n
    have hne' : se.n = s'.n := hne
    have hXe := (pe.rest X (by omega)).trans hJ.x
    have hDe : se.at s6.n = some (.defd (some [])) := (pe.rest _ (by omega)).trans hJ.dfr
    have hJn : s.n ≤ s'.n := hJ.n
    have hJlo : s.n ≤ s'.lo := hJ.lo
    obtain ⟨c, hA, hcl', hct, _⟩ := hJ.a
    rw [List.take_length] at hct hXe
    have hAe := (pe.rest A (by omega)).trans hA
    simp (maxSteps := 10000000) only [U, tset_eq, wW, reduceCtorEq, Nat.reduceEqDiff]
    rw [wop_load, load_one ap_32 hXe rfl, wopt_some]
    refine ⟨hDe, by omega, ?_⟩
    have pd := Put.mk' pe.wf (St.at_lt hDe) (.defd none)
    generalize se.put s6.n (.defd none) = sd at pd ⊢
    have nd := pd.n
    have hAd := (pd.rest A (by omega)).trans hAe
    have hlod : sd.lo = s.n := by
      rw [pd.lo, pe.lo]
      show min (min (min s8.lo s'.lo) (s6.n + 1)) s6.n = s.n
      omega
    rw [wdefers_nil]
    refine wfin_new hw ⟨by omega, hlod, fun A hA => ?_, fun _ => pd.wf.len⟩ rfl fun s9 g9 hn9 hat9 => hk A s9 g9 (by omega) ?_
    · have hA' : A < s.n := hA
      rw [pd.rest A (by omega), pe.rest A (by omega)]
      exact hJ.same A hA
    · refine ⟨_, _, rfl, by rw [List.length_map, Nat.mul_one], ⟨Nat.le_refl _, fun h => (by cases h), fun x hx => by cases hx; exact .inl rfl⟩, fun _ => ⟨A, 0, none, c, _, _, rfl, rfl, (hat9 A).trans hAd, ?_⟩⟩
      rw [List.drop_zero, Nat.mul_one]
      exact hct
end
end Go.VE
/- Bytes as a text; equality. -/
namespace Go.VE
open Go Go.Proofs
set_option maxRecDepth 20000
theorem wop_eql_of {P : Program} [Memo] {ro : Nat} {t r ty : TypeId} {xs ys : List Value} {c : Bool} (hx : flatL xs = true) (hy : flatL ys = true) (hg : P.eqGuardType P.depth t = false) (h : runPure P (Op.equal t (.agg (.mk xs)) (.agg (.mk ys))) = some c) {s : St} {K : Value → St → Prop} :
    wop P ro (.binOp .eql t (.const (.agg (.mk xs))) (.const (.agg (.mk ys))) r) ty s K = K (.bool c) s := by
  have e : apure P .e (mkO (.binOp .eql t (.const (.agg (.mk xs))) (.const (.agg (.mk ys))) r) ty) = some (.val (.bool c)) := by
    unfold apure
    have e2 : runPure P (execOp (aval .e) (mkO (.binOp .eql t (.const (.agg (.mk xs))) (.const (.agg (.mk ys))) r) ty)) = some (Next.value (.bool c)) := by
      show runPure P ((do eqGuard .eql t (.const (.agg (.mk xs))) (.const (.agg (.mk ys))) (.agg (.mk xs)) (.agg (.mk ys)); binOp .eql t (.agg (.mk xs)) (.agg (.mk ys))) >>= fun v => pure (Next.value v)) = _
      rw [rp_bind, rp_bind]
      have e3 : runPure P (eqGuard .eql t (.const (.agg (.mk xs))) (.const (.agg (.mk ys))) (.agg (.mk xs)) (.agg (.mk ys))) = some () := by
        show runPure P (if (!P.eqGuardType P.depth t) = true then pure () else _) = _
        rw [hg]; rfl
      rw [e3]
      simp only [Option.bind_some]
      show (runPure P (Op.equal t (.agg (.mk xs)) (.agg (.mk ys)) >>= fun b => pure (Value.bool b))).bind _ = _
      rw [rp_bind, h]
      rfl
    rw [e2]
    rfl
  have hf : ∀ l : List Value, flatL l = true → flat' (.agg (.mk l)) = true := fun l hl => by
    show (false || flatL l) = true
    rw [hl]; rfl
  show wfol P ro K (abin P .e (mkO (.binOp .eql t (.const (.agg (.mk xs))) (.const (.agg (.mk ys))) r) ty) s .eql t (.agg (.mk xs)) (.agg (.mk ys))) = _
  simp only [abin, hf xs hx, hf ys hy, Bool.and_self, cond_true, e]
  rfl
section
variable {ro : Nat} {s : St} {K : Value → St → Prop}
theorem unStr : P.underlying 9 = some .string := by kernel_rfl
theorem wop_eql_str (a b : ByteArray) (r ty : TypeId) : wop P ro (.binOp .eql 9 (.const (.string a)) (.const (.string b)) r) ty s K = K (.bool (a.toList == b.toList)) s := by
  have e : apure P .e (mkO (.binOp .eql 9 (.const (.string a)) (.const (.string b)) r) ty) = some (.val (.bool (a.toList == b.toList))) := rfl
  show wfol P ro K (abin P .e (mkO (.binOp .eql 9 (.const (.string a)) (.const (.string b)) r) ty) s .eql 9 (.string a) (.string b)) = _
  have hf : ∀ b : ByteArray, flat' (.string b) = true := fun _ => rfl
  simp only [abin, hf, Bool.and_self, cond_true, e]
  rfl
theorem u8s_map : ∀ l : List Int, u8s (l.map (.int .u8)) = some l
  | [] => rfl
  | x :: l => by
    show (u8s (l.map (.int .u8))).map (x :: ·) = _
    rw [u8s_map l]; rfl
theorem conv_str {A o n c : Nat} {sp : Option Nat} {l : List Int} (h : Bys s (.slice (some ⟨A, o, sp⟩) n c) l) (ty : TypeId) : wop P ro (.convert 32 9 (.const (.slice (some ⟨A, o, sp⟩) n c))) ty s K = K (strOf l) s := by
  have hn : n = l.length := by
    obtain ⟨a, c', e, _⟩ := h
    cases e; rfl
  subst hn
  obtain ⟨_, hf⟩ := Sl.first h
  have u1 : P.underlying 32 = some (.slice 5) := un_32
  have u2 : isU8 P 5 = true := by kernel_rfl
  show wfol P ro K (aconv P .e (mkO (.convert 32 9 (.const (.slice (some ⟨A, o, sp⟩) l.length c))) ty) s 32 9 (.slice (some ⟨A, o, sp⟩) l.length c)) = _
  simp only [aconv, u1, unStr, u2, cond_true]
  rw [wfol_with]
  unfold astr
  rw [hf, Option.bind_some, u8s_map]
  rfl
theorem eql_bytes (l : List Int) (r ty : TypeId) : wop P ro (.binOp .eql 9 (.const (strOf l)) (.const (strOf l)) r) ty s K = K (.bool true) s := by
  unfold strOf
  rw [wop_eql_str]
  have : ∀ l : List UInt8, (l == l) = true := fun l => beq_self_eq_true l
  rw [this]
end
end Go.VE
/- The example that every law of proofs looks at: attestorlaw17.awake. -/
namespace Go.VE
open Go Go.Proofs
set_option maxRecDepth 20000
def tinyS : Shp := ⟨0, 2, 1, 1, 2, 0, 1, 0, 1⟩
def tinyB (i : Nat) (x : Int) : List Int := (List.replicate 176 (0 : Int)).set i x
theorem tiny_v : shV tinyS = true := by decide +kernel
theorem tiny_17 : (partsR tinyS).length = 17 := by decide +kernel
theorem tiny_p0 : (partsR tinyS)[0]? = some ⟨1, 0, 0, 4⟩ := by kernel_rfl
theorem tiny_p3 : (partsR tinyS)[3]? = some ⟨6, 0, 0, 4⟩ := by kernel_rfl
theorem tiny_p8 : (partsR tinyS)[8]? = some ⟨9, 0, 1, 4⟩ := by kernel_rfl
theorem tiny_size : sizeM tinyS = 176 := by decide +kernel
noncomputable def tinyG : Nat → Nat → Nat → List Int := (goneG (tinyB 4 7) (partsR tinyS)).2
theorem tiny_dec : decE (tinyB 4 7) (fP 0) (goneG (tinyB 4 7) (partsR tinyS)).1 = (0, 0) := by decide +kernel
theorem tiny_fits : fitsB tinyS tinyG = true := by decide +kernel
theorem tiny_enc : encP tinyG (partsAll tinyS) = tinyB 4 7 := by decide +kernel
theorem tiny_dig : tinyG 1 0 0 = [0, 7, 0, 0] := by decide +kernel
theorem tinyB_ok (i : Nat) {x : Int} (hx : 0 ≤ x ∧ x < 256) : ∀ y ∈ tinyB i x, 0 ≤ y ∧ y < 256 := fun y hy => by
  rcases List.mem_or_eq_of_mem_set hy with h | rfl
  · rw [List.eq_of_mem_replicate h]; decide
  · exact hx
theorem tinyB_len (i : Nat) (x : Int) : (tinyB i x).length = 176 := by unfold tinyB; rw [List.length_set, List.length_replicate]
theorem goneG_len {b : List Int} {l : List Prt} (h : ∀ x ∈ l, x.n.toNat < 2 ^ 20) (k q i : Nat) : ((goneG b l).2 k q i).length < 2 ^ 20 := by
  have main : ∀ (l : List Prt) (kg : Nat × (Nat → Nat → Nat → List Int)), (∀ x ∈ l, x.n.toNat < 2 ^ 20) → (∀ k q i, (kg.2 k q i).length < 2 ^ 20) → ∀ k q i, ((l.foldl (stepG b) kg).2 k q i).length < 2 ^ 20 := by
    intro l
    induction l with
    | nil => intro kg _ h; exact h
    | cons x l ih =>
      intro kg hx hk
      refine ih _ (fun y hy => hx y (List.mem_cons_of_mem _ hy)) fun k q i => ?_
      show (updG kg.2 x.k.toNat x.q.toNat x.i.toNat (numsB b kg.1 x.n.toNat) k q i).length < _
      unfold updG
      split
      · rw [numsB_len]; exact hx x List.mem_cons_self
      · exact hk k q i
  refine main l (0, g0) h (fun k q i => ?_) k q i
  show (g0 k q i).length < _
  unfold g0
  split
  · decide
  · split <;> simp
theorem PrtZ.n1 {R Q : Nat} {x : Prt} (h : PrtZ R Q x) : x.n.toNat < 2 ^ 20 := by
  obtain ⟨k, q, i, n, rfl, _, h, _⟩ := h
  show (n : Int).toNat < _
  omega
theorem gone_len {h : Shp} (hv : shV h = true) (b : List Int) (k q i : Nat) : ((goneG b (partsR h)).2 k q i).length < 2 ^ 20 := goneG_len (fun x hx => (partsR_ok hv x hx).n1) k q i
theorem PfAt.list {s : St} {W : Nat → Prop} {cs : List Value} {B : PfB} {R Q : Nat} {g : Nat → Nat → Nat → List Int} (h : PfAt s W cs B R Q g) :
    ∃ v0 v1 v2 v5 x3 x6, cs = [v0, v1, v2, .int .u64 x3, .slice (some ⟨B.rb, 0, none⟩) R R, v5, .int .u64 x6, .slice (some ⟨B.ob, 0, none⟩) Q Q] ∧ SlV s W 2 v0 (g 1 0 0) ∧ SlV s W 2 v1 (g 3 0 0) ∧ SlV s W 2 v2 (g 4 0 0) ∧ g 2 0 0 = [x3] ∧ SlV s W 1 v5 (g 6 0 0) ∧ g 7 0 0 = [x6] := by
  have hc : ∀ {k : Nat} (hk : k = 1 ∨ k = 2 ∨ k = 3 ∨ k = 4 ∨ k = 6 ∨ k = 7), SlotC s W k cs (slotA B k 0 0).2 (g k 0 0) := fun {k} hk => by
    obtain ⟨c, hc, hS⟩ := h.sl k 0 0 (.top k hk)
    have e0 : (slotA B k 0 0).1 = none := by rcases hk with rfl | rfl | rfl | rfl | rfl | rfl <;> rfl
    rw [e0] at hc
    simp only [cellsAt, Option.some.injEq] at hc
    rw [hc]
    exact hS
  have hs : ∀ {k : Nat} (_ : k = 1 ∨ k = 3 ∨ k = 4 ∨ k = 6), ∃ v, cs[(slotA B k 0 0).2]? = some v ∧ SlV s W (if k = 6 ∨ k = 8 then 1 else 2) v (g k 0 0) := fun {k} hk => by
    have hS := hc (k := k) (by omega)
    unfold SlotC at hS
    rw [if_neg (by omega), if_neg (by omega)] at hS
    exact hS
  have hn : ∀ {k : Nat} (_ : k = 2 ∨ k = 7), ∃ x, g k 0 0 = [x] ∧ cs[(slotA B k 0 0).2]? = some (.int .u64 x) := fun {k} hk => by
    have hS := hc (k := k) (by omega)
    unfold SlotC at hS
    rw [if_pos hk] at hS
    exact hS
  obtain ⟨v0, a0, b0⟩ := hs (k := 1) (by omega)
  obtain ⟨v1, a1, b1⟩ := hs (k := 3) (by omega)
  obtain ⟨v2, a2, b2⟩ := hs (k := 4) (by omega)
  obtain ⟨v5, a5, b5⟩ := hs (k := 6) (by omega)
  obtain ⟨x3, b3, a3⟩ := hn (k := 2) (by omega)
  obtain ⟨x6, b6, a6⟩ := hn (k := 7) (by omega)
  have h4 := h.c4
  have h7 := h.c7
  have hl := h.cl
  refine ⟨v0, v1, v2, v5, x3, x6, ?_, b0, b1, b2, b3, b5, b6⟩
  simp only [slotA] at a0 a1 a2 a3 a5 a6
  match cs, hl with
  | [y0, y1, y2, y3, y4, y5, y6, y7], _ =>
    simp only [List.getElem?_cons_zero, List.getElem?_cons_succ, Option.some.injEq] at a0 a1 a2 a3 a5 a6 h4 h7
    rw [a0, a1, a2, a3, a5, a6, h4, h7]
theorem Sl.dig {s : St} {v : Value} {m : Nat} {l : List Int} (h : Sl s v 2 m (l.map (.int .u64))) (hl : l.length = m * 2) {i : Nat} (hi : i < m) : ∃ p, aindexAddr P 33 v (.int .i64 (i : Int)) = some p ∧ aload P s 55 p = some (.agg (.mk (((l.drop (i * 2)).take 2).map (.int .u64)))) := by
  obtain ⟨A, o, h1, h2, h3⟩ := Sl.ix h (by decide) (show (0 : Int) ≤ i by omega) (show (i : Int) < m by omega)
  refine ⟨_, h1 se_33 isz_55, ?_⟩
  rw [loadN ap_55]
  have := h3 0 2 (by decide) (by decide)
  rw [Nat.add_zero, Nat.add_zero, Int.toNat_natCast] at this
  rw [this, cut_eq (by rw [List.length_map]; omega), ← List.map_drop, ← List.map_take]
  rfl
theorem veq_sl {v : Value} {s : St} {W : Nat → Prop} {sz : Nat} {l : List Int} (h : SlV s W sz v l) : veq v v = true := by
  obtain ⟨m, _, ⟨a, c, rfl, _⟩, _⟩ := h
  simp [veq]
theorem PfAt.veq {s : St} {W : Nat → Prop} {cs : List Value} {B : PfB} {R Q : Nat} {g : Nat → Nat → Nat → List Int} (h : PfAt s W cs B R Q g) : veq (.agg (.mk cs)) (.agg (.mk cs)) = true := by
  obtain ⟨v0, v1, v2, v5, x3, x6, rfl, h0, h1, h2, h3, h5, h6⟩ := h.list
  simp only [VE.veq, veqA, veqL, veq_sl h0, veq_sl h1, veq_sl h2, veq_sl h5, Bool.and_true, Bool.true_and]
  simp
theorem spliceSet {cs : List Value} {i : Nat} {v : Value} (h : i < cs.length) : splice cs i [v] = cs.set i v := by
  rw [List.set_eq_take_append_cons_drop, if_pos h]
  rfl
section
variable {ro : Nat} {s : St} {K : Value → St → Prop}
theorem bldTiny : abuild P 23 (partVals .e [(1, .const (.int .i64 2)), (2, .const (.int .i64 1)), (3, .const (.int .i64 1)), (4, .const (.int .i64 2)), (6, .const (.int .i64 1)), (8, .const (.int .i64 1))]) = some (.agg (.mk tinyS.cells)) := by kernel_rfl
theorem bldP1 : abuild P 30 (partVals .e [(0, .const (.int .u8 1)), (3, .const (.int .i64 4))]) = some (.agg (.mk (Prt.cells ⟨1, 0, 0, 4⟩))) := by kernel_rfl
theorem bldP9 : abuild P 30 (partVals .e [(0, .const (.int .u8 9)), (2, .const (.int .i64 1)), (3, .const (.int .i64 4))]) = some (.agg (.mk (Prt.cells ⟨9, 0, 1, 4⟩))) := by kernel_rfl
theorem bldD7 : abuild P 55 (partVals .e [(0, .const (.int .u64 0)), (1, .const (.int .u64 7))]) = some (.agg (.mk (([0, 7] : List Int).map (.int .u64)))) := by kernel_rfl
theorem eqlDig (xs ys : List Int) (hx : xs.length = 2) (hy : ys.length = 2) {ty r : TypeId} : wop P ro (.binOp .eql 55 (.const (.agg (.mk (xs.map (.int .u64))))) (.const (.agg (.mk (ys.map (.int .u64))))) r) ty s K = K (.bool (decide (xs = ys))) s :=
  wop_eql_of (flat_u64s _) (flat_u64s _) (by kernel_rfl) (eqArr (n := 2) (e := 34) (by kernel_rfl) unU64 isz_34 partU64 xs ys hx hy)
theorem wTiny (hw : Wf s) (hro : ro ≤ s.n) : CallWP P ro 25 [] s K = K (.agg (.mk tinyS.cells)) s := by
  refine callEq (call_wp b25 rfl ?_) K
  rw [n25]
  unfold v25
  simp (maxSteps := 10000000) only [wW, reduceCtorEq, Nat.reduceEqDiff]
  refine alloc_rule ty_23 hw.ent fun C s1 m1 => ?_
  have e1 := m1.eq
  have hn0 : (ent s).n = s.n := rfl
  rw [bldTiny, wopt_some]
  refine storeAll_rule isz_23 m1.here (l := tinyS.cells) rfl (by decide) m1.wf (by omega) rfl rfl fun s2 p2 => ?_
  rw [wop_load, load_all ap_23 p2.here rfl, wopt_some]
  exact fin_flat rfl (p2.grew _ hw.ent m1.grew (by omega)) ⟨rfl, rfl⟩
theorem tinyS_bytes (A : Nat) {s : St} {i : Nat} {x : Int} (hA : s.at A = some (.cells (splice (zeroList (Value.int .u8 0).cells (Int.toNat 176 * 1)) i [.int .u8 x]) 5 false)) (hi : i < 176) : Bys s (.slice (some ⟨A, 0, none⟩) 176 176) (tinyB i x) := by
  have hlen := tinyB_len i x
  unfold Bys
  rw [hlen]
  refine ⟨_, _, rfl, by rw [List.length_map, hlen], ⟨Nat.le_refl _, fun h => (by cases h), fun x hx => by cases hx; exact .inl rfl⟩, fun _ => ⟨A, 0, none, _, _, _, rfl, rfl, hA, ?_⟩⟩
  have hz : zeroList (Value.int .u8 0).cells (Int.toNat 176 * 1) = (List.replicate 176 (0 : Int)).map (.int .u8) := by kernel_rfl
  rw [List.drop_zero, hz, spliceSet (by rw [List.length_map, List.length_replicate]; exact hi)]
  unfold tinyB
  rw [List.map_set]
  exact List.take_of_length_le (by rw [List.length_set, List.length_map, List.length_replicate]; decide)
end
end Go.VE
/- attestorlaw17.awake. -/
namespace Go.VE
open Go Go.Proofs
set_option maxRecDepth 20000
section
variable {ro : Nat} {s : St} {K : Value → St → Prop}
theorem wAwake (hw : Wf s) (hro : ro ≤ s.n) (hF : FieldsAt s) : CallWP P ro 16 [] s K = K (.bool true) s := by
  refine callEq (call_wp b16 rfl ?_) K
  rw [n16]
  unfold v16
  simp (maxSteps := 10000000) only [wW, reduceCtorEq, Nat.reduceEqDiff]
  have hFe : FieldsAt (ent s) := hF
  have hn0 : (ent s).n = s.n := rfl
  have hroe : ro ≤ (ent s).n := hro
  have h0n : 0 < s.n := hF.lt
  have hv := tiny_v
  rw [wTiny hw.ent hroe]
  refine wGParts tinyS hw.ent hroe hFe (fun h => by rw [hv] at h; cases h) fun _ v s1 g1 hP hPA => ?_
  have n1 := g1.n
  have w1 := hw.ent.grew g1
  have hF1 := hFe.grew g1
  have h17 := tiny_17
  rw [Sl.wlen hP se_24, h17]
  simp (maxSteps := 10000000) only [wW, reduceCtorEq, Nat.reduceEqDiff]
  have hget : ∀ (i : Nat) (p : Prt) (_ : i < 17), (partsR tinyS)[i]? = some p → ∃ A o, aindexAddr P 24 v (.int .i64 (i : Int)) = some (.pointer (some ⟨A, o, none⟩)) ∧ aload P s1 30 (.pointer (some ⟨A, o, none⟩)) = some (.agg (.mk p.cells)) := fun i p h hp => by
    have hi : i < (partsR tinyS).length := by omega
    obtain ⟨A, o, q1, q2⟩ := hP.ix hi
    rw [List.getElem?_eq_getElem hi] at hp
    cases hp
    exact ⟨A, o, q1, q2⟩
  have hget3 : ∀ (i : Nat) (p : Prt) (_ : i < 17), (partsR tinyS)[i]? = some p → ∃ A o, aindexAddr P 24 v (.int .i64 (i : Int)) = some (.pointer (some ⟨A, o, none⟩)) ∧ (∀ k, k < 4 → (acells (s1.at A)).bind (fun c => c[o + k]?) = p.cells[k]?) := fun i p h hp => by
    have hi : i < (partsR tinyS).length := by omega
    obtain ⟨A, o, h1, h2, h3⟩ := Sl.ix hP (by decide) (show (0 : Int) ≤ i by omega) (show (i : Int) < (partsR tinyS).length by omega)
    refine ⟨A, o, h1 se_24 isz_30, fun k hk => ?_⟩
    rw [h2 k hk, Int.toNat_natCast, prts_get _ hp hk]
  obtain ⟨A0, o0, q0, r0⟩ := hget 0 _ (by decide) tiny_p0
  obtain ⟨A3, o3, q3, r3⟩ := hget3 3 _ (by decide) tiny_p3
  obtain ⟨A8, o8, q8, r8⟩ := hget 8 _ (by decide) tiny_p8
  have r30 : aload P s1 28 (.pointer (some ⟨A3, o3 + 0, none⟩)) = some (.int .u8 6) := by rw [load1 ap_28]; exact r3 0 (by decide)
  have r33 : aload P s1 3 (.pointer (some ⟨A3, o3 + 3, none⟩)) = some (.int .i64 4) := by rw [load1 ap_3]; exact r3 3 (by decide)
  have q0' : aindexAddr P 24 v (.int .i64 0) = some (.pointer (some ⟨A0, o0, none⟩)) := q0
  have q3' : aindexAddr P 24 v (.int .i64 3) = some (.pointer (some ⟨A3, o3, none⟩)) := q3
  have q8' : aindexAddr P 24 v (.int .i64 8) = some (.pointer (some ⟨A8, o8, none⟩)) := q8
  rw [wop_indexAddr, q0', wopt_some, wop_load, r0, wopt_some, bldP1, wopt_some, neqPart_same, wdec_false, wop_indexAddr, q3', wopt_some, fa_30_0, wopt_some, wop_load, r30, wopt_some]
  simp (maxSteps := 10000000) only [wW, reduceCtorEq, Nat.reduceEqDiff]
  rw [if_neg (by decide), wop_indexAddr, q3', wopt_some, fa_30_3, wopt_some, wop_load, r33, wopt_some]
  simp (maxSteps := 10000000) only [wW, reduceCtorEq, Nat.reduceEqDiff]
  rw [if_neg (by decide), wop_indexAddr, q8', wopt_some, wop_load, r8, wopt_some, bldP9, wopt_some, neqPart_same, wdec_false, wTiny w1 (by omega), wGSize tinyS w1 (by omega) hF1, tiny_size]
  simp (maxSteps := 10000000) only [wW, reduceCtorEq, Nat.reduceEqDiff]
  rw [if_neg (by decide)]
  refine makeLC_rule se_32 ty_5 w1 (by decide) (by decide) (by decide) (by decide) fun A s2 m2 => ?_
  have e2 := m2.eq
  have n2 := m2.n
  have hix : aindexAddr P 32 (.slice (some ⟨A, 0, none⟩) (Int.toNat 176) (Int.toNat 176)) (.int .i64 4) = some (.pointer (some ⟨A, 4, none⟩)) := by
    simp only [aindexAddr, un_32, isz_5, Option.bind_some, aplace]
    rfl
  rw [wop_indexAddr, hix, wopt_some]
  refine store1_rule isz_5 m2.here m2.wf (by omega) (by rw [zeroList_len]; decide) rfl fun s3 p3 => ?_
  have n3 := p3.n
  have g3 : Grew s1 s3 := p3.grew _ w1 m2.grew (by omega)
  have g03 := g1.trans g3
  have hF3 := hF1.grew g3
  have hA3 := p3.here
  have hb3 : Bys s3 (.slice (some ⟨A, 0, none⟩) 176 176) (tinyB 4 7) := tinyS_bytes A hA3 (by decide)
  have hAl := St.at_lt hA3
  rw [wTiny p3.wf (by omega)]
  refine wDecode tinyS (tinyB_ok 4 (by decide)) (by rw [tinyB_len]; decide) hb3 (fun A' o sp n c e => by cases e; exact hAl) p3.wf (by omega) hF3 (fun h => by rw [hv] at h; cases h) (fun _ h => absurd (by rw [show tinyS.f = 0 from rfl, tiny_dec]) h) fun _ _ _ cs B s4 W g4 hW hp => ?_
  have n4 := g4.n
  have w4 := p3.wf.grew g4
  have hcl : cs.length = 8 := hp.cl
  simp (maxSteps := 10000000) only [wW, reduceCtorEq, Nat.reduceEqDiff, List.getElem?_cons_zero, List.getElem?_cons_succ]
  refine alloc_rule ty_39 w4 fun Z s5 m5 => ?_
  have e5 := m5.eq
  have n5 := m5.n
  refine storeAll_rule isz_39 m5.here (l := cs) hcl (by decide) m5.wf (by omega) rfl hp.one fun s6 p6 => ?_
  have n6 := p6.n
  have g46 : Grew s4 s6 := p6.grew _ w4 m5.grew (by omega)
  have g36 := g4.trans g46
  have hF6 := hF3.grew g36
  have hp6 := hp.grew g46
  rw [wop_load, load_all ap_39 p6.here hcl, wopt_some]
  refine ⟨hp.veq, ?_⟩
  rw [wTiny p6.wf (by omega)]
  refine ⟨.refl _, ?_⟩
  refine wEncOk (h := tinyS) (g := tinyG) hv hp6 hcl (gone_len hv _) tiny_fits p6.wf (by omega) hF6 fun A7 s7 g7 hA7 hb7 => ?_
  rw [tiny_enc, tinyB_len] at hb7 ⊢
  have n7 := g7.n
  have g37 := g36.trans g7
  simp (maxSteps := 10000000) only [wW, reduceCtorEq, Nat.reduceEqDiff, List.getElem?_cons_zero, List.getElem?_cons_succ]
  obtain ⟨v0, v1, v2, v5, x3, x6, hcs, hV, _⟩ := (hp6.grew g7).list
  have hZ7 : s7.at Z = some (.cells cs 39 false) := (g7.same Z (St.at_lt p6.here)).trans p6.here
  have hv0 : cs[0]? = some v0 := by rw [hcs]; rfl
  have hld0 : aload P s7 33 (.pointer (some ⟨Z, 0, none⟩)) = some v0 := by rw [load1 ap_33, acells_some hZ7]; exact hv0
  have hdig : (goneG (tinyB 4 7) (partsR tinyS)).2 1 0 0 = [0, 7, 0, 0] := tiny_dig
  rw [hdig] at hV
  obtain ⟨m, hm, hSl, _⟩ := hV
  have hm2 : m = 2 := by simp at hm; omega
  subst hm2
  obtain ⟨pd, i1, i2⟩ := hSl.dig (i := 0) rfl (by decide)
  have i1' : aindexAddr P 33 v0 (.int .i64 0) = some pd := i1
  rw [fa_39_0, wopt_some, wop_load, hld0, wopt_some, Sl.wlen hSl se_33]
  simp (maxSteps := 10000000) only [wW, reduceCtorEq, Nat.reduceEqDiff]
  rw [if_pos (by decide), wop_load, hld0, wopt_some, wop_indexAddr, i1', wopt_some, wop_load, i2, wopt_some, bldD7, wopt_some]
  have hb3' : Bys s7 (.slice (some ⟨A, 0, none⟩) 176 176) (tinyB 4 7) := Sl.grew hb3 g37.same
  show wop P ro (.binOp .eql 55 (.const (.agg (.mk (([0, 7] : List Int).map (.int .u64))))) (.const (.agg (.mk (([0, 7] : List Int).map (.int .u64))))) _) _ _ _
  rw [eqlDig _ _ rfl rfl, decide_eq_true rfl]
  simp (maxSteps := 10000000) only [wW, reduceCtorEq, Nat.reduceEqDiff]
  rw [show Int.toNat 176 = 176 from rfl, conv_str hb3', conv_str hb7, eql_bytes]
  exact fin_flat rfl (g03.trans g37) ⟨rfl, rfl⟩
end
end Go.VE
/- ProofShapes at every start. -/
namespace Go.VE
open Go Go.Proofs
set_option maxRecDepth 20000
section
variable {ro : Nat} {s : St} {K : Value → St → Prop}
theorem wShapes (h : Shp) (hw : Wf s) (hro : ro ≤ s.n) (hG : FieldsAt s) : CallWP P ro 3 [.agg (.mk h.cells)] s fun v _ => v = .bool true := by
  refine call_wp b3 rfl ?_
  rw [n3]
  unfold v3
  simp (maxSteps := 10000000) only [wW, reduceCtorEq, Nat.reduceEqDiff]
  refine box_rule hw.ent fun B s1 m1 => ?_
  have e1 := m1.eq
  have n1 := m1.n
  have hn0 : (ent s).n = s.n := rfl
  have hB1 : s1.at B = some (.cells h.cells 23 false) := m1.here
  have hveq : veq (.agg (.mk h.cells)) (.agg (.mk h.cells)) = true := by simp [veq, veqA, veqL, Shp.cells]
  have hF1 : FieldsAt s1 := FieldsAt.grew (s := ent s) hG m1.grew
  have hsm := lM_len h
  rw [wop_load, load_all ap_23 hB1 rfl, wopt_some]
  refine ⟨hveq, ?_⟩
  rw [wop_load, load_all ap_23 hB1 rfl, wopt_some]
  refine ⟨hveq, ?_⟩
  refine wGParts2 h m1.wf (by omega) hF1 fun v s2 g2 hP2 => ?_
  have hn2 := g2.n
  refine ⟨g2.keeps, ?_⟩
  refine wRParts2 h (m1.wf.grew g2) (by omega) fun w s3 g3 hQ3 => ?_
  have hn3 := g3.n
  have hP3 : PrsS s3 v (lM h) := Sl.grew hP2 g3.same
  have w3 := (m1.wf.grew g2).grew g3
  have g13 := g2.trans g3
  have hB3 := (g13.same B (by omega)).trans hB1
  have hF3 := hF1.grew g13
  rw [Sl.wlen hP3 se_24, Sl.wlen hQ3 se_24]
  simp (maxSteps := 10000000) only [wW, reduceCtorEq, Nat.reduceEqDiff, decide_true]
  rw [wop_load, load_all ap_23 hB3 rfl, wopt_some]
  refine ⟨hveq, ?_⟩
  rw [wop_load, load_all ap_23 hB3 rfl, wopt_some]
  refine ⟨hveq, ?_⟩
  rw [wHValid h w3 (by omega) hF3]
  refine ⟨.refl _, ?_⟩
  rw [wRHValid h w3, bool_neq, bne_self_eq_false, wdec_false, wop_load, load_all ap_23 hB3 rfl, wopt_some]
  refine ⟨hveq, ?_⟩
  rw [wop_load, load_all ap_23 hB3 rfl, wopt_some]
  refine ⟨hveq, ?_⟩
  rw [wGSize h w3 (by omega) hF3]
  refine ⟨.refl _, ?_⟩
  rw [wRSize h w3 (by omega) (fun hv => by have := partsR_len hv; omega)]
  simp (maxSteps := 10000000) only [wW, reduceCtorEq, Nat.reduceEqDiff, decide_true]
  refine wloop l3_1110100 m3_1110100 (fun (i : Nat) τ ds s' => i ≤ (lM h).length ∧ τ 3 = v ∧ τ 4 = w ∧ τ 5 = .int .i64 i ∧ ds = [] ∧ s' = s3) (fun i => (lM h).length - i) ?_ 0 ⟨by omega, ?_, ?_, ?_, rfl, rfl⟩
  · rintro i τ ds s' ⟨hi, t3, t4, t5, rfl, rfl⟩
    rw [n3_1110100]
    unfold v3_1110100
    simp (maxSteps := 10000000) only [wW, reduceCtorEq, Nat.reduceEqDiff, t3, t4, t5, Sl.wlen hP3 se_24]
    by_cases hlt : i < (lM h).length
    · rw [if_pos (by omega)]
      obtain ⟨A, o, q1, q2⟩ := PrsS.ix hP3 hlt
      obtain ⟨A', o', q3, q4⟩ := PrsS.ix hQ3 hlt
      rw [wop_indexAddr, q1, wopt_some, wop_load, q2, wopt_some, wop_indexAddr, q3, wopt_some, wop_load, q4, wopt_some, neqPart_same, wdec_false]
      rw [wrap_i64 (by omega) (by omega)]
      refine ⟨i + 1, by omega, by omega, ?_, ?_, ?_, by first | trivial | rfl, by first | trivial | rfl⟩
      · simp only [U, tset_eq, wW, reduceCtorEq, Nat.reduceEqDiff, t3]
      · simp only [U, tset_eq, wW, reduceCtorEq, Nat.reduceEqDiff, t4]
      · simp only [U, tset_eq, wW, reduceCtorEq, Nat.reduceEqDiff]; rfl
    · rw [if_neg (by omega)]
      show CallWP P ro 16 [] _ _
      rw [wAwake w3 (by omega) hF3]
      exact fin_K fun _ => rfl
  · simp only [U, tset_eq, wW, reduceCtorEq, Nat.reduceEqDiff]
  · simp only [U, tset_eq, wW, reduceCtorEq, Nat.reduceEqDiff]
  · simp only [U, tset_eq, wW, reduceCtorEq, Nat.reduceEqDiff]; rfl
end
theorem ps_runs (laid : List (String × DataW Unit)) (h : startB laid = true) : LawRuns P 30 8 3 [23] laid :=
  law_runs' h fun s al hw hF h0 ha => by
    obtain ⟨h, rfl⟩ := ps_args ha
    exact wShapes h hw (Nat.le_refl _) hF
end Go.VE
