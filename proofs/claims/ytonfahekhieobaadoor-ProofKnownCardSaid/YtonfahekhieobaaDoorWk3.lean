/-
  What the functions compute.
-/
import Derived.Test.YtonfahekhieobaaDoorWk2
set_option linter.unusedSimpArgs false
set_option linter.unusedVariables false
/- proof.Encode. -/
namespace Go.VE
open Go Go.Proofs
set_option maxRecDepth 20000
theorem zeroU8 {y : Value} {n : Nat} (h : y ∈ zeroList (Value.int .u8 0).cells n) : y = .int .u8 0 := by
  unfold zeroList at h
  obtain ⟨i, _, rfl⟩ := List.mem_map.1 h
  show ([Value.int .u8 0] : List Value).getD (i % 1) default = _
  rw [Nat.mod_one]; rfl
section
variable {ro : Nat} {s : St} {K : Value → St → Prop} {W : Nat → Prop} {cs : List Value} {B : PfB} {g : Nat → Nat → Nat → List Int} {h : Shp}
theorem wEncNo (h : Shp) (hcl : cs.length = 8) (hw : Wf s) (hno : ∀ s' (K : Value → St → Prop), Wf s' → Grew (ent s) s' → CallWP P ro 22 [.agg (.mk h.cells), .agg (.mk cs)] s' K = K (.bool false) s') :
    CallWP P ro 23 [.agg (.mk h.cells), .agg (.mk cs)] s K = K (.tuple (.mk [.slice none 0 0, .int .i64 1])) s := by
  refine callEq (call_wp b23 rfl ?_) K
  rw [n23]
  unfold v23
  simp (maxSteps := 10000000) only [wW, reduceCtorEq, Nat.reduceEqDiff]
  refine box_rule hw.ent fun C s1 m1 => ?_
  refine box_rule m1.wf fun E s2 m2 => ?_
  have e1 := m1.eq
  have n1 := m1.n
  have e2 := m2.eq
  have n2 := m2.n
  have hC2 : s2.at C = some (.cells h.cells 23 false) := (m2.grew.same C (by omega)).trans m1.here
  have hE2 : s2.at E = some (.cells cs 39 false) := m2.here
  rw [wop_load, load_all ap_23 hC2 rfl, wopt_some, wop_load, load_all ap_39 hE2 hcl, wopt_some, hno s2 _ m2.wf (m1.grew.trans m2.grew)]
  simp (maxSteps := 10000000) only [wW, reduceCtorEq, Nat.reduceEqDiff]
  exact fin_flat rfl (m1.grew.trans m2.grew) ⟨rfl, rfl⟩
theorem wEncOk (hv : shV h = true) (hp : PfAt s W cs B (shR h).toNat h.q.toNat g) (hcl : cs.length = 8) (hg : ∀ k q i, (g k q i).length < 2 ^ 20) (hb : fitsB h g = true) (hw : Wf s) (hro : ro ≤ s.n) (hF : FieldsAt s)
    (hk : ∀ A s', Grew s s' → s.n ≤ A → Bys s' (.slice (some ⟨A, 0, none⟩) (encP g (partsAll h)).length (encP g (partsAll h)).length) (encP g (partsAll h)) → K (.tuple (.mk [.slice (some ⟨A, 0, none⟩) (encP g (partsAll h)).length (encP g (partsAll h)).length, .int .i64 0])) s') :
    CallWP P ro 23 [.agg (.mk h.cells), .agg (.mk cs)] s K := by
  refine call_wp b23 rfl ?_
  rw [n23]
  unfold v23
  simp (maxSteps := 10000000) only [wW, reduceCtorEq, Nat.reduceEqDiff]
  refine box_rule hw.ent fun C s1 m1 => ?_
  refine box_rule m1.wf fun E s2 m2 => ?_
  have e1 := m1.eq
  have n1 := m1.n
  have e2 := m2.eq
  have n2 := m2.n
  have hn0 : (ent s).n = s.n := rfl
  have g02 := m1.grew.trans m2.grew
  have hC2 : s2.at C = some (.cells h.cells 23 false) := (m2.grew.same C (by omega)).trans m1.here
  have hE2 : s2.at E = some (.cells cs 39 false) := m2.here
  have hp0 : PfAt (ent s) W cs B (shR h).toNat h.q.toNat g := hp.keep (s' := ent s) (Nat.le_refl _) fun _ _ => rfl
  have hF2 : FieldsAt s2 := FieldsAt.grew (s := ent s) hF g02
  rw [wop_load, load_all ap_23 hC2 rfl, wopt_some, wop_load, load_all ap_39 hE2 hcl, wopt_some, wFits h hv (hp0.grew g02) hg m2.wf (by omega) hF2, hb]
  simp (maxSteps := 10000000) only [wW, reduceCtorEq, Nat.reduceEqDiff]
  rw [wop_load, load_all ap_23 hC2 rfl, wopt_some, wGSize h m2.wf (by omega) hF2, size_enc hv hb]
  have hsz := size_bound hv
  have hse := size_enc (g := g) hv hb
  rw [size_sum hv] at hse
  refine makeLC_rule se_32 ty_5 m2.wf (by decide) (by omega) (by omega) (by decide) fun A s3 m3 => ?_
  have e3 := m3.eq
  have n3 := m3.n
  rw [Int.toNat_natCast] at m3 ⊢
  refine alloc_rule ty_32 m3.wf fun X s4 m4 => ?_
  have e4 := m4.eq
  have n4 := m4.n
  refine store1_rule isz_32 m4.here m4.wf (by omega) (by decide) rfl fun s5 p5 => ?_
  have n5 := p5.n
  have g24 := m3.grew.trans m4.grew
  have g25 : Grew s2 s5 := p5.grew _ m2.wf g24 (by omega)
  have g05 := g02.trans g25
  have hC5 := (g25.same C (by omega)).trans hC2
  have hE5 := (g25.same E (by omega)).trans hE2
  have hA5 := (p5.rest A (by omega)).trans ((m4.grew.same A (by omega)).trans m3.here)
  have hX5 := p5.here
  rw [wop_load, load_all ap_23 hC5 rfl, wopt_some]
  refine wAllFn h p5.wf fun B9 s6 g6 hB9 hB9n => ?_
  have n6 := g6.n
  have w6 := p5.wf.grew g6
  have hB9l := St.at_lt hB9
  refine wrange (by omega) fun t ht => ?_
  have g7 : Grew s6 (s6.new (.defd (some []))) := .new _ _
  generalize hr0 : ({ state := .ready, pending := none, t := t, params := #[20].toList, assign := c23_1110100, body := c23_1110101, defers := s6.n } : Lp) = lp
  have g8 : Grew (s6.new (.defd (some []))) ((s6.new (.defd (some []))).new (.loop lp)) := .new _ _
  have hD8 : ((s6.new (.defd (some []))).new (.loop lp)).at s6.n = some (.defd (some [])) := (g8.same s6.n (Nat.lt_succ_self s6.n)).trans (at_newest _ _)
  have hL8 : ((s6.new (.defd (some []))).new (.loop lp)).at (s6.n + 1) = some (.loop lp) := at_newest (s6.new (.defd (some []))) _
  have w8 : Wf ((s6.new (.defd (some []))).new (.loop lp)) := (w6.new _).new _
  have n8 : ((s6.new (.defd (some []))).new (.loop lp)).n = s6.n + 2 := rfl
  have g68 := g7.trans g8
  have hlp : lp.state = .ready ∧ lp.pending = none ∧ lp.t = t ∧ lp.params = [20] ∧ lp.assign = c23_1110100 ∧ lp.body = c23_1110101 := by rw [← hr0]; exact ⟨rfl, rfl, rfl, rfl, rfl, rfl⟩
  clear hr0
  generalize (s6.new (.defd (some []))).new (.loop lp) = s8 at *
  have g58 := g6.trans g68
  have g08 := g05.trans g58
  have hlo8 : s8.lo = s.n := g08.lo
  refine wAllJ (h := h) lp (EcJ (ent s) h cs g C E A X (s6.n + 1) s6.n (encP g (partsAll h)).length lp) (fun _ => False) hv ((g68.same B9 hB9l).trans hB9) (by rw [hlp.2.2.2.1]; rfl) EcJ.cli (by omega) (by omega) (fun i M s' hi hJ => ?_) (M0 := [s6.n + 1, A, X]) ?_ ?_ (fun M s' hJ => ?_) (fun s' hS => hS.elim)
  · refine ecRound ht hlp ?_ ?_ hp0 hv hg (by omega) ⟨by omega, by omega, by omega, by omega, by omega, by omega⟩ ⟨by omega, by omega, by omega, by omega, by omega, by omega, by omega, by omega, by omega, by omega, by omega, by omega⟩ hi hJ
    · simp only [U, tset_eq, wW, reduceCtorEq, Nat.reduceEqDiff]
    · simp only [U, tset_eq, wW, reduceCtorEq, Nat.reduceEqDiff]
  · refine ⟨w8.ent, by show s.n ≤ s8.n; omega, fun A hA => g08.same A hA, by show s.n ≤ s8.n; omega, hL8, hD8, (g58.same C (by omega)).trans hC5, (g58.same E (by omega)).trans hE5, ⟨_, (g58.same A (by omega)).trans hA5, ?_, ?_, fun y hy => ?_⟩, (g58.same X (by omega)).trans hX5, rfl⟩
    · rw [zeroList_len]; exact Nat.mul_one _
    · simp [encP]
    · exact ⟨0, zeroU8 hy⟩
  · simp only [List.mem_cons, List.not_mem_nil, or_false, not_or]
    exact ⟨by omega, by omega, by omega⟩
  · refine ⟨lp, .normal, hJ.loop, .inl hlp.1, by rw [hlp.2.1]; rfl, ?_⟩
    have wf' : Wf ({ s' with lo := min s8.lo s'.lo } : St) := ⟨by show min s8.lo s'.lo ≤ s'.n; have := hJ.wf.lo; omega, hJ.wf.len⟩
    have pe := Put.mk' wf' (St.at_lt (s := ({ s' with lo := min s8.lo s'.lo } : St)) hJ.loop) (.loop { lp with state := .exhausted })
    generalize ({ s' with lo := min s8.lo s'.lo } : St).put (s6.n + 1) (.loop { lp with state := .exhausted }) = se at pe ⊢
    have hne := pe.n
    have hne' : se.n = s'.n := hne
    have hXe := (pe.rest X (by omega)).trans hJ.x
    have hDe : se.at s6.n = some (.defd (some [])) := (pe.rest _ (by omega)).trans hJ.dfr
    have hJn : s.n ≤ s'.n := hJ.n
    have hJlo : s.n ≤ s'.lo := hJ.lo
    obtain ⟨c, hA, hcl', hct, _⟩ := hJ.a
    rw [List.take_length] at hct hXe
    have hAe := (pe.rest A (by omega)).trans hA
    simp (maxSteps := 10000000) only [U, tset_eq, wW, reduceCtorEq, Nat.reduceEqDiff]
    rw [wop_load, load_one ap_32 hXe rfl, wopt_some]
    refine ⟨hDe, by omega, ?_⟩
    have pd := Put.mk' pe.wf (St.at_lt hDe) (.defd none)
    generalize se.put s6.n (.defd none) = sd at pd ⊢
    have nd := pd.n
    have hAd := (pd.rest A (by omega)).trans hAe
    have hlod : sd.lo = s.n := by
      rw [pd.lo, pe.lo]
      show min (min (min s8.lo s'.lo) (s6.n + 1)) s6.n = s.n
      omega
    rw [wdefers_nil]
    refine wfin_new hw ⟨by omega, hlod, fun A hA => ?_, fun _ => pd.wf.len⟩ rfl fun s9 g9 hn9 hat9 => hk A s9 g9 (by omega) ?_
    · have hA' : A < s.n := hA
      rw [pd.rest A (by omega), pe.rest A (by omega)]
      exact hJ.same A hA
    · refine ⟨_, _, rfl, by rw [List.length_map, Nat.mul_one], ⟨Nat.le_refl _, fun h => (by cases h), fun x hx => by cases hx; exact .inl rfl⟩, fun _ => ⟨A, 0, none, c, _, _, rfl, rfl, (hat9 A).trans hAd, ?_⟩⟩
      rw [List.drop_zero, Nat.mul_one]
      exact hct
end
end Go.VE
/- Bytes as a text; equality. -/
namespace Go.VE
open Go Go.Proofs
set_option maxRecDepth 20000
theorem wop_eql_of {P : Program} [Memo] {ro : Nat} {t r ty : TypeId} {xs ys : List Value} {c : Bool} (hx : flatL xs = true) (hy : flatL ys = true) (hg : P.eqGuardType P.depth t = false) (h : runPure P (Op.equal t (.agg (.mk xs)) (.agg (.mk ys))) = some c) {s : St} {K : Value → St → Prop} :
    wop P ro (.binOp .eql t (.const (.agg (.mk xs))) (.const (.agg (.mk ys))) r) ty s K = K (.bool c) s := by
  have e : apure P .e (mkO (.binOp .eql t (.const (.agg (.mk xs))) (.const (.agg (.mk ys))) r) ty) = some (.val (.bool c)) := by
    unfold apure
    have e2 : runPure P (execOp (aval .e) (mkO (.binOp .eql t (.const (.agg (.mk xs))) (.const (.agg (.mk ys))) r) ty)) = some (Next.value (.bool c)) := by
      show runPure P ((do eqGuard .eql t (.const (.agg (.mk xs))) (.const (.agg (.mk ys))) (.agg (.mk xs)) (.agg (.mk ys)); binOp .eql t (.agg (.mk xs)) (.agg (.mk ys))) >>= fun v => pure (Next.value v)) = _
      rw [rp_bind, rp_bind]
      have e3 : runPure P (eqGuard .eql t (.const (.agg (.mk xs))) (.const (.agg (.mk ys))) (.agg (.mk xs)) (.agg (.mk ys))) = some () := by
        show runPure P (if (!P.eqGuardType P.depth t) = true then pure () else _) = _
        rw [hg]; rfl
      rw [e3]
      simp only [Option.bind_some]
      show (runPure P (Op.equal t (.agg (.mk xs)) (.agg (.mk ys)) >>= fun b => pure (Value.bool b))).bind _ = _
      rw [rp_bind, h]
      rfl
    rw [e2]
    rfl
  have hf : ∀ l : List Value, flatL l = true → flat' (.agg (.mk l)) = true := fun l hl => by
    show (false || flatL l) = true
    rw [hl]; rfl
  show wfol P ro K (abin P .e (mkO (.binOp .eql t (.const (.agg (.mk xs))) (.const (.agg (.mk ys))) r) ty) s .eql t (.agg (.mk xs)) (.agg (.mk ys))) = _
  simp only [abin, hf xs hx, hf ys hy, Bool.and_self, cond_true, e]
  rfl
section
variable {ro : Nat} {s : St} {K : Value → St → Prop}
theorem unStr : P.underlying 9 = some .string := by kernel_rfl
theorem wop_eql_str (a b : ByteArray) (r ty : TypeId) : wop P ro (.binOp .eql 9 (.const (.string a)) (.const (.string b)) r) ty s K = K (.bool (a.toList == b.toList)) s := by
  have e : apure P .e (mkO (.binOp .eql 9 (.const (.string a)) (.const (.string b)) r) ty) = some (.val (.bool (a.toList == b.toList))) := rfl
  show wfol P ro K (abin P .e (mkO (.binOp .eql 9 (.const (.string a)) (.const (.string b)) r) ty) s .eql 9 (.string a) (.string b)) = _
  have hf : ∀ b : ByteArray, flat' (.string b) = true := fun _ => rfl
  simp only [abin, hf, Bool.and_self, cond_true, e]
  rfl
theorem u8s_map : ∀ l : List Int, u8s (l.map (.int .u8)) = some l
  | [] => rfl
  | x :: l => by
    show (u8s (l.map (.int .u8))).map (x :: ·) = _
    rw [u8s_map l]; rfl
theorem conv_str {A o n c : Nat} {sp : Option Nat} {l : List Int} (h : Bys s (.slice (some ⟨A, o, sp⟩) n c) l) (ty : TypeId) : wop P ro (.convert 32 9 (.const (.slice (some ⟨A, o, sp⟩) n c))) ty s K = K (strOf l) s := by
  have hn : n = l.length := by
    obtain ⟨a, c', e, _⟩ := h
    cases e; rfl
  subst hn
  obtain ⟨_, hf⟩ := Sl.first h
  have u1 : P.underlying 32 = some (.slice 5) := un_32
  have u2 : isU8 P 5 = true := by kernel_rfl
  show wfol P ro K (aconv P .e (mkO (.convert 32 9 (.const (.slice (some ⟨A, o, sp⟩) l.length c))) ty) s 32 9 (.slice (some ⟨A, o, sp⟩) l.length c)) = _
  simp only [aconv, u1, unStr, u2, cond_true]
  rw [wfol_with]
  unfold astr
  rw [hf, Option.bind_some, u8s_map]
  rfl
theorem eql_bytes (l : List Int) (r ty : TypeId) : wop P ro (.binOp .eql 9 (.const (strOf l)) (.const (strOf l)) r) ty s K = K (.bool true) s := by
  unfold strOf
  rw [wop_eql_str]
  have : ∀ l : List UInt8, (l == l) = true := fun l => beq_self_eq_true l
  rw [this]
end
end Go.VE
/- The example that every law of proofs looks at: attestorlaw17.awake. -/
namespace Go.VE
open Go Go.Proofs
set_option maxRecDepth 20000
def tinyS : Shp := ⟨0, 2, 1, 1, 2, 0, 1, 0, 1⟩
def tinyB (i : Nat) (x : Int) : List Int := (List.replicate 176 (0 : Int)).set i x
theorem tiny_v : shV tinyS = true := by decide +kernel
theorem tiny_17 : (partsR tinyS).length = 17 := by decide +kernel
theorem tiny_p0 : (partsR tinyS)[0]? = some ⟨1, 0, 0, 4⟩ := by kernel_rfl
theorem tiny_p3 : (partsR tinyS)[3]? = some ⟨6, 0, 0, 4⟩ := by kernel_rfl
theorem tiny_p8 : (partsR tinyS)[8]? = some ⟨9, 0, 1, 4⟩ := by kernel_rfl
theorem tiny_size : sizeM tinyS = 176 := by decide +kernel
noncomputable def tinyG : Nat → Nat → Nat → List Int := (goneG (tinyB 4 7) (partsR tinyS)).2
theorem tiny_dec : decE (tinyB 4 7) (fP 0) (goneG (tinyB 4 7) (partsR tinyS)).1 = (0, 0) := by decide +kernel
theorem tiny_fits : fitsB tinyS tinyG = true := by decide +kernel
theorem tiny_enc : encP tinyG (partsAll tinyS) = tinyB 4 7 := by decide +kernel
theorem tiny_dig : tinyG 1 0 0 = [0, 7, 0, 0] := by decide +kernel
theorem tinyB_ok (i : Nat) {x : Int} (hx : 0 ≤ x ∧ x < 256) : ∀ y ∈ tinyB i x, 0 ≤ y ∧ y < 256 := fun y hy => by
  rcases List.mem_or_eq_of_mem_set hy with h | rfl
  · rw [List.eq_of_mem_replicate h]; decide
  · exact hx
theorem tinyB_len (i : Nat) (x : Int) : (tinyB i x).length = 176 := by unfold tinyB; rw [List.length_set, List.length_replicate]
theorem goneG_len {b : List Int} {l : List Prt} (h : ∀ x ∈ l, x.n.toNat < 2 ^ 20) (k q i : Nat) : ((goneG b l).2 k q i).length < 2 ^ 20 := by
  have main : ∀ (l : List Prt) (kg : Nat × (Nat → Nat → Nat → List Int)), (∀ x ∈ l, x.n.toNat < 2 ^ 20) → (∀ k q i, (kg.2 k q i).length < 2 ^ 20) → ∀ k q i, ((l.foldl (stepG b) kg).2 k q i).length < 2 ^ 20 := by
    intro l
    induction l with
    | nil => intro kg _ h; exact h
    | cons x l ih =>
      intro kg hx hk
      refine ih _ (fun y hy => hx y (List.mem_cons_of_mem _ hy)) fun k q i => ?_
      show (updG kg.2 x.k.toNat x.q.toNat x.i.toNat (numsB b kg.1 x.n.toNat) k q i).length < _
      unfold updG
      split
      · rw [numsB_len]; exact hx x List.mem_cons_self
      · exact hk k q i
  refine main l (0, g0) h (fun k q i => ?_) k q i
  show (g0 k q i).length < _
  unfold g0
  split
  · decide
  · split <;> simp
theorem PrtZ.n1 {R Q : Nat} {x : Prt} (h : PrtZ R Q x) : x.n.toNat < 2 ^ 20 := by
  obtain ⟨k, q, i, n, rfl, _, h, _⟩ := h
  show (n : Int).toNat < _
  omega
theorem gone_len {h : Shp} (hv : shV h = true) (b : List Int) (k q i : Nat) : ((goneG b (partsR h)).2 k q i).length < 2 ^ 20 := goneG_len (fun x hx => (partsR_ok hv x hx).n1) k q i
theorem PfAt.list {s : St} {W : Nat → Prop} {cs : List Value} {B : PfB} {R Q : Nat} {g : Nat → Nat → Nat → List Int} (h : PfAt s W cs B R Q g) :
    ∃ v0 v1 v2 v5 x3 x6, cs = [v0, v1, v2, .int .u64 x3, .slice (some ⟨B.rb, 0, none⟩) R R, v5, .int .u64 x6, .slice (some ⟨B.ob, 0, none⟩) Q Q] ∧ SlV s W 2 v0 (g 1 0 0) ∧ SlV s W 2 v1 (g 3 0 0) ∧ SlV s W 2 v2 (g 4 0 0) ∧ g 2 0 0 = [x3] ∧ SlV s W 1 v5 (g 6 0 0) ∧ g 7 0 0 = [x6] := by
  have hc : ∀ {k : Nat} (hk : k = 1 ∨ k = 2 ∨ k = 3 ∨ k = 4 ∨ k = 6 ∨ k = 7), SlotC s W k cs (slotA B k 0 0).2 (g k 0 0) := fun {k} hk => by
    obtain ⟨c, hc, hS⟩ := h.sl k 0 0 (.top k hk)
    have e0 : (slotA B k 0 0).1 = none := by rcases hk with rfl | rfl | rfl | rfl | rfl | rfl <;> rfl
    rw [e0] at hc
    simp only [cellsAt, Option.some.injEq] at hc
    rw [hc]
    exact hS
  have hs : ∀ {k : Nat} (_ : k = 1 ∨ k = 3 ∨ k = 4 ∨ k = 6), ∃ v, cs[(slotA B k 0 0).2]? = some v ∧ SlV s W (if k = 6 ∨ k = 8 then 1 else 2) v (g k 0 0) := fun {k} hk => by
    have hS := hc (k := k) (by omega)
    unfold SlotC at hS
    rw [if_neg (by omega), if_neg (by omega)] at hS
    exact hS
  have hn : ∀ {k : Nat} (_ : k = 2 ∨ k = 7), ∃ x, g k 0 0 = [x] ∧ cs[(slotA B k 0 0).2]? = some (.int .u64 x) := fun {k} hk => by
    have hS := hc (k := k) (by omega)
    unfold SlotC at hS
    rw [if_pos hk] at hS
    exact hS
  obtain ⟨v0, a0, b0⟩ := hs (k := 1) (by omega)
  obtain ⟨v1, a1, b1⟩ := hs (k := 3) (by omega)
  obtain ⟨v2, a2, b2⟩ := hs (k := 4) (by omega)
  obtain ⟨v5, a5, b5⟩ := hs (k := 6) (by omega)
  obtain ⟨x3, b3, a3⟩ := hn (k := 2) (by omega)
  obtain ⟨x6, b6, a6⟩ := hn (k := 7) (by omega)
  have h4 := h.c4
  have h7 := h.c7
  have hl := h.cl
  refine ⟨v0, v1, v2, v5, x3, x6, ?_, b0, b1, b2, b3, b5, b6⟩
  simp only [slotA] at a0 a1 a2 a3 a5 a6
  match cs, hl with
  | [y0, y1, y2, y3, y4, y5, y6, y7], _ =>
    simp only [List.getElem?_cons_zero, List.getElem?_cons_succ, Option.some.injEq] at a0 a1 a2 a3 a5 a6 h4 h7
    rw [a0, a1, a2, a3, a5, a6, h4, h7]
theorem Sl.dig {s : St} {v : Value} {m : Nat} {l : List Int} (h : Sl s v 2 m (l.map (.int .u64))) (hl : l.length = m * 2) {i : Nat} (hi : i < m) : ∃ p, aindexAddr P 33 v (.int .i64 (i : Int)) = some p ∧ aload P s 55 p = some (.agg (.mk (((l.drop (i * 2)).take 2).map (.int .u64)))) := by
  obtain ⟨A, o, h1, h2, h3⟩ := Sl.ix h (by decide) (show (0 : Int) ≤ i by omega) (show (i : Int) < m by omega)
  refine ⟨_, h1 se_33 isz_55, ?_⟩
  rw [loadN ap_55]
  have := h3 0 2 (by decide) (by decide)
  rw [Nat.add_zero, Nat.add_zero, Int.toNat_natCast] at this
  rw [this, cut_eq (by rw [List.length_map]; omega), ← List.map_drop, ← List.map_take]
  rfl
theorem veq_sl {v : Value} {s : St} {W : Nat → Prop} {sz : Nat} {l : List Int} (h : SlV s W sz v l) : veq v v = true := by
  obtain ⟨m, _, ⟨a, c, rfl, _⟩, _⟩ := h
  simp [veq]
theorem PfAt.veq {s : St} {W : Nat → Prop} {cs : List Value} {B : PfB} {R Q : Nat} {g : Nat → Nat → Nat → List Int} (h : PfAt s W cs B R Q g) : veq (.agg (.mk cs)) (.agg (.mk cs)) = true := by
  obtain ⟨v0, v1, v2, v5, x3, x6, rfl, h0, h1, h2, h3, h5, h6⟩ := h.list
  simp only [VE.veq, veqA, veqL, veq_sl h0, veq_sl h1, veq_sl h2, veq_sl h5, Bool.and_true, Bool.true_and]
  simp
theorem spliceSet {cs : List Value} {i : Nat} {v : Value} (h : i < cs.length) : splice cs i [v] = cs.set i v := by
  rw [List.set_eq_take_append_cons_drop, if_pos h]
  rfl
section
variable {ro : Nat} {s : St} {K : Value → St → Prop}
theorem bldTiny : abuild P 23 (partVals .e [(1, .const (.int .i64 2)), (2, .const (.int .i64 1)), (3, .const (.int .i64 1)), (4, .const (.int .i64 2)), (6, .const (.int .i64 1)), (8, .const (.int .i64 1))]) = some (.agg (.mk tinyS.cells)) := by kernel_rfl
theorem bldP1 : abuild P 30 (partVals .e [(0, .const (.int .u8 1)), (3, .const (.int .i64 4))]) = some (.agg (.mk (Prt.cells ⟨1, 0, 0, 4⟩))) := by kernel_rfl
theorem bldP9 : abuild P 30 (partVals .e [(0, .const (.int .u8 9)), (2, .const (.int .i64 1)), (3, .const (.int .i64 4))]) = some (.agg (.mk (Prt.cells ⟨9, 0, 1, 4⟩))) := by kernel_rfl
theorem bldD7 : abuild P 55 (partVals .e [(0, .const (.int .u64 0)), (1, .const (.int .u64 7))]) = some (.agg (.mk (([0, 7] : List Int).map (.int .u64)))) := by kernel_rfl
theorem eqlDig (xs ys : List Int) (hx : xs.length = 2) (hy : ys.length = 2) {ty r : TypeId} : wop P ro (.binOp .eql 55 (.const (.agg (.mk (xs.map (.int .u64))))) (.const (.agg (.mk (ys.map (.int .u64))))) r) ty s K = K (.bool (decide (xs = ys))) s :=
  wop_eql_of (flat_u64s _) (flat_u64s _) (by kernel_rfl) (eqArr (n := 2) (e := 34) (by kernel_rfl) unU64 isz_34 partU64 xs ys hx hy)
theorem wTiny (hw : Wf s) (hro : ro ≤ s.n) : CallWP P ro 25 [] s K = K (.agg (.mk tinyS.cells)) s := by
  refine callEq (call_wp b25 rfl ?_) K
  rw [n25]
  unfold v25
  simp (maxSteps := 10000000) only [wW, reduceCtorEq, Nat.reduceEqDiff]
  refine alloc_rule ty_23 hw.ent fun C s1 m1 => ?_
  have e1 := m1.eq
  have hn0 : (ent s).n = s.n := rfl
  rw [bldTiny, wopt_some]
  refine storeAll_rule isz_23 m1.here (l := tinyS.cells) rfl (by decide) m1.wf (by omega) rfl rfl fun s2 p2 => ?_
  rw [wop_load, load_all ap_23 p2.here rfl, wopt_some]
  exact fin_flat rfl (p2.grew _ hw.ent m1.grew (by omega)) ⟨rfl, rfl⟩
theorem tinyS_bytes (A : Nat) {s : St} {i : Nat} {x : Int} (hA : s.at A = some (.cells (splice (zeroList (Value.int .u8 0).cells (Int.toNat 176 * 1)) i [.int .u8 x]) 5 false)) (hi : i < 176) : Bys s (.slice (some ⟨A, 0, none⟩) 176 176) (tinyB i x) := by
  have hlen := tinyB_len i x
  unfold Bys
  rw [hlen]
  refine ⟨_, _, rfl, by rw [List.length_map, hlen], ⟨Nat.le_refl _, fun h => (by cases h), fun x hx => by cases hx; exact .inl rfl⟩, fun _ => ⟨A, 0, none, _, _, _, rfl, rfl, hA, ?_⟩⟩
  have hz : zeroList (Value.int .u8 0).cells (Int.toNat 176 * 1) = (List.replicate 176 (0 : Int)).map (.int .u8) := by kernel_rfl
  rw [List.drop_zero, hz, spliceSet (by rw [List.length_map, List.length_replicate]; exact hi)]
  unfold tinyB
  rw [List.map_set]
  exact List.take_of_length_le (by rw [List.length_set, List.length_map, List.length_replicate]; decide)
end
end Go.VE
/- attestorlaw17.awake. -/
namespace Go.VE
open Go Go.Proofs
set_option maxRecDepth 20000
section
variable {ro : Nat} {s : St} {K : Value → St → Prop}
theorem wAwake (hw : Wf s) (hro : ro ≤ s.n) (hF : FieldsAt s) : CallWP P ro 16 [] s K = K (.bool true) s := by
  refine callEq (call_wp b16 rfl ?_) K
  rw [n16]
  unfold v16
  simp (maxSteps := 10000000) only [wW, reduceCtorEq, Nat.reduceEqDiff]
  have hFe : FieldsAt (ent s) := hF
  have hn0 : (ent s).n = s.n := rfl
  have hroe : ro ≤ (ent s).n := hro
  have h0n : 0 < s.n := hF.lt
  have hv := tiny_v
  rw [wTiny hw.ent hroe]
  refine wGParts tinyS hw.ent hroe hFe (fun h => by rw [hv] at h; cases h) fun _ v s1 g1 hP hPA => ?_
  have n1 := g1.n
  have w1 := hw.ent.grew g1
  have hF1 := hFe.grew g1
  have h17 := tiny_17
  rw [Sl.wlen hP se_24, h17]
  simp (maxSteps := 10000000) only [wW, reduceCtorEq, Nat.reduceEqDiff]
  have hget : ∀ (i : Nat) (p : Prt) (_ : i < 17), (partsR tinyS)[i]? = some p → ∃ A o, aindexAddr P 24 v (.int .i64 (i : Int)) = some (.pointer (some ⟨A, o, none⟩)) ∧ aload P s1 30 (.pointer (some ⟨A, o, none⟩)) = some (.agg (.mk p.cells)) := fun i p h hp => by
    have hi : i < (partsR tinyS).length := by omega
    obtain ⟨A, o, q1, q2⟩ := hP.ix hi
    rw [List.getElem?_eq_getElem hi] at hp
    cases hp
    exact ⟨A, o, q1, q2⟩
  have hget3 : ∀ (i : Nat) (p : Prt) (_ : i < 17), (partsR tinyS)[i]? = some p → ∃ A o, aindexAddr P 24 v (.int .i64 (i : Int)) = some (.pointer (some ⟨A, o, none⟩)) ∧ (∀ k, k < 4 → (acells (s1.at A)).bind (fun c => c[o + k]?) = p.cells[k]?) := fun i p h hp => by
    have hi : i < (partsR tinyS).length := by omega
    obtain ⟨A, o, h1, h2, h3⟩ := Sl.ix hP (by decide) (show (0 : Int) ≤ i by omega) (show (i : Int) < (partsR tinyS).length by omega)
    refine ⟨A, o, h1 se_24 isz_30, fun k hk => ?_⟩
    rw [h2 k hk, Int.toNat_natCast, prts_get _ hp hk]
  obtain ⟨A0, o0, q0, r0⟩ := hget 0 _ (by decide) tiny_p0
  obtain ⟨A3, o3, q3, r3⟩ := hget3 3 _ (by decide) tiny_p3
  obtain ⟨A8, o8, q8, r8⟩ := hget 8 _ (by decide) tiny_p8
  have r30 : aload P s1 28 (.pointer (some ⟨A3, o3 + 0, none⟩)) = some (.int .u8 6) := by rw [load1 ap_28]; exact r3 0 (by decide)
  have r33 : aload P s1 3 (.pointer (some ⟨A3, o3 + 3, none⟩)) = some (.int .i64 4) := by rw [load1 ap_3]; exact r3 3 (by decide)
  have q0' : aindexAddr P 24 v (.int .i64 0) = some (.pointer (some ⟨A0, o0, none⟩)) := q0
  have q3' : aindexAddr P 24 v (.int .i64 3) = some (.pointer (some ⟨A3, o3, none⟩)) := q3
  have q8' : aindexAddr P 24 v (.int .i64 8) = some (.pointer (some ⟨A8, o8, none⟩)) := q8
  rw [wop_indexAddr, q0', wopt_some, wop_load, r0, wopt_some, bldP1, wopt_some, neqPart_same, wdec_false, wop_indexAddr, q3', wopt_some, fa_30_0, wopt_some, wop_load, r30, wopt_some]
  simp (maxSteps := 10000000) only [wW, reduceCtorEq, Nat.reduceEqDiff]
  rw [if_neg (by decide), wop_indexAddr, q3', wopt_some, fa_30_3, wopt_some, wop_load, r33, wopt_some]
  simp (maxSteps := 10000000) only [wW, reduceCtorEq, Nat.reduceEqDiff]
  rw [if_neg (by decide), wop_indexAddr, q8', wopt_some, wop_load, r8, wopt_some, bldP9, wopt_some, neqPart_same, wdec_false, wTiny w1 (by omega), wGSize tinyS w1 (by omega) hF1, tiny_size]
  simp (maxSteps := 10000000) only [wW, reduceCtorEq, Nat.reduceEqDiff]
  rw [if_neg (by decide)]
  refine makeLC_rule se_32 ty_5 w1 (by decide) (by decide) (by decide) (by decide) fun A s2 m2 => ?_
  have e2 := m2.eq
  have n2 := m2.n
  have hix : aindexAddr P 32 (.slice (some ⟨A, 0, none⟩) (Int.toNat 176) (Int.toNat 176)) (.int .i64 4) = some (.pointer (some ⟨A, 4, none⟩)) := by
    simp only [aindexAddr, un_32, isz_5, Option.bind_some, aplace]
    rfl
  rw [wop_indexAddr, hix, wopt_some]
  refine store1_rule isz_5 m2.here m2.wf (by omega) (by rw [zeroList_len]; decide) rfl fun s3 p3 => ?_
  have n3 := p3.n
  have g3 : Grew s1 s3 := p3.grew _ w1 m2.grew (by omega)
  have g03 := g1.trans g3
  have hF3 := hF1.grew g3
  have hA3 := p3.here
  have hb3 : Bys s3 (.slice (some ⟨A, 0, none⟩) 176 176) (tinyB 4 7) := tinyS_bytes A hA3 (by decide)
  have hAl := St.at_lt hA3
  rw [wTiny p3.wf (by omega)]
  refine wDecode tinyS (tinyB_ok 4 (by decide)) (by rw [tinyB_len]; decide) hb3 (fun A' o sp n c e => by cases e; exact hAl) p3.wf (by omega) hF3 (fun h => by rw [hv] at h; cases h) (fun _ h => absurd (by rw [show tinyS.f = 0 from rfl, tiny_dec]) h) fun _ _ _ cs B s4 W g4 _ hW hWB hp => ?_
  have n4 := g4.n
  have w4 := p3.wf.grew g4
  have hcl : cs.length = 8 := hp.cl
  simp (maxSteps := 10000000) only [wW, reduceCtorEq, Nat.reduceEqDiff, List.getElem?_cons_zero, List.getElem?_cons_succ]
  refine alloc_rule ty_39 w4 fun Z s5 m5 => ?_
  have e5 := m5.eq
  have n5 := m5.n
  refine storeAll_rule isz_39 m5.here (l := cs) hcl (by decide) m5.wf (by omega) rfl hp.one fun s6 p6 => ?_
  have n6 := p6.n
  have g46 : Grew s4 s6 := p6.grew _ w4 m5.grew (by omega)
  have g36 := g4.trans g46
  have hF6 := hF3.grew g36
  have hp6 := hp.grew g46
  rw [wop_load, load_all ap_39 p6.here hcl, wopt_some]
  refine ⟨hp.veq, ?_⟩
  rw [wTiny p6.wf (by omega)]
  refine ⟨.refl _, ?_⟩
  refine wEncOk (h := tinyS) (g := tinyG) hv hp6 hcl (gone_len hv _) tiny_fits p6.wf (by omega) hF6 fun A7 s7 g7 hA7 hb7 => ?_
  rw [tiny_enc, tinyB_len] at hb7 ⊢
  have n7 := g7.n
  have g37 := g36.trans g7
  simp (maxSteps := 10000000) only [wW, reduceCtorEq, Nat.reduceEqDiff, List.getElem?_cons_zero, List.getElem?_cons_succ]
  obtain ⟨v0, v1, v2, v5, x3, x6, hcs, hV, _⟩ := (hp6.grew g7).list
  have hZ7 : s7.at Z = some (.cells cs 39 false) := (g7.same Z (St.at_lt p6.here)).trans p6.here
  have hv0 : cs[0]? = some v0 := by rw [hcs]; rfl
  have hld0 : aload P s7 33 (.pointer (some ⟨Z, 0, none⟩)) = some v0 := by rw [load1 ap_33, acells_some hZ7]; exact hv0
  have hdig : (goneG (tinyB 4 7) (partsR tinyS)).2 1 0 0 = [0, 7, 0, 0] := tiny_dig
  rw [hdig] at hV
  obtain ⟨m, hm, hSl, _⟩ := hV
  have hm2 : m = 2 := by simp at hm; omega
  subst hm2
  obtain ⟨pd, i1, i2⟩ := hSl.dig (i := 0) rfl (by decide)
  have i1' : aindexAddr P 33 v0 (.int .i64 0) = some pd := i1
  rw [fa_39_0, wopt_some, wop_load, hld0, wopt_some, Sl.wlen hSl se_33]
  simp (maxSteps := 10000000) only [wW, reduceCtorEq, Nat.reduceEqDiff]
  rw [if_pos (by decide), wop_load, hld0, wopt_some, wop_indexAddr, i1', wopt_some, wop_load, i2, wopt_some, bldD7, wopt_some]
  have hb3' : Bys s7 (.slice (some ⟨A, 0, none⟩) 176 176) (tinyB 4 7) := Sl.grew hb3 g37.same
  show wop P ro (.binOp .eql 55 (.const (.agg (.mk (([0, 7] : List Int).map (.int .u64))))) (.const (.agg (.mk (([0, 7] : List Int).map (.int .u64))))) _) _ _ _
  rw [eqlDig _ _ rfl rfl, decide_eq_true rfl]
  simp (maxSteps := 10000000) only [wW, reduceCtorEq, Nat.reduceEqDiff]
  rw [show Int.toNat 176 = 176 from rfl, conv_str hb3', conv_str hb7, eql_bytes]
  exact fin_flat rfl (g03.trans g37) ⟨rfl, rfl⟩
end
end Go.VE
/- ProofKnown: what is looked at, the last part. -/
namespace Go.VE
open Go Go.Proofs
set_option maxRecDepth 20000
def bigS (q : Int) : Shp := ⟨3, 13, 5, 8, q, 64, 64, 16, 16⟩
theorem big_v : shV (bigS 64) = true := by decide +kernel
theorem big_v65 : shV (bigS 65) = false := by decide +kernel
theorem big_size65 : sizeM (bigS 65) = 0 := by decide +kernel
theorem low_v : shV ⟨0, 4, 1, 0, 1, 0, 1, 0, 1⟩ = true := by decide +kernel
theorem low_v5 : shV ⟨0, 5, 1, 0, 1, 0, 1, 0, 1⟩ = false := by decide +kernel
theorem kn_175 : decE (List.replicate 175 0) (fP 0) (goneG (List.replicate 175 0) (partsR tinyS)).1 = (175, 5) := by decide +kernel
theorem kn_177 : decE (List.replicate 177 0) (fP 0) (goneG (List.replicate 177 0) (partsR tinyS)).1 = (176, 3) := by decide +kernel
theorem kn_5 : decE (tinyB 5 1) (fP 0) (goneG (tinyB 5 1) (partsR tinyS)).1 = (4, 2) := by decide +kernel
theorem kn_0 : decE (List.replicate 176 0) (fP 0) (goneG (List.replicate 176 0) (partsR tinyS)).1 = (0, 0) := by decide +kernel
theorem kn_97 : fitsB tinyS (updG (goneG (List.replicate 176 0) (partsR tinyS)).2 2 0 0 [97]) = false := by decide +kernel
def sumTo (f : Nat → Nat) : Nat → Nat
  | 0 => 0
  | n + 1 => sumTo f n + f n
theorem sumN_app : ∀ a b : List Prt, sumN (a ++ b) = sumN a + sumN b
  | [], b => by simp [sumN]
  | x :: a, b => by
    have := sumN_app a b
    simp only [List.cons_append, sumN]
    omega
theorem sumN_it {g : Nat → List Prt → List Prt} {f : Nat → Nat} (hg : ∀ i l, sumN (g i l) = sumN l + f i) : ∀ (n : Nat) (l : List Prt), sumN (it g n l) = sumN l + sumTo f n
  | 0, l => rfl
  | n + 1, l => by
    have ih := sumN_it hg n l
    show sumN (g n (it g n l)) = _
    rw [hg, ih]
    simp only [sumTo]
    omega
theorem sumTo_const (c : Nat) : ∀ n, sumTo (fun _ => c) n = n * c
  | 0 => by simp [sumTo]
  | n + 1 => by
    simp only [sumTo, sumTo_const c n, Nat.add_mul, Nat.one_mul]
def perQ (h : Shp) : Nat := sumTo (fun i => sumN (al8 h 0 i [])) 6 + sumTo (fun i => sumN (al9 h 0 i [])) 6 + sumTo (fun i => sumN (alB h 0 i [])) (shR h).toNat
theorem sumN_alQ (h : Shp) (j : Nat) (l : List Prt) : sumN (alQ h j l) = sumN l + perQ h := by
  unfold alQ perQ
  rw [sumN_it (f := fun i => sumN (alB h 0 i [])) (fun i l => by simp only [alB, sumN_app, sumN]; omega), sumN_it (f := fun i => sumN (al9 h 0 i [])) (fun i l => by simp only [al9, sumN_app, sumN]; omega), sumN_it (f := fun i => sumN (al8 h 0 i [])) (fun i l => by simp only [al8, sumN_app, sumN]; omega)]
  omega
theorem sumN_all (h : Shp) : sumN (partsAll h) = sumN (midA h) + h.q.toNat * perQ h := by
  unfold partsAll
  rw [sumN_it (f := fun _ => perQ h) (sumN_alQ h), sumTo_const]
theorem size_all {h : Shp} (hv : shV h = true) : sizeM h = 4 * (sumN (midA h) + h.q.toNat * perQ h : Nat) := by
  rw [size_sum hv, ← partsAll_keep hv, sumN_keep, sumN_all]
theorem big_size : sizeM (bigS 64) = 119312 := by
  rw [size_all big_v]
  decide +kernel
end Go.VE
/- ProofKnown. -/
namespace Go.VE
open Go Go.Proofs
set_option maxRecDepth 20000
theorem zeroList_u8 (n : Nat) : zeroList (Value.int .u8 0).cells n = List.replicate n (Value.int .u8 0) := List.eq_replicate_iff.2 ⟨zeroList_len _ _, fun _ h => zeroU8 h⟩
theorem fresh_u8 (n : Nat) : veqL (zeroList (Value.int .u8 0).cells n) (zeroList (Value.int .u8 0).cells n) = true := veqL_of fun v hv => by rw [zeroU8 hv]; rfl
theorem zeros_bytes {s : St} {A n : Nat} (hA : s.at A = some (.cells (zeroList (Value.int .u8 0).cells (n * 1)) 5 false)) : Bys s (.slice (some ⟨A, 0, none⟩) n n) (List.replicate n 0) := by
  unfold Bys
  rw [List.length_replicate]
  refine ⟨_, _, rfl, by rw [List.length_map, List.length_replicate, Nat.mul_one], ⟨Nat.le_refl _, fun h => (by cases h), fun x hx => by cases hx; exact .inl rfl⟩, fun _ => ⟨A, 0, none, _, _, _, rfl, rfl, hA, ?_⟩⟩
  rw [List.drop_zero, zeroList_u8, List.map_replicate, Nat.mul_one]
  exact List.take_of_length_le (by simp)
theorem zeros_ok (n : Nat) : ∀ x ∈ List.replicate n (0 : Int), 0 ≤ x ∧ x < 256 := fun x hx => by rw [List.eq_of_mem_replicate hx]; decide
theorem PfAt.pow {s : St} {W : Nat → Prop} {cs : List Value} {B : PfB} {R Q : Nat} {g : Nat → Nat → Nat → List Int} (h : PfAt s W cs B R Q g) (x : Int) : PfAt s W (splice cs 3 [.int .u64 x]) B R Q (updG g 2 0 0 [x]) :=
  h.set (.top 2 (by omega)) (Nat.le_refl _) (fun _ _ _ => rfl) ⟨x, rfl, rfl⟩ rfl fun A hA c T hc => by
    rw [if_neg (by simp [slotA])]
    exact hc
section
variable {ro : Nat} {s : St} {K : Value → St → Prop}
theorem wTinyErr {b : List Int} {u : Value} {e : Int × Int} (hb : ∀ x ∈ b, 0 ≤ x ∧ x < 256) (hbl : b.length < 2 ^ 40) (hu : Bys s u b) (huA : ∀ A o sp n c, u = .slice (some ⟨A, o, sp⟩) n c → A < s.n) (hw : Wf s) (hro : ro ≤ s.n) (hF : FieldsAt s) (he : decE b (fP 0) (goneG b (partsR tinyS)).1 = e) (h0 : e.2 ≠ 0) :
    CallWP P ro 17 [.agg (.mk tinyS.cells), u] s K = K (.tuple (.mk [.agg (.mk zeroCs), .int .i64 e.1, .int .i64 e.2])) s := by
  refine callEq ?_ K
  refine wDecode tinyS hb hbl hu huA hw hro hF (fun h => by rw [tiny_v] at h; cases h) (fun _ _ => ?_) (fun _ h => ?_)
  · rw [show tinyS.f = 0 from rfl, he]; exact ⟨rfl, rfl⟩
  · rw [show tinyS.f = 0 from rfl, he] at h
    subst h
    exact absurd rfl h0
theorem kn_b {s0 : St} {C : Nat} {τ : Tau} (hw : Wf s) (hro : ro ≤ s.n) (hF : FieldsAt s) (hC : s.at C = some (.cells (bigS 64).cells 23 false)) (t13 : τ 13 = .bool true) (t16 : τ 16 = .bool true) (t14 : τ 14 = ptr C) :
    xp (prims P ro) none 138 k8 c8_111111111111 [1, 1, 1, 1, 1, 1, 1, 1, 1, 1, 1, 1] τ [] [] s (xleave (prims P ro) s0 Tryd.f8.results.toList fun v _ => v = .bool true) := by
  rw [n8_111111111111]
  unfold v8_111111111111
  rw [t13, t16, t14]
  simp (maxSteps := 10000000) only [wW, reduceCtorEq, Nat.reduceEqDiff]
  have hCl := St.at_lt hC
  rw [wop_load, load_all ap_23 hC rfl, wopt_some, wGSize (bigS 64) hw hro hF, big_size]
  simp (maxSteps := 10000000) only [wW, reduceCtorEq, Nat.reduceEqDiff]
  refine makeLC_rule se_32 ty_5 hw (by decide) (by decide) (by decide) (by decide) fun A s2 m2 => ?_
  have e2 := m2.eq
  have n2 := m2.n
  refine ⟨m2.fresh (fresh_u8 _), ?_⟩
  refine alloc_rule ty_39 m2.wf fun Z s3 m3 => ?_
  have e3 := m3.eq
  have n3 := m3.n
  refine ⟨m3.fresh rfl, ?_⟩
  have g23 := m2.grew.trans m3.grew
  have hA3 := (m3.grew.same A (by omega)).trans m2.here
  have hF3 := hF.grew g23
  have hb3 : Bys s3 (.slice (some ⟨A, 0, none⟩) 176 176) (List.replicate 176 0) := zeros_bytes hA3
  rw [wTiny m3.wf (by omega)]
  refine ⟨.refl _, ?_⟩
  refine wDecode tinyS (zeros_ok 176) (by simp) hb3 (fun A' o sp n c e => by cases e; omega) m3.wf (by omega) hF3 (fun h => by rw [tiny_v] at h; cases h) (fun _ h => absurd (by rw [show tinyS.f = 0 from rfl, kn_0]) h) fun _ _ _ cs B s4 W g4 _ hW hWB hp => ?_
  have n4 := g4.n
  have w4 := m3.wf.grew g4
  have hcl : cs.length = 8 := hp.cl
  refine ⟨g4.keeps, ?_⟩
  simp (maxSteps := 10000000) only [wW, reduceCtorEq, Nat.reduceEqDiff, List.getElem?_cons_zero, List.getElem?_cons_succ]
  have hZ4 := (g4.same Z (by omega)).trans m3.here
  refine storeAll_rule isz_39 hZ4 (l := cs) hcl (by decide) w4 (by omega) rfl hp.one fun s5 p5 => ?_
  have n5 := p5.n
  refine ⟨by omega, ?_⟩
  rw [fa_39_3, wopt_some]
  refine store1_rule isz_34 p5.here p5.wf (by omega) (by omega) rfl fun s6 p6 => ?_
  have n6 := p6.n
  have g34 : Grew s2 s4 := m3.grew.trans g4
  have g25 : Grew s2 s5 := p5.grew _ m2.wf g34 (by omega)
  have g26 : Grew s2 s6 := p6.grew _ m2.wf g25 (by omega)
  have hF6 := (hF.grew m2.grew).grew g26
  have hp6 : PfAt s6 W cs B (shR tinyS).toNat tinyS.q.toNat (goneG (List.replicate 176 0) (partsR tinyS)).2 :=
    (hp.off (X := Z) (by omega) (fun A hA => p5.rest A hA) (hW Z (by omega)) (by omega) (by omega) (fun j hj => by have := hWB.2.2 j hj; omega)).off (X := Z) (by omega) (fun A hA => p6.rest A hA) (hW Z (by omega)) (by omega) (by omega) (fun j hj => by have := hWB.2.2 j hj; omega)
  have hp6' := hp6.pow 97
  have hcl' : (splice cs (0 + 3) [.int .u64 97]).length = 8 := by rw [splice_length (by simp; omega)]; exact hcl
  rw [wop_load, load_all ap_39 p6.here hcl', wopt_some]
  refine ⟨hp6'.veq, ?_⟩
  rw [wTiny p6.wf (by omega)]
  refine ⟨.refl _, ?_⟩
  rw [wEncNo tinyS hcl' p6.wf fun s' K w' g' => ?_]
  · simp (maxSteps := 10000000) only [wW, reduceCtorEq, Nat.reduceEqDiff, List.getElem?_cons_zero, List.getElem?_cons_succ]
    rw [wAwake p6.wf (by omega) hF6]
    simp (maxSteps := 10000000) only [wW, reduceCtorEq, Nat.reduceEqDiff]
    rw [xleave_U, r8]
    simp (maxSteps := 10000000) only [wW, reduceCtorEq, Nat.reduceEqDiff]
    exact fin_K fun _ => rfl
  · have hpe : PfAt (ent s6) W (splice cs 3 [.int .u64 97]) B (shR tinyS).toNat tinyS.q.toNat (updG (goneG (List.replicate 176 0) (partsR tinyS)).2 2 0 0 [97]) := hp6'.keep (s' := ent s6) (Nat.le_refl _) fun _ _ => rfl
    have hn6 : (ent s6).n = s6.n := rfl
    have gn := g'.n
    refine (wFits tinyS tiny_v (hpe.grew g') (fun k q i => ?_) w' (by omega) (FieldsAt.grew (s := ent s6) hF6 g')).trans ?_
    · unfold updG
      split
      · decide
      · exact gone_len tiny_v _ k q i
    · rw [kn_97]
theorem bldBig : abuild P 23 (partVals .e [(0, .const (.int .i64 3)), (1, .const (.int .i64 13)), (2, .const (.int .i64 5)), (3, .const (.int .i64 8)), (4, .const (.int .i64 64)), (5, .const (.int .i64 64)), (6, .const (.int .i64 64)), (7, .const (.int .i64 16)), (8, .const (.int .i64 16))]) = some (.agg (.mk (bigS 64).cells)) := by kernel_rfl
theorem bldLow4 : abuild P 23 (partVals .e [(1, .const (.int .i64 4)), (2, .const (.int .i64 1)), (4, .const (.int .i64 1)), (6, .const (.int .i64 1)), (8, .const (.int .i64 1))]) = some (.agg (.mk (Shp.cells ⟨0, 4, 1, 0, 1, 0, 1, 0, 1⟩))) := by kernel_rfl
theorem bldLow5 : abuild P 23 (partVals .e [(1, .const (.int .i64 5)), (2, .const (.int .i64 1)), (4, .const (.int .i64 1)), (6, .const (.int .i64 1)), (8, .const (.int .i64 1))]) = some (.agg (.mk (Shp.cells ⟨0, 5, 1, 0, 1, 0, 1, 0, 1⟩))) := by kernel_rfl
theorem kn_a {s0 : St} {τ : Tau} (hw : Wf s) (hro : ro ≤ s.n) (hF : FieldsAt s) (t13 : τ 13 = .bool true) :
    xp (prims P ro) none 138 k8 c8_11111111 [1, 1, 1, 1, 1, 1, 1, 1] τ [] [] s (xleave (prims P ro) s0 Tryd.f8.results.toList fun v _ => v = .bool true) := by
  rw [n8_11111111]
  unfold v8_11111111
  simp (maxSteps := 10000000) only [wW, reduceCtorEq, Nat.reduceEqDiff]
  rw [bldBig, wopt_some]
  refine alloc_rule ty_23 hw fun C s1 m1 => ?_
  have e1 := m1.eq
  have n1 := m1.n
  refine storeAll_rule isz_23 m1.here (l := (bigS 64).cells) rfl (by decide) m1.wf (by omega) rfl rfl fun s2 p2 => ?_
  have n2 := p2.n
  have g2 : Grew s s2 := p2.grew _ hw m1.grew (by omega)
  have hC2 := p2.here
  rw [wop_load, load_all ap_23 hC2 rfl, wopt_some]
  refine alloc_rule ty_23 p2.wf fun D s3 m3 => ?_
  have e3 := m3.eq
  have n3 := m3.n
  refine storeAll_rule isz_23 m3.here (l := (bigS 64).cells) rfl (by decide) m3.wf (by omega) rfl rfl fun s4 p4 => ?_
  have n4 := p4.n
  rw [fa_23_4, wopt_some]
  refine store1_rule isz_3 p4.here p4.wf (by omega) (by decide) rfl fun s5 p5 => ?_
  have n5 := p5.n
  have g4 : Grew s s4 := p4.grew _ hw (g2.trans m3.grew) (by omega)
  have g5 : Grew s s5 := p5.grew _ hw g4 (by omega)
  have hF5 := hF.grew g5
  have hC5 : s5.at C = some (.cells (bigS 64).cells 23 false) := (p5.rest C (by omega)).trans ((p4.rest C (by omega)).trans ((m3.grew.same C (by omega)).trans hC2))
  have hD5 : s5.at D = some (.cells (bigS 65).cells 23 false) := p5.here
  rw [wop_load, load_all ap_23 hC5 rfl, wopt_some, wHValid _ p5.wf (by omega) hF5, big_v, wdec_true]
  rw [wop_load, load_all ap_23 hD5 rfl, wopt_some, wHValid _ p5.wf (by omega) hF5, big_v65]
  simp (maxSteps := 10000000) only [wW, reduceCtorEq, Nat.reduceEqDiff]
  rw [wop_load, load_all ap_23 hD5 rfl, wopt_some, wGSize _ p5.wf (by omega) hF5, big_size65]
  simp (maxSteps := 10000000) only [wW, reduceCtorEq, Nat.reduceEqDiff]
  rw [bldLow4, wopt_some, wHValid _ p5.wf (by omega) hF5, low_v, wdec_true, bldLow5, wopt_some, wHValid _ p5.wf (by omega) hF5, low_v5]
  simp (maxSteps := 10000000) only [wW, reduceCtorEq, Nat.reduceEqDiff]
  refine kn_b p5.wf (by omega) hF5 hC5 ?_ ?_ ?_
  · simp only [U, tset_eq, wW, reduceCtorEq, Nat.reduceEqDiff, t13]
  · first | (simp only [U, tset_eq, wW, reduceCtorEq, Nat.reduceEqDiff]; done) | (simp only [U, tset_eq, wW, reduceCtorEq, Nat.reduceEqDiff]; rfl)
  · simp only [U, tset_eq, wW, reduceCtorEq, Nat.reduceEqDiff]
theorem wKnown (hw : Wf s) (hro : ro ≤ s.n) (hF : FieldsAt s) : CallWP P ro 8 [] s fun v _ => v = .bool true := by
  refine call_wp b8 rfl ?_
  rw [n8]
  unfold v8
  simp (maxSteps := 10000000) only [wW, reduceCtorEq, Nat.reduceEqDiff]
  have hn0 : (ent s).n = s.n := rfl
  have h0n : 0 < s.n := hF.lt
  have hFe : FieldsAt (ent s) := hF
  -- a first one, too short
  refine makeLC_rule se_32 ty_5 hw.ent (by decide) (by decide) (by decide) (by decide) fun A s1 m1 => ?_
  have e1 := m1.eq
  have n1 := m1.n
  refine ⟨m1.fresh (fresh_u8 _), ?_⟩
  refine alloc_rule ty_39 m1.wf fun Z s2 m2 => ?_
  have e2 := m2.eq
  have n2 := m2.n
  refine ⟨m2.fresh rfl, ?_⟩
  have g02 := m1.grew.trans m2.grew
  have hA2 := (m2.grew.same A (by omega)).trans m1.here
  have hb2 : Bys s2 (.slice (some ⟨A, 0, none⟩) 175 175) (List.replicate 175 0) := zeros_bytes hA2
  have hF2 := hFe.grew g02
  rw [wTiny m2.wf (by omega)]
  refine ⟨.refl _, ?_⟩
  show CallWP P ro 17 [.agg (.mk tinyS.cells), .slice (some ⟨A, 0, none⟩) 175 175] s2 _
  rw [wTinyErr (zeros_ok 175) (by simp) hb2 (fun A' o sp n c e => by cases e; omega) m2.wf (by omega) hF2 kn_175 (by decide)]
  refine ⟨.refl _, ?_⟩
  simp (maxSteps := 10000000) only [wW, reduceCtorEq, Nat.reduceEqDiff, List.getElem?_cons_zero, List.getElem?_cons_succ]
  refine storeAll_rule isz_39 m2.here (l := zeroCs) rfl (by decide) m2.wf (by omega) rfl rfl fun s3 p3 => ?_
  have n3 := p3.n
  refine ⟨by omega, ?_⟩
  have g03 : Grew (ent s) s3 := p3.grew _ hw.ent g02 (by omega)
  -- a second one, too long
  refine makeLC_rule se_32 ty_5 p3.wf (by decide) (by decide) (by decide) (by decide) fun A' s4 m4 => ?_
  have e4 := m4.eq
  have n4 := m4.n
  refine ⟨m4.fresh (fresh_u8 _), ?_⟩
  refine alloc_rule ty_39 m4.wf fun Z' s5 m5 => ?_
  have e5 := m5.eq
  have n5 := m5.n
  refine ⟨m5.fresh rfl, ?_⟩
  have g05 := g03.trans (m4.grew.trans m5.grew)
  have hA5 := (m5.grew.same A' (by omega)).trans m4.here
  have hb5 : Bys s5 (.slice (some ⟨A', 0, none⟩) 177 177) (List.replicate 177 0) := zeros_bytes hA5
  have hF5 := hFe.grew g05
  rw [wTiny m5.wf (by omega)]
  refine ⟨.refl _, ?_⟩
  show CallWP P ro 17 [.agg (.mk tinyS.cells), .slice (some ⟨A', 0, none⟩) 177 177] s5 _
  rw [wTinyErr (zeros_ok 177) (by simp) hb5 (fun A' o sp n c e => by cases e; omega) m5.wf (by omega) hF5 kn_177 (by decide)]
  refine ⟨.refl _, ?_⟩
  simp (maxSteps := 10000000) only [wW, reduceCtorEq, Nat.reduceEqDiff, List.getElem?_cons_zero, List.getElem?_cons_succ]
  refine storeAll_rule isz_39 m5.here (l := zeroCs) rfl (by decide) m5.wf (by omega) rfl rfl fun s6 p6 => ?_
  have n6 := p6.n
  refine ⟨by omega, ?_⟩
  have g06 : Grew (ent s) s6 := p6.grew _ hw.ent g05 (by omega)
  -- a number that is too great
  refine makeLC_rule se_32 ty_5 p6.wf (by decide) (by decide) (by decide) (by decide) fun A9 s7 m7 => ?_
  have e7 := m7.eq
  have n7 := m7.n
  have hix : aindexAddr P 32 (.slice (some ⟨A9, 0, none⟩) (Int.toNat 176) (Int.toNat 176)) (.int .i64 5) = some (.pointer (some ⟨A9, 5, none⟩)) := by
    simp only [aindexAddr, un_32, isz_5, Option.bind_some, aplace]
    rfl
  rw [wop_indexAddr, hix, wopt_some]
  refine store1_rule isz_5 m7.here m7.wf (by omega) (by rw [zeroList_len]; decide) rfl fun s8 p8 => ?_
  have n8 := p8.n
  have g08 : Grew (ent s) s8 := p8.grew _ hw.ent (g06.trans m7.grew) (by omega)
  have hF8 := hFe.grew g08
  have hA8 := p8.here
  have hb8 : Bys s8 (.slice (some ⟨A9, 0, none⟩) 176 176) (tinyB 5 1) := tinyS_bytes A9 hA8 (by decide)
  have hAl8 := St.at_lt hA8
  rw [wTiny p8.wf (by omega)]
  show CallWP P ro 17 [.agg (.mk tinyS.cells), .slice (some ⟨A9, 0, none⟩) 176 176] s8 _
  rw [wTinyErr (tinyB_ok 5 (by decide)) (by rw [tinyB_len]; decide) hb8 (fun A' o sp n c e => by cases e; exact hAl8) p8.wf (by omega) hF8 kn_5 (by decide)]
  simp (maxSteps := 10000000) only [wW, reduceCtorEq, Nat.reduceEqDiff, List.getElem?_cons_zero, List.getElem?_cons_succ]
  refine alloc_rule ty_39 p8.wf fun Z9 s9 m9 => ?_
  have e9 := m9.eq
  have n9 := m9.n
  refine storeAll_rule isz_39 m9.here (l := zeroCs) rfl (by decide) m9.wf (by omega) rfl rfl fun s10 p10 => ?_
  have n10 := p10.n
  have g010 : Grew (ent s) s10 := p10.grew _ hw.ent (g08.trans m9.grew) (by omega)
  have hF10 := hFe.grew g010
  rw [wTiny p10.wf (by omega), bldZ, wopt_some, wEncNo tinyS rfl p10.wf fun s' K w' g' => wFits0 tinyS tiny_v w' (by have := g'.n; have hn10 : (ent s10).n = s10.n := rfl; omega) (FieldsAt.grew (s := ent s10) hF10 g')]
  simp (maxSteps := 10000000) only [wW, reduceCtorEq, Nat.reduceEqDiff, List.getElem?_cons_zero, List.getElem?_cons_succ]
  refine kn_a p10.wf (by omega) hF10 ?_
  first | (simp only [U, tset_eq, wW, reduceCtorEq, Nat.reduceEqDiff]; done) | (simp only [U, tset_eq, wW, reduceCtorEq, Nat.reduceEqDiff]; rfl)
end
theorem kn_runs (laid : List (String × DataW Unit)) (h : startB laid = true) : LawRuns P 30 8 8 [] laid :=
  law_runs' h fun s al hw hF h0 ha => by
    have e : al = [] := ha
    subst e
    exact wKnown hw (Nat.le_refl _) hF
end Go.VE
