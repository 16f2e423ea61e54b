/-
  What the functions compute.
-/
import Derived.Test.YtonfahekhieobaaDoorWk2
set_option linter.unusedSimpArgs false
set_option linter.unusedVariables false
/- proof.Encode. -/
namespace Go.VE
open Go Go.Proofs
set_option maxRecDepth 20000
theorem zeroU8 {y : Value} {n : Nat} (h : y ∈ zeroList (Value.int .u8 0).cells n) : y = .int .u8 0 := by
  unfold zeroList at h
  obtain ⟨i, _, rfl⟩ := List.mem_map.1 h
  show ([Value.int .u8 0] : List Value).getD (i % 1) default = _
  rw [Nat.mod_one]; rfl
section
variable {ro : Nat} {s : St} {K : Value → St → Prop} {W : Nat → Prop} {cs : List Value} {B : PfB} {g : Nat → Nat → Nat → List Int} {h : Shp}
theorem wEncOk (hv : shV h = true) (hp : PfAt s W cs B (shR h).toNat h.q.toNat g) (hcl : cs.length = 8) (hg : ∀ k q i, (g k q i).length < 2 ^ 20) (hb : fitsB h g = true) (hw : Wf s) (hro : ro ≤ s.n) (hF : FieldsAt s)
    (hk : ∀ A s', Grew s s' → s.n ≤ A → Bys s' (.slice (some ⟨A, 0, none⟩) (encP g (partsAll h)).length (encP g (partsAll h)).length) (encP g (partsAll h)) → K (.tuple (.mk [.slice (some ⟨A, 0, none⟩) (encP g (partsAll h)).length (encP g (partsAll h)).length, .int .i64 0])) s') :
    CallWP P ro 23 [.agg (.mk h.cells), .agg (.mk cs)] s K := by
  refine call_wp b23 rfl ?_
  rw [n23]
  unfold v23
  simp (maxSteps := 10000000) only [wW, reduceCtorEq, Nat.reduceEqDiff]
  refine box_rule hw.ent fun C s1 m1 => ?_
  refine box_rule m1.wf fun E s2 m2 => ?_
  have e1 := m1.eq
  have n1 := m1.n
  have e2 := m2.eq
  have n2 := m2.n
  have hn0 : (ent s).n = s.n := rfl
  have g02 := m1.grew.trans m2.grew
  have hC2 : s2.at C = some (.cells h.cells 23 false) := (m2.grew.same C (by omega)).trans m1.here
  have hE2 : s2.at E = some (.cells cs 39 false) := m2.here
  have hp0 : PfAt (ent s) W cs B (shR h).toNat h.q.toNat g := hp.keep (s' := ent s) (Nat.le_refl _) fun _ _ => rfl
  have hF2 : FieldsAt s2 := FieldsAt.grew (s := ent s) hF g02
  rw [wop_load, load_all ap_23 hC2 rfl, wopt_some, wop_load, load_all ap_39 hE2 hcl, wopt_some, wFits h hv (hp0.grew g02) hg m2.wf (by omega) hF2, hb]
  simp (maxSteps := 10000000) only [wW, reduceCtorEq, Nat.reduceEqDiff]
  rw [wop_load, load_all ap_23 hC2 rfl, wopt_some, wGSize h m2.wf (by omega) hF2, size_enc hv hb]
  have hsz := size_bound hv
  have hse := size_enc (g := g) hv hb
  rw [size_sum hv] at hse
  refine makeLC_rule se_32 ty_5 m2.wf (by decide) (by omega) (by omega) (by decide) fun A s3 m3 => ?_
  have e3 := m3.eq
  have n3 := m3.n
  rw [Int.toNat_natCast] at m3 ⊢
  refine alloc_rule ty_32 m3.wf fun X s4 m4 => ?_
  have e4 := m4.eq
  have n4 := m4.n
  refine store1_rule isz_32 m4.here m4.wf (by omega) (by decide) rfl fun s5 p5 => ?_
  have n5 := p5.n
  have g24 := m3.grew.trans m4.grew
  have g25 : Grew s2 s5 := p5.grew _ m2.wf g24 (by omega)
  have g05 := g02.trans g25
  have hC5 := (g25.same C (by omega)).trans hC2
  have hE5 := (g25.same E (by omega)).trans hE2
  have hA5 := (p5.rest A (by omega)).trans ((m4.grew.same A (by omega)).trans m3.here)
  have hX5 := p5.here
  rw [wop_load, load_all ap_23 hC5 rfl, wopt_some]
  refine wAllFn h p5.wf fun B9 s6 g6 hB9 hB9n => ?_
  have n6 := g6.n
  have w6 := p5.wf.grew g6
  have hB9l := St.at_lt hB9
  refine wrange (by omega) fun t ht => ?_
  have g7 : Grew s6 (s6.new (.defd (some []))) := .new _ _
  generalize hr0 : ({ state := .ready, pending := none, t := t, params := #[20].toList, assign := c23_1110100, body := c23_1110101, defers := s6.n } : Lp) = lp
  have g8 : Grew (s6.new (.defd (some []))) ((s6.new (.defd (some []))).new (.loop lp)) := .new _ _
  have hD8 : ((s6.new (.defd (some []))).new (.loop lp)).at s6.n = some (.defd (some [])) := (g8.same s6.n (Nat.lt_succ_self s6.n)).trans (at_newest _ _)
  have hL8 : ((s6.new (.defd (some []))).new (.loop lp)).at (s6.n + 1) = some (.loop lp) := at_newest (s6.new (.defd (some []))) _
  have w8 : Wf ((s6.new (.defd (some []))).new (.loop lp)) := (w6.new _).new _
  have n8 : ((s6.new (.defd (some []))).new (.loop lp)).n = s6.n + 2 := rfl
  have g68 := g7.trans g8
  have hlp : lp.state = .ready ∧ lp.pending = none ∧ lp.t = t ∧ lp.params = [20] ∧ lp.assign = c23_1110100 ∧ lp.body = c23_1110101 := by rw [← hr0]; exact ⟨rfl, rfl, rfl, rfl, rfl, rfl⟩
  clear hr0
  generalize (s6.new (.defd (some []))).new (.loop lp) = s8 at *
  have g58 := g6.trans g68
  have g08 := g05.trans g58
  have hlo8 : s8.lo = s.n := g08.lo
  refine wAllJ (h := h) lp (EcJ (ent s) h cs g C E A X (s6.n + 1) s6.n (encP g (partsAll h)).length lp) (fun _ => False) hv ((g68.same B9 hB9l).trans hB9) (by rw [hlp.2.2.2.1]; rfl) EcJ.cli (by omega) (by omega) (fun i M s' hi hJ => ?_) (M0 := [s6.n + 1, A, X]) ?_ ?_ (fun M s' hJ => ?_) (fun s' hS => hS.elim)
  · refine ecRound ht hlp ?_ ?_ hp0 hv hg (by omega) ⟨by omega, by omega, by omega, by omega, by omega, by omega⟩ ⟨by omega, by omega, by omega, by omega, by omega, by omega, by omega, by omega, by omega, by omega, by omega, by omega⟩ hi hJ
    · simp only [U, tset_eq, wW, reduceCtorEq, Nat.reduceEqDiff]
    · simp only [U, tset_eq, wW, reduceCtorEq, Nat.reduceEqDiff]
  · refine ⟨w8.ent, by show s.n ≤ s8.n; omega, fun A hA => g08.same A hA, by show s.n ≤ s8.n; omega, hL8, hD8, (g58.same C (by omega)).trans hC5, (g58.same E (by omega)).trans hE5, ⟨_, (g58.same A (by omega)).trans hA5, ?_, ?_, fun y hy => ?_⟩, (g58.same X (by omega)).trans hX5, rfl⟩
    · rw [zeroList_len]; exact Nat.mul_one _
    · simp [encP]
    · exact ⟨0, zeroU8 hy⟩
  · simp only [List.mem_cons, List.not_mem_nil, or_false, not_or]
    exact ⟨by omega, by omega, by omega⟩
  · refine ⟨lp, .normal, hJ.loop, .inl hlp.1, by rw [hlp.2.1]; rfl, ?_⟩
    have wf' : Wf ({ s' with lo := min s8.lo s'.lo } : St) := ⟨by show min s8.lo s'.lo ≤ s'.n; have := hJ.wf.lo; omega, hJ.wf.len⟩
    have pe := Put.mk' wf' (St.at_lt (s := ({ s' with lo := min s8.lo s'.lo } : St)) hJ.loop) (.loop { lp with state := .exhausted })
    generalize ({ s' with lo := min s8.lo s'.lo } : St).put (s6.n + 1) (.loop { lp with state := .exhausted }) = se at pe ⊢
    have hne := pe.n
    have hne' : se.n = s'.n := hne
    have hXe := (pe.rest X (by omega)).trans hJ.x
    have hDe : se.at s6.n = some (.defd (some [])) := (pe.rest _ (by omega)).trans hJ.dfr
    have hJn : s.n ≤ s'.n := hJ.n
    have hJlo : s.n ≤ s'.lo := hJ.lo
    obtain ⟨c, hA, hcl', hct, _⟩ := hJ.a
    rw [List.take_length] at hct hXe
    have hAe := (pe.rest A (by omega)).trans hA
    simp (maxSteps := 10000000) only [U, tset_eq, wW, reduceCtorEq, Nat.reduceEqDiff]
    rw [wop_load, load_one ap_32 hXe rfl, wopt_some]
    refine ⟨hDe, by omega, ?_⟩
    have pd := Put.mk' pe.wf (St.at_lt hDe) (.defd none)
    generalize se.put s6.n (.defd none) = sd at pd ⊢
    have nd := pd.n
    have hAd := (pd.rest A (by omega)).trans hAe
    have hlod : sd.lo = s.n := by
      rw [pd.lo, pe.lo]
      show min (min (min s8.lo s'.lo) (s6.n + 1)) s6.n = s.n
      omega
    rw [wdefers_nil]
    refine wfin_new hw ⟨by omega, hlod, fun A hA => ?_, fun _ => pd.wf.len⟩ rfl fun s9 g9 hn9 hat9 => hk A s9 g9 (by omega) ?_
    · have hA' : A < s.n := hA
      rw [pd.rest A (by omega), pe.rest A (by omega)]
      exact hJ.same A hA
    · refine ⟨_, _, rfl, by rw [List.length_map, Nat.mul_one], ⟨Nat.le_refl _, fun h => (by cases h), fun x hx => by cases hx; exact .inl rfl⟩, fun _ => ⟨A, 0, none, c, _, _, rfl, rfl, (hat9 A).trans hAd, ?_⟩⟩
      rw [List.drop_zero, Nat.mul_one]
      exact hct
end
end Go.VE
/- Bytes as a text; equality. -/
namespace Go.VE
open Go Go.Proofs
set_option maxRecDepth 20000
theorem wop_eql_of {P : Program} [Memo] {ro : Nat} {t r ty : TypeId} {xs ys : List Value} {c : Bool} (hx : flatL xs = true) (hy : flatL ys = true) (hg : P.eqGuardType P.depth t = false) (h : runPure P (Op.equal t (.agg (.mk xs)) (.agg (.mk ys))) = some c) {s : St} {K : Value → St → Prop} :
    wop P ro (.binOp .eql t (.const (.agg (.mk xs))) (.const (.agg (.mk ys))) r) ty s K = K (.bool c) s := by
  have e : apure P .e (mkO (.binOp .eql t (.const (.agg (.mk xs))) (.const (.agg (.mk ys))) r) ty) = some (.val (.bool c)) := by
    unfold apure
    have e2 : runPure P (execOp (aval .e) (mkO (.binOp .eql t (.const (.agg (.mk xs))) (.const (.agg (.mk ys))) r) ty)) = some (Next.value (.bool c)) := by
      show runPure P ((do eqGuard .eql t (.const (.agg (.mk xs))) (.const (.agg (.mk ys))) (.agg (.mk xs)) (.agg (.mk ys)); binOp .eql t (.agg (.mk xs)) (.agg (.mk ys))) >>= fun v => pure (Next.value v)) = _
      rw [rp_bind, rp_bind]
      have e3 : runPure P (eqGuard .eql t (.const (.agg (.mk xs))) (.const (.agg (.mk ys))) (.agg (.mk xs)) (.agg (.mk ys))) = some () := by
        show runPure P (if (!P.eqGuardType P.depth t) = true then pure () else _) = _
        rw [hg]; rfl
      rw [e3]
      simp only [Option.bind_some]
      show (runPure P (Op.equal t (.agg (.mk xs)) (.agg (.mk ys)) >>= fun b => pure (Value.bool b))).bind _ = _
      rw [rp_bind, h]
      rfl
    rw [e2]
    rfl
  have hf : ∀ l : List Value, flatL l = true → flat' (.agg (.mk l)) = true := fun l hl => by
    show (false || flatL l) = true
    rw [hl]; rfl
  show wfol P ro K (abin P .e (mkO (.binOp .eql t (.const (.agg (.mk xs))) (.const (.agg (.mk ys))) r) ty) s .eql t (.agg (.mk xs)) (.agg (.mk ys))) = _
  simp only [abin, hf xs hx, hf ys hy, Bool.and_self, cond_true, e]
  rfl
section
variable {ro : Nat} {s : St} {K : Value → St → Prop}
theorem unStr : P.underlying 9 = some .string := by kernel_rfl
theorem wop_eql_str (a b : ByteArray) (r ty : TypeId) : wop P ro (.binOp .eql 9 (.const (.string a)) (.const (.string b)) r) ty s K = K (.bool (a.toList == b.toList)) s := by
  have e : apure P .e (mkO (.binOp .eql 9 (.const (.string a)) (.const (.string b)) r) ty) = some (.val (.bool (a.toList == b.toList))) := rfl
  show wfol P ro K (abin P .e (mkO (.binOp .eql 9 (.const (.string a)) (.const (.string b)) r) ty) s .eql 9 (.string a) (.string b)) = _
  have hf : ∀ b : ByteArray, flat' (.string b) = true := fun _ => rfl
  simp only [abin, hf, Bool.and_self, cond_true, e]
  rfl
theorem u8s_map : ∀ l : List Int, u8s (l.map (.int .u8)) = some l
  | [] => rfl
  | x :: l => by
    show (u8s (l.map (.int .u8))).map (x :: ·) = _
    rw [u8s_map l]; rfl
theorem conv_str {A o n c : Nat} {sp : Option Nat} {l : List Int} (h : Bys s (.slice (some ⟨A, o, sp⟩) n c) l) (ty : TypeId) : wop P ro (.convert 32 9 (.const (.slice (some ⟨A, o, sp⟩) n c))) ty s K = K (strOf l) s := by
  have hn : n = l.length := by
    obtain ⟨a, c', e, _⟩ := h
    cases e; rfl
  subst hn
  obtain ⟨_, hf⟩ := Sl.first h
  have u1 : P.underlying 32 = some (.slice 5) := un_32
  have u2 : isU8 P 5 = true := by kernel_rfl
  show wfol P ro K (aconv P .e (mkO (.convert 32 9 (.const (.slice (some ⟨A, o, sp⟩) l.length c))) ty) s 32 9 (.slice (some ⟨A, o, sp⟩) l.length c)) = _
  simp only [aconv, u1, unStr, u2, cond_true]
  rw [wfol_with]
  unfold astr
  rw [hf, Option.bind_some, u8s_map]
  rfl
theorem eql_bytes (l : List Int) (r ty : TypeId) : wop P ro (.binOp .eql 9 (.const (strOf l)) (.const (strOf l)) r) ty s K = K (.bool true) s := by
  unfold strOf
  rw [wop_eql_str]
  have : ∀ l : List UInt8, (l == l) = true := fun l => beq_self_eq_true l
  rw [this]
end
end Go.VE
/- The example that every law of proofs looks at: attestorlaw17.awake. -/
namespace Go.VE
open Go Go.Proofs
set_option maxRecDepth 20000
def tinyS : Shp := ⟨0, 2, 1, 1, 2, 0, 1, 0, 1⟩
def tinyB (i : Nat) (x : Int) : List Int := (List.replicate 176 (0 : Int)).set i x
theorem tiny_v : shV tinyS = true := by decide +kernel
theorem tiny_17 : (partsR tinyS).length = 17 := by decide +kernel
theorem tiny_p0 : (partsR tinyS)[0]? = some ⟨1, 0, 0, 4⟩ := by kernel_rfl
theorem tiny_p3 : (partsR tinyS)[3]? = some ⟨6, 0, 0, 4⟩ := by kernel_rfl
theorem tiny_p8 : (partsR tinyS)[8]? = some ⟨9, 0, 1, 4⟩ := by kernel_rfl
theorem tiny_size : sizeM tinyS = 176 := by decide +kernel
noncomputable def tinyG : Nat → Nat → Nat → List Int := (goneG (tinyB 4 7) (partsR tinyS)).2
theorem tiny_dec : decE (tinyB 4 7) (fP 0) (goneG (tinyB 4 7) (partsR tinyS)).1 = (0, 0) := by decide +kernel
theorem tiny_fits : fitsB tinyS tinyG = true := by decide +kernel
theorem tiny_enc : encP tinyG (partsAll tinyS) = tinyB 4 7 := by decide +kernel
theorem tiny_dig : tinyG 1 0 0 = [0, 7, 0, 0] := by decide +kernel
theorem tinyB_ok (i : Nat) {x : Int} (hx : 0 ≤ x ∧ x < 256) : ∀ y ∈ tinyB i x, 0 ≤ y ∧ y < 256 := fun y hy => by
  rcases List.mem_or_eq_of_mem_set hy with h | rfl
  · rw [List.eq_of_mem_replicate h]; decide
  · exact hx
theorem tinyB_len (i : Nat) (x : Int) : (tinyB i x).length = 176 := by unfold tinyB; rw [List.length_set, List.length_replicate]
theorem goneG_len {b : List Int} {l : List Prt} (h : ∀ x ∈ l, x.n.toNat < 2 ^ 20) (k q i : Nat) : ((goneG b l).2 k q i).length < 2 ^ 20 := by
  have main : ∀ (l : List Prt) (kg : Nat × (Nat → Nat → Nat → List Int)), (∀ x ∈ l, x.n.toNat < 2 ^ 20) → (∀ k q i, (kg.2 k q i).length < 2 ^ 20) → ∀ k q i, ((l.foldl (stepG b) kg).2 k q i).length < 2 ^ 20 := by
    intro l
    induction l with
    | nil => intro kg _ h; exact h
    | cons x l ih =>
      intro kg hx hk
      refine ih _ (fun y hy => hx y (List.mem_cons_of_mem _ hy)) fun k q i => ?_
      show (updG kg.2 x.k.toNat x.q.toNat x.i.toNat (numsB b kg.1 x.n.toNat) k q i).length < _
      unfold updG
      split
      · rw [numsB_len]; exact hx x List.mem_cons_self
      · exact hk k q i
  refine main l (0, g0) h (fun k q i => ?_) k q i
  show (g0 k q i).length < _
  unfold g0
  split
  · decide
  · split <;> simp
theorem PrtZ.n1 {R Q : Nat} {x : Prt} (h : PrtZ R Q x) : x.n.toNat < 2 ^ 20 := by
  obtain ⟨k, q, i, n, rfl, _, h, _⟩ := h
  show (n : Int).toNat < _
  omega
theorem gone_len {h : Shp} (hv : shV h = true) (b : List Int) (k q i : Nat) : ((goneG b (partsR h)).2 k q i).length < 2 ^ 20 := goneG_len (fun x hx => (partsR_ok hv x hx).n1) k q i
theorem PfAt.list {s : St} {W : Nat → Prop} {cs : List Value} {B : PfB} {R Q : Nat} {g : Nat → Nat → Nat → List Int} (h : PfAt s W cs B R Q g) :
    ∃ v0 v1 v2 v5 x3 x6, cs = [v0, v1, v2, .int .u64 x3, .slice (some ⟨B.rb, 0, none⟩) R R, v5, .int .u64 x6, .slice (some ⟨B.ob, 0, none⟩) Q Q] ∧ SlV s W 2 v0 (g 1 0 0) ∧ SlV s W 2 v1 (g 3 0 0) ∧ SlV s W 2 v2 (g 4 0 0) ∧ g 2 0 0 = [x3] ∧ SlV s W 1 v5 (g 6 0 0) ∧ g 7 0 0 = [x6] := by
  have hc : ∀ {k : Nat} (hk : k = 1 ∨ k = 2 ∨ k = 3 ∨ k = 4 ∨ k = 6 ∨ k = 7), SlotC s W k cs (slotA B k 0 0).2 (g k 0 0) := fun {k} hk => by
    obtain ⟨c, hc, hS⟩ := h.sl k 0 0 (.top k hk)
    have e0 : (slotA B k 0 0).1 = none := by rcases hk with rfl | rfl | rfl | rfl | rfl | rfl <;> rfl
    rw [e0] at hc
    simp only [cellsAt, Option.some.injEq] at hc
    rw [hc]
    exact hS
  have hs : ∀ {k : Nat} (_ : k = 1 ∨ k = 3 ∨ k = 4 ∨ k = 6), ∃ v, cs[(slotA B k 0 0).2]? = some v ∧ SlV s W (if k = 6 ∨ k = 8 then 1 else 2) v (g k 0 0) := fun {k} hk => by
    have hS := hc (k := k) (by omega)
    unfold SlotC at hS
    rw [if_neg (by omega), if_neg (by omega)] at hS
    exact hS
  have hn : ∀ {k : Nat} (_ : k = 2 ∨ k = 7), ∃ x, g k 0 0 = [x] ∧ cs[(slotA B k 0 0).2]? = some (.int .u64 x) := fun {k} hk => by
    have hS := hc (k := k) (by omega)
    unfold SlotC at hS
    rw [if_pos hk] at hS
    exact hS
  obtain ⟨v0, a0, b0⟩ := hs (k := 1) (by omega)
  obtain ⟨v1, a1, b1⟩ := hs (k := 3) (by omega)
  obtain ⟨v2, a2, b2⟩ := hs (k := 4) (by omega)
  obtain ⟨v5, a5, b5⟩ := hs (k := 6) (by omega)
  obtain ⟨x3, b3, a3⟩ := hn (k := 2) (by omega)
  obtain ⟨x6, b6, a6⟩ := hn (k := 7) (by omega)
  have h4 := h.c4
  have h7 := h.c7
  have hl := h.cl
  refine ⟨v0, v1, v2, v5, x3, x6, ?_, b0, b1, b2, b3, b5, b6⟩
  simp only [slotA] at a0 a1 a2 a3 a5 a6
  match cs, hl with
  | [y0, y1, y2, y3, y4, y5, y6, y7], _ =>
    simp only [List.getElem?_cons_zero, List.getElem?_cons_succ, Option.some.injEq] at a0 a1 a2 a3 a5 a6 h4 h7
    rw [a0, a1, a2, a3, a5, a6, h4, h7]
theorem Sl.dig {s : St} {v : Value} {m : Nat} {l : List Int} (h : Sl s v 2 m (l.map (.int .u64))) (hl : l.length = m * 2) {i : Nat} (hi : i < m) : ∃ p, aindexAddr P 33 v (.int .i64 (i : Int)) = some p ∧ aload P s 55 p = some (.agg (.mk (((l.drop (i * 2)).take 2).map (.int .u64)))) := by
  obtain ⟨A, o, h1, h2, h3⟩ := Sl.ix h (by decide) (show (0 : Int) ≤ i by omega) (show (i : Int) < m by omega)
  refine ⟨_, h1 se_33 isz_55, ?_⟩
  rw [loadN ap_55]
  have := h3 0 2 (by decide) (by decide)
  rw [Nat.add_zero, Nat.add_zero, Int.toNat_natCast] at this
  rw [this, cut_eq (by rw [List.length_map]; omega), ← List.map_drop, ← List.map_take]
  rfl
theorem veq_sl {v : Value} {s : St} {W : Nat → Prop} {sz : Nat} {l : List Int} (h : SlV s W sz v l) : veq v v = true := by
  obtain ⟨m, _, ⟨a, c, rfl, _⟩, _⟩ := h
  simp [veq]
theorem PfAt.veq {s : St} {W : Nat → Prop} {cs : List Value} {B : PfB} {R Q : Nat} {g : Nat → Nat → Nat → List Int} (h : PfAt s W cs B R Q g) : veq (.agg (.mk cs)) (.agg (.mk cs)) = true := by
  obtain ⟨v0, v1, v2, v5, x3, x6, rfl, h0, h1, h2, h3, h5, h6⟩ := h.list
  simp only [VE.veq, veqA, veqL, veq_sl h0, veq_sl h1, veq_sl h2, veq_sl h5, Bool.and_true, Bool.true_and]
  simp
theorem spliceSet {cs : List Value} {i : Nat} {v : Value} (h : i < cs.length) : splice cs i [v] = cs.set i v := by
  rw [List.set_eq_take_append_cons_drop, if_pos h]
  rfl
section
variable {ro : Nat} {s : St} {K : Value → St → Prop}
theorem bldTiny : abuild P 23 (partVals .e [(1, .const (.int .i64 2)), (2, .const (.int .i64 1)), (3, .const (.int .i64 1)), (4, .const (.int .i64 2)), (6, .const (.int .i64 1)), (8, .const (.int .i64 1))]) = some (.agg (.mk tinyS.cells)) := by kernel_rfl
theorem bldP1 : abuild P 30 (partVals .e [(0, .const (.int .u8 1)), (3, .const (.int .i64 4))]) = some (.agg (.mk (Prt.cells ⟨1, 0, 0, 4⟩))) := by kernel_rfl
theorem bldP9 : abuild P 30 (partVals .e [(0, .const (.int .u8 9)), (2, .const (.int .i64 1)), (3, .const (.int .i64 4))]) = some (.agg (.mk (Prt.cells ⟨9, 0, 1, 4⟩))) := by kernel_rfl
theorem bldD7 : abuild P 55 (partVals .e [(0, .const (.int .u64 0)), (1, .const (.int .u64 7))]) = some (.agg (.mk (([0, 7] : List Int).map (.int .u64)))) := by kernel_rfl
theorem eqlDig (xs ys : List Int) (hx : xs.length = 2) (hy : ys.length = 2) {ty r : TypeId} : wop P ro (.binOp .eql 55 (.const (.agg (.mk (xs.map (.int .u64))))) (.const (.agg (.mk (ys.map (.int .u64))))) r) ty s K = K (.bool (decide (xs = ys))) s :=
  wop_eql_of (flat_u64s _) (flat_u64s _) (by kernel_rfl) (eqArr (n := 2) (e := 34) (by kernel_rfl) unU64 isz_34 partU64 xs ys hx hy)
theorem wTiny (hw : Wf s) (hro : ro ≤ s.n) : CallWP P ro 25 [] s K = K (.agg (.mk tinyS.cells)) s := by
  refine callEq (call_wp b25 rfl ?_) K
  rw [n25]
  unfold v25
  simp (maxSteps := 10000000) only [wW, reduceCtorEq, Nat.reduceEqDiff]
  refine alloc_rule ty_23 hw.ent fun C s1 m1 => ?_
  have e1 := m1.eq
  have hn0 : (ent s).n = s.n := rfl
  rw [bldTiny, wopt_some]
  refine storeAll_rule isz_23 m1.here (l := tinyS.cells) rfl (by decide) m1.wf (by omega) rfl rfl fun s2 p2 => ?_
  rw [wop_load, load_all ap_23 p2.here rfl, wopt_some]
  exact fin_flat rfl (p2.grew _ hw.ent m1.grew (by omega)) ⟨rfl, rfl⟩
theorem tinyS_bytes (A : Nat) {s : St} {i : Nat} {x : Int} (hA : s.at A = some (.cells (splice (zeroList (Value.int .u8 0).cells (Int.toNat 176 * 1)) i [.int .u8 x]) 5 false)) (hi : i < 176) : Bys s (.slice (some ⟨A, 0, none⟩) 176 176) (tinyB i x) := by
  have hlen := tinyB_len i x
  unfold Bys
  rw [hlen]
  refine ⟨_, _, rfl, by rw [List.length_map, hlen], ⟨Nat.le_refl _, fun h => (by cases h), fun x hx => by cases hx; exact .inl rfl⟩, fun _ => ⟨A, 0, none, _, _, _, rfl, rfl, hA, ?_⟩⟩
  have hz : zeroList (Value.int .u8 0).cells (Int.toNat 176 * 1) = (List.replicate 176 (0 : Int)).map (.int .u8) := by kernel_rfl
  rw [List.drop_zero, hz, spliceSet (by rw [List.length_map, List.length_replicate]; exact hi)]
  unfold tinyB
  rw [List.map_set]
  exact List.take_of_length_le (by rw [List.length_set, List.length_map, List.length_replicate]; decide)
end
end Go.VE
/- attestorlaw17.awake. -/
namespace Go.VE
open Go Go.Proofs
set_option maxRecDepth 20000
section
variable {ro : Nat} {s : St} {K : Value → St → Prop}
theorem wAwake (hw : Wf s) (hro : ro ≤ s.n) (hF : FieldsAt s) : CallWP P ro 16 [] s K = K (.bool true) s := by
  refine callEq (call_wp b16 rfl ?_) K
  rw [n16]
  unfold v16
  simp (maxSteps := 10000000) only [wW, reduceCtorEq, Nat.reduceEqDiff]
  have hFe : FieldsAt (ent s) := hF
  have hn0 : (ent s).n = s.n := rfl
  have hroe : ro ≤ (ent s).n := hro
  have h0n : 0 < s.n := hF.lt
  have hv := tiny_v
  rw [wTiny hw.ent hroe]
  refine wGParts tinyS hw.ent hroe hFe (fun h => by rw [hv] at h; cases h) fun _ v s1 g1 hP hPA => ?_
  have n1 := g1.n
  have w1 := hw.ent.grew g1
  have hF1 := hFe.grew g1
  have h17 := tiny_17
  rw [Sl.wlen hP se_24, h17]
  simp (maxSteps := 10000000) only [wW, reduceCtorEq, Nat.reduceEqDiff]
  have hget : ∀ (i : Nat) (p : Prt) (_ : i < 17), (partsR tinyS)[i]? = some p → ∃ A o, aindexAddr P 24 v (.int .i64 (i : Int)) = some (.pointer (some ⟨A, o, none⟩)) ∧ aload P s1 30 (.pointer (some ⟨A, o, none⟩)) = some (.agg (.mk p.cells)) := fun i p h hp => by
    have hi : i < (partsR tinyS).length := by omega
    obtain ⟨A, o, q1, q2⟩ := hP.ix hi
    rw [List.getElem?_eq_getElem hi] at hp
    cases hp
    exact ⟨A, o, q1, q2⟩
  have hget3 : ∀ (i : Nat) (p : Prt) (_ : i < 17), (partsR tinyS)[i]? = some p → ∃ A o, aindexAddr P 24 v (.int .i64 (i : Int)) = some (.pointer (some ⟨A, o, none⟩)) ∧ (∀ k, k < 4 → (acells (s1.at A)).bind (fun c => c[o + k]?) = p.cells[k]?) := fun i p h hp => by
    have hi : i < (partsR tinyS).length := by omega
    obtain ⟨A, o, h1, h2, h3⟩ := Sl.ix hP (by decide) (show (0 : Int) ≤ i by omega) (show (i : Int) < (partsR tinyS).length by omega)
    refine ⟨A, o, h1 se_24 isz_30, fun k hk => ?_⟩
    rw [h2 k hk, Int.toNat_natCast, prts_get _ hp hk]
  obtain ⟨A0, o0, q0, r0⟩ := hget 0 _ (by decide) tiny_p0
  obtain ⟨A3, o3, q3, r3⟩ := hget3 3 _ (by decide) tiny_p3
  obtain ⟨A8, o8, q8, r8⟩ := hget 8 _ (by decide) tiny_p8
  have r30 : aload P s1 28 (.pointer (some ⟨A3, o3 + 0, none⟩)) = some (.int .u8 6) := by rw [load1 ap_28]; exact r3 0 (by decide)
  have r33 : aload P s1 3 (.pointer (some ⟨A3, o3 + 3, none⟩)) = some (.int .i64 4) := by rw [load1 ap_3]; exact r3 3 (by decide)
  have q0' : aindexAddr P 24 v (.int .i64 0) = some (.pointer (some ⟨A0, o0, none⟩)) := q0
  have q3' : aindexAddr P 24 v (.int .i64 3) = some (.pointer (some ⟨A3, o3, none⟩)) := q3
  have q8' : aindexAddr P 24 v (.int .i64 8) = some (.pointer (some ⟨A8, o8, none⟩)) := q8
  rw [wop_indexAddr, q0', wopt_some, wop_load, r0, wopt_some, bldP1, wopt_some, neqPart_same, wdec_false, wop_indexAddr, q3', wopt_some, fa_30_0, wopt_some, wop_load, r30, wopt_some]
  simp (maxSteps := 10000000) only [wW, reduceCtorEq, Nat.reduceEqDiff]
  rw [if_neg (by decide), wop_indexAddr, q3', wopt_some, fa_30_3, wopt_some, wop_load, r33, wopt_some]
  simp (maxSteps := 10000000) only [wW, reduceCtorEq, Nat.reduceEqDiff]
  rw [if_neg (by decide), wop_indexAddr, q8', wopt_some, wop_load, r8, wopt_some, bldP9, wopt_some, neqPart_same, wdec_false, wTiny w1 (by omega), wGSize tinyS w1 (by omega) hF1, tiny_size]
  simp (maxSteps := 10000000) only [wW, reduceCtorEq, Nat.reduceEqDiff]
  rw [if_neg (by decide)]
  refine makeLC_rule se_32 ty_5 w1 (by decide) (by decide) (by decide) (by decide) fun A s2 m2 => ?_
  have e2 := m2.eq
  have n2 := m2.n
  have hix : aindexAddr P 32 (.slice (some ⟨A, 0, none⟩) (Int.toNat 176) (Int.toNat 176)) (.int .i64 4) = some (.pointer (some ⟨A, 4, none⟩)) := by
    simp only [aindexAddr, un_32, isz_5, Option.bind_some, aplace]
    rfl
  rw [wop_indexAddr, hix, wopt_some]
  refine store1_rule isz_5 m2.here m2.wf (by omega) (by rw [zeroList_len]; decide) rfl fun s3 p3 => ?_
  have n3 := p3.n
  have g3 : Grew s1 s3 := p3.grew _ w1 m2.grew (by omega)
  have g03 := g1.trans g3
  have hF3 := hF1.grew g3
  have hA3 := p3.here
  have hb3 : Bys s3 (.slice (some ⟨A, 0, none⟩) 176 176) (tinyB 4 7) := tinyS_bytes A hA3 (by decide)
  have hAl := St.at_lt hA3
  rw [wTiny p3.wf (by omega)]
  refine wDecode tinyS (tinyB_ok 4 (by decide)) (by rw [tinyB_len]; decide) hb3 (fun _ A' o sp n c e => by cases e; exact hAl) p3.wf (by omega) hF3 (fun h => by rw [hv] at h; cases h) (fun _ h => absurd (by rw [show tinyS.f = 0 from rfl, tiny_dec]) h) fun _ _ _ cs B s4 W g4 _ hW hWB hp => ?_
  have n4 := g4.n
  have w4 := p3.wf.grew g4
  have hcl : cs.length = 8 := hp.cl
  simp (maxSteps := 10000000) only [wW, reduceCtorEq, Nat.reduceEqDiff, List.getElem?_cons_zero, List.getElem?_cons_succ]
  refine alloc_rule ty_39 w4 fun Z s5 m5 => ?_
  have e5 := m5.eq
  have n5 := m5.n
  refine storeAll_rule isz_39 m5.here (l := cs) hcl (by decide) m5.wf (by omega) rfl hp.one fun s6 p6 => ?_
  have n6 := p6.n
  have g46 : Grew s4 s6 := p6.grew _ w4 m5.grew (by omega)
  have g36 := g4.trans g46
  have hF6 := hF3.grew g36
  have hp6 := hp.grew g46
  rw [wop_load, load_all ap_39 p6.here hcl, wopt_some]
  refine ⟨hp.veq, ?_⟩
  rw [wTiny p6.wf (by omega)]
  refine ⟨.refl _, ?_⟩
  refine wEncOk (h := tinyS) (g := tinyG) hv hp6 hcl (gone_len hv _) tiny_fits p6.wf (by omega) hF6 fun A7 s7 g7 hA7 hb7 => ?_
  rw [tiny_enc, tinyB_len] at hb7 ⊢
  have n7 := g7.n
  have g37 := g36.trans g7
  simp (maxSteps := 10000000) only [wW, reduceCtorEq, Nat.reduceEqDiff, List.getElem?_cons_zero, List.getElem?_cons_succ]
  obtain ⟨v0, v1, v2, v5, x3, x6, hcs, hV, _⟩ := (hp6.grew g7).list
  have hZ7 : s7.at Z = some (.cells cs 39 false) := (g7.same Z (St.at_lt p6.here)).trans p6.here
  have hv0 : cs[0]? = some v0 := by rw [hcs]; rfl
  have hld0 : aload P s7 33 (.pointer (some ⟨Z, 0, none⟩)) = some v0 := by rw [load1 ap_33, acells_some hZ7]; exact hv0
  have hdig : (goneG (tinyB 4 7) (partsR tinyS)).2 1 0 0 = [0, 7, 0, 0] := tiny_dig
  rw [hdig] at hV
  obtain ⟨m, hm, hSl, _⟩ := hV
  have hm2 : m = 2 := by simp at hm; omega
  subst hm2
  obtain ⟨pd, i1, i2⟩ := hSl.dig (i := 0) rfl (by decide)
  have i1' : aindexAddr P 33 v0 (.int .i64 0) = some pd := i1
  rw [fa_39_0, wopt_some, wop_load, hld0, wopt_some, Sl.wlen hSl se_33]
  simp (maxSteps := 10000000) only [wW, reduceCtorEq, Nat.reduceEqDiff]
  rw [if_pos (by decide), wop_load, hld0, wopt_some, wop_indexAddr, i1', wopt_some, wop_load, i2, wopt_some, bldD7, wopt_some]
  have hb3' : Bys s7 (.slice (some ⟨A, 0, none⟩) 176 176) (tinyB 4 7) := Sl.grew hb3 g37.same
  show wop P ro (.binOp .eql 55 (.const (.agg (.mk (([0, 7] : List Int).map (.int .u64))))) (.const (.agg (.mk (([0, 7] : List Int).map (.int .u64))))) _) _ _ _
  rw [eqlDig _ _ rfl rfl, decide_eq_true rfl]
  simp (maxSteps := 10000000) only [wW, reduceCtorEq, Nat.reduceEqDiff]
  rw [show Int.toNat 176 = 176 from rfl, conv_str hb3', conv_str hb7, eql_bytes]
  exact fin_flat rfl (g03.trans g37) ⟨rfl, rfl⟩
end
end Go.VE
/- ProofKnown: what is looked at, the last part. -/
namespace Go.VE
open Go Go.Proofs
set_option maxRecDepth 20000
theorem sumN_app : ∀ a b : List Prt, sumN (a ++ b) = sumN a + sumN b
  | [], b => by simp [sumN]
  | x :: a, b => by
    have := sumN_app a b
    simp only [List.cons_append, sumN]
    omega
end Go.VE
/- ProofKnown. -/
namespace Go.VE
open Go Go.Proofs
set_option maxRecDepth 20000
section
variable {ro : Nat} {s : St} {K : Value → St → Prop}
end
end Go.VE
/- The parts of a proof in bytes: what is read is what was written (plain law). -/
namespace Go.VE
open Go Go.Proofs
set_option maxRecDepth 20000
def keyP (x : Prt) : Nat × Nat × Nat := (x.k.toNat, x.q.toNat, x.i.toNat)
def rkP : Nat × Nat × Nat → Nat
  | (k, q, i) => if k ≤ 7 then k * 1000 + i else 10000 * (q + 1) + (if k = 8 then i else if k = 9 then 10 + i else if k = 10 then 100 + 2 * i else 101 + 2 * i)
def Srt (l : List Prt) (m : Nat) : Prop := l.Pairwise (fun x y => rkP (keyP x) < rkP (keyP y)) ∧ ∀ x ∈ l, rkP (keyP x) < m
theorem Srt.le {l : List Prt} {m m' : Nat} (h : Srt l m) (hm : m ≤ m') : Srt l m' := ⟨h.1, fun x hx => Nat.lt_of_lt_of_le (h.2 x hx) hm⟩
theorem Srt.snoc {l : List Prt} {m m' : Nat} {x : Prt} (h : Srt l m) (h1 : m ≤ rkP (keyP x)) (h2 : rkP (keyP x) < m') : Srt (l ++ [x]) m' := by
  refine ⟨List.pairwise_append.2 ⟨h.1, List.pairwise_singleton _ _, fun a ha b hb => ?_⟩, fun y hy => ?_⟩
  · simp only [List.mem_cons, List.not_mem_nil, or_false] at hb
    subst hb
    exact Nat.lt_of_lt_of_le (h.2 a ha) h1
  · rcases List.mem_append.1 hy with hy | hy
    · have := h.2 y hy; omega
    · simp only [List.mem_cons, List.not_mem_nil, or_false] at hy
      subst hy; exact h2
theorem it_srt {g : Nat → List Prt → List Prt} {f : Nat → Nat} : ∀ (n : Nat) {l : List Prt}, Srt l (f 0) → (∀ i, i < n → ∀ l, Srt l (f i) → Srt (g i l) (f (i + 1))) → Srt (it g n l) (f n)
  | 0, _, h, _ => h
  | n + 1, l, h, hg => hg n (by omega) _ (it_srt n h fun i hi => hg i (by omega))
theorem partsAll_srt {h : Shp} (hv : shV h = true) : ∃ m, Srt (partsAll h) m := by
  unfold shV inR at hv
  simp only [Bool.and_eq_true, decide_eq_true_eq] at hv
  have hR : (shR h).toNat ≤ 4 := by unfold shR; omega
  have hpre : Srt (preA h) 5000 := by
    have h0 : Srt [] 0 := ⟨List.Pairwise.nil, fun x hx => by cases hx⟩
    have h1 := h0.snoc (x := ⟨1, 0, 0, 2 * shC h (h.a + h.b)⟩) (m' := 1001) (Nat.zero_le _) (by decide : rkP (1, 0, 0) < 1001)
    have h2 := h1.snoc (x := ⟨2, 0, 0, 1⟩) (m' := 2001) (by decide : 1001 ≤ rkP (2, 0, 0)) (by decide : rkP (2, 0, 0) < 2001)
    have h3 := h2.snoc (x := ⟨3, 0, 0, if h.w = 0 then 0 else 2 * shC h (h.a + h.b)⟩) (m' := 3001) (by decide : 2001 ≤ rkP (3, 0, 0)) (by decide : rkP (3, 0, 0) < 3001)
    exact h3.snoc (x := ⟨4, 0, 0, 2 * shC h (h.a + h.b)⟩) (m' := 5000) (by decide : 3001 ≤ rkP (4, 0, 0)) (by decide : rkP (4, 0, 0) < 5000)
  have hA : Srt (it (alA h) (shR h).toNat (preA h)) (5000 + (shR h).toNat) := it_srt (f := fun i => 5000 + i) _ hpre fun i hi l hl => by
    have e : rkP (keyP ⟨5, 0, (i : Nat), 2 * shC h (shH h i)⟩) = 5000 + i := rfl
    exact hl.snoc (by rw [e]; exact Nat.le_refl _) (by rw [e]; exact Nat.lt_succ_self _)
  have hmid : Srt (midA h) 10000 := by
    have h6 := hA.snoc (x := ⟨6, 0, 0, 2 ^ (h.a - 3 * shR h).toNat⟩) (m' := 6001) (by show 5000 + (shR h).toNat ≤ 6000; omega) (by decide : rkP (6, 0, 0) < 6001)
    have h7 := h6.snoc (x := ⟨7, 0, 0, 1⟩) (m' := 10000) (by decide : 6001 ≤ rkP (7, 0, 0)) (by decide : rkP (7, 0, 0) < 10000)
    unfold midA
    rw [List.append_assoc] at h7
    exact h7
  refine ⟨_, it_srt (f := fun j => 10000 * (j + 1)) h.q.toNat hmid fun j hj l hl => ?_⟩
  have h8 : Srt (it (al8 h j) 6 l) (10000 * (j + 1) + 6) := it_srt (f := fun i => 10000 * (j + 1) + i) _ hl fun i hi l hl => by
    have e : rkP (keyP ⟨8, j, (i : Nat), colAt h i⟩) = 10000 * (j + 1) + i := rfl
    exact hl.snoc (by rw [e]; exact Nat.le_refl _) (by rw [e]; exact Nat.lt_succ_self _)
  have h9 : Srt (it (al9 h j) 6 (it (al8 h j) 6 l)) (10000 * (j + 1) + (10 + 6)) := it_srt (f := fun i => 10000 * (j + 1) + (10 + i)) _ (h8.le (by omega)) fun i hi l hl => by
    have e : rkP (keyP ⟨9, j, (i : Nat), if colAt h i = 0 then 0 else 2 * shP h (h.a + h.b)⟩) = 10000 * (j + 1) + (10 + i) := rfl
    exact hl.snoc (by rw [e]; exact Nat.le_refl _) (by rw [e]; omega)
  have hB : Srt (alQ h j l) (10000 * (j + 1) + (100 + 2 * (shR h).toNat)) := it_srt (f := fun i => 10000 * (j + 1) + (100 + 2 * i)) _ (h9.le (by omega)) fun i hi l hl => by
    have e : rkP (keyP ⟨10, j, (i : Nat), 8⟩) = 10000 * (j + 1) + (100 + 2 * i) := rfl
    have e2 : rkP (keyP ⟨11, j, (i : Nat), 2 * shP h (shH h i)⟩) = 10000 * (j + 1) + (101 + 2 * i) := rfl
    have h1 := hl.snoc (x := ⟨10, j, (i : Nat), 8⟩) (m' := 10000 * (j + 1) + (101 + 2 * i)) (by rw [e]; exact Nat.le_refl _) (by rw [e]; omega)
    have h2 := h1.snoc (x := ⟨11, j, (i : Nat), 2 * shP h (shH h i)⟩) (m' := 10000 * (j + 1) + (100 + 2 * (i + 1))) (by rw [e2]; exact Nat.le_refl _) (by rw [e2]; omega)
    rw [List.append_assoc] at h2
    exact h2
  exact hB.le (by omega)
theorem goneG_at {b : List Int} {l : List Prt} (hs : l.Pairwise fun x y => rkP (keyP x) < rkP (keyP y)) : ∀ n, n ≤ l.length →
    (goneG b (l.take n)).1 = sumN (l.take n) ∧ (∀ j (hj : j < n) (hl : j < l.length), (goneG b (l.take n)).2 l[j].k.toNat l[j].q.toNat l[j].i.toNat = numsB b (sumN (l.take j)) l[j].n.toNat) ∧
      (∀ k q i, (∀ x ∈ l.take n, keyP x ≠ (k, q, i)) → (goneG b (l.take n)).2 k q i = g0 k q i)
  | 0, _ => ⟨rfl, fun j hj => by omega, fun k q i _ => rfl⟩
  | n + 1, hn => by
    obtain ⟨h1, h2, h3⟩ := goneG_at hs n (by omega)
    have hlt : n < l.length := by omega
    have ht := take_succ_eq (List.getElem?_eq_getElem hlt)
    have e1 : (goneG b (l.take (n + 1))).1 = (goneG b (l.take n)).1 + l[n].n.toNat := by rw [ht, goneG_snoc]; rfl
    have e2 : (goneG b (l.take (n + 1))).2 = updG (goneG b (l.take n)).2 l[n].k.toNat l[n].q.toNat l[n].i.toNat (numsB b (goneG b (l.take n)).1 l[n].n.toNat) := by rw [ht, goneG_snoc]; rfl
    refine ⟨?_, fun j hj hl => ?_, fun k q i hne => ?_⟩
    · rw [e1, h1, ht, sumN_app]; rfl
    · rw [e2]
      by_cases hjn : j = n
      · subst hjn
        unfold updG
        rw [if_pos ⟨rfl, rfl, rfl⟩, h1]
      · unfold updG
        rw [if_neg ?_]
        · exact h2 j (by omega) hl
        · rintro ⟨a, b', c⟩
          have hp := List.pairwise_iff_getElem.1 hs j n hl hlt (by omega)
          have hk : keyP l[j] = keyP l[n] := by unfold keyP; rw [a, b', c]
          rw [hk] at hp
          omega
    · rw [e2]
      unfold updG
      rw [if_neg ?_]
      · exact h3 k q i fun x hx => hne x (by rw [ht]; exact List.mem_append_left _ hx)
      · rintro ⟨rfl, rfl, rfl⟩
        exact hne l[n] (by rw [ht]; exact List.mem_append_right _ List.mem_cons_self) rfl
theorem goneG_1 (b : List Int) : ∀ (l : List Prt), (goneG b l).1 = sumN l := fun l => by
  have main : ∀ (l : List Prt) (kg : Nat × (Nat → Nat → Nat → List Int)), (l.foldl (stepG b) kg).1 = kg.1 + sumN l := by
    intro l
    induction l with
    | nil => intro kg; rfl
    | cons x l ih =>
      intro kg
      rw [List.foldl_cons, ih]
      show kg.1 + x.n.toNat + sumN l = kg.1 + (x.n.toNat + sumN l)
      omega
  unfold goneG
  rw [main]
  show 0 + _ = _
  omega
theorem leB_eq (x : Int) (j : Nat) (hj : j < 8) : leB x j = x / 2 ^ (8 * j) % 256 := by
  unfold leB
  rw [wrap_u8_mod, show min (8 * j) 64 = 8 * j by omega, Int.fdiv_eq_ediv_of_nonneg _ (Int.le_of_lt (Int.pow_pos (by decide)))]
theorem leB_sum {x : Int} (h0 : 0 ≤ x) (h1 : x < 2 ^ 32) : leB x 0 + leB x 1 * 2 ^ 8 + leB x 2 * 2 ^ 16 + leB x 3 * 2 ^ 24 = x := by
  rw [leB_eq _ _ (by decide), leB_eq _ _ (by decide), leB_eq _ _ (by decide), leB_eq _ _ (by decide)]
  simp only [Nat.mul_zero, Nat.reduceMul, Int.reducePow]
  omega
theorem leB_ok (x : Int) (j : Nat) : 0 ≤ leB x j ∧ leB x j < 256 := by
  unfold leB
  rw [wrap_u8_mod]
  omega
theorem encL_ok (l : List Int) : ∀ y ∈ encL l, 0 ≤ y ∧ y < 256 := fun y hy => by
  unfold encL leN at hy
  obtain ⟨x, _, hy⟩ := List.mem_flatMap.1 hy
  obtain ⟨j, _, rfl⟩ := List.mem_map.1 hy
  exact leB_ok x j
theorem encL_get : ∀ (l : List Int) {k i : Nat} (hk : k < l.length) (_ : i < 4), (encL l)[4 * k + i]? = some (leB l[k] i)
  | [], k, i, hk, _ => by simp at hk
  | x :: l, 0, i, _, hi => by
    show (leN x 4 ++ encL l)[4 * 0 + i]? = _
    rw [List.getElem?_append_left (by rw [leN_len]; omega)]
    unfold leN
    rw [List.getElem?_map, List.getElem?_range (by omega), Option.map_some]
    simp
  | x :: l, k + 1, i, hk, hi => by
    show (leN x 4 ++ encL l)[4 * (k + 1) + i]? = _
    rw [List.getElem?_append_right (by rw [leN_len]; omega), leN_len, show 4 * (k + 1) + i - 4 = 4 * k + i by omega]
    exact encL_get l (by simpa using hk) hi
theorem numAt_enc {ys : List Int} {k : Nat} (hk : k < ys.length) (h0 : 0 ≤ ys[k]) (h1 : ys[k] < 2 ^ 32) : numAt (encL ys) k = ys[k] := by
  have hb : ∀ i, i < 4 → byt (encL ys) (4 * k + i) = leB ys[k] i := fun i hi => by
    unfold byt
    rw [encL_get ys hk hi]; rfl
  unfold numAt
  simp only [accB]
  rw [hb 0 (by decide), hb 1 (by decide), hb 2 (by decide), hb 3 (by decide)]
  have := leB_sum h0 h1
  simp only [Nat.mul_zero, Nat.reduceMul, Int.reducePow] at this ⊢
  omega
theorem numsB_enc {ys : List Int} (h : ∀ y ∈ ys, 0 ≤ y ∧ y < 2 ^ 32) {k n : Nat} (hkn : k + n ≤ ys.length) : numsB (encL ys) k n = (ys.drop k).take n := by
  refine List.ext_getElem? fun j => ?_
  unfold numsB
  rw [List.getElem?_map, List.getElem?_take]
  by_cases hj : j < n
  · have hk : k + j < ys.length := by omega
    rw [List.getElem?_range hj, if_pos hj, List.getElem?_drop, List.getElem?_eq_getElem hk, Option.map_some]
    have := h ys[k + j] (List.getElem_mem hk)
    rw [numAt_enc hk this.1 this.2]
  · rw [List.getElem?_eq_none (by simp; omega), if_neg hj]; rfl
theorem dec_enc {ys : List Int} {p : Int} (hp : p ≤ 2 ^ 32) (h : ∀ y ∈ ys, 0 ≤ y ∧ y < p) : decE (encL ys) p ys.length = (0, 0) := by
  have hn : errF (encL ys) p ys.length 0 = none := errF_none fun j _ hj => by
    have hj : j < ys.length := by omega
    have hy := h ys[j] (List.getElem_mem hj)
    unfold rdE
    rw [encL_len, if_neg (by omega), numAt_enc hj hy.1 (by omega), if_neg (by omega)]
  unfold decE
  rw [hn]
  simp only
  rw [encL_len, if_neg (by omega)]
end Go.VE
/- What is read fits, and is written as it was (plain law). -/
namespace Go.VE
open Go Go.Proofs
set_option maxRecDepth 20000
theorem sumN_take (l : List Prt) (i : Nat) : sumN (l.take i) ≤ sumN l := by
  conv => rhs; rw [← List.take_append_drop i l]
  rw [sumN_app]
  omega
section
variable {h : Shp}
theorem partsR_srt (hv : shV h = true) : (partsR h).Pairwise fun x y => rkP (keyP x) < rkP (keyP y) := by
  obtain ⟨m, hs, _⟩ := partsAll_srt hv
  rw [← partsAll_keep hv]
  exact hs.filter _
theorem partsAll_key (hv : shV h = true) {x y : Prt} (hx : x ∈ partsAll h) (hy : y ∈ partsAll h) (he : keyP x = keyP y) : x = y := by
  obtain ⟨m, hs, _⟩ := partsAll_srt hv
  obtain ⟨i, hi, rfl⟩ := List.getElem_of_mem hx
  obtain ⟨j, hj, rfl⟩ := List.getElem_of_mem hy
  have hp := List.pairwise_iff_getElem.1 hs
  by_cases h1 : i < j
  · have := hp i j hi hj h1
    rw [he] at this
    omega
  · by_cases h2 : j < i
    · have := hp j i hj hi h2
      rw [he] at this
      omega
    · have e : i = j := by omega
      subst e
      rfl
theorem gone_part (hv : shV h = true) (b : List Int) : (∀ j (hj : j < (partsR h).length), gOf (goneG b (partsR h)).2 (partsR h)[j] = numsB b (sumN ((partsR h).take j)) (partsR h)[j].n.toNat) ∧ (∀ x ∈ partsAll h, x.n = 0 → gOf (goneG b (partsR h)).2 x = []) := by
  obtain ⟨_, h2, h3⟩ := goneG_at (b := b) (partsR_srt hv) _ (Nat.le_refl _)
  rw [List.take_length] at h2 h3
  refine ⟨fun j hj => h2 j hj hj, fun x hx h0 => ?_⟩
  obtain ⟨k, q, i, n, hxe, ok, _, hln⟩ := partsAll_ok hv x hx
  have hne : ∀ y ∈ partsR h, keyP y ≠ (x.k.toNat, x.q.toNat, x.i.toNat) := fun y hy he => by
    rw [← partsAll_keep hv] at hy
    obtain ⟨hy1, hy2⟩ := List.mem_filter.1 hy
    have := partsAll_key hv hy1 hx he
    subst this
    simp [h0] at hy2
  show (goneG b (partsR h)).2 x.k.toNat x.q.toNat x.i.toNat = []
  rw [h3 _ _ _ hne]
  have hk : x.k.toNat = k := by rw [hxe]; rfl
  have hn : n = 0 := by
    rw [hxe] at h0
    have : (n : Int) = 0 := h0
    omega
  subst hn
  rw [hk]
  unfold lenN at hln
  unfold g0
  by_cases h27 : k = 2 ∨ k = 7
  · rw [if_pos h27] at hln; omega
  · by_cases h10 : k = 10
    · rw [if_neg h27, if_pos h10] at hln; omega
    · rw [if_neg h27, if_neg h10]
theorem sumN_mem : ∀ {l : List Prt} {x : Prt}, x ∈ l → x.n.toNat ≤ sumN l
  | [], x, h => by cases h
  | y :: l, x, h => by
    simp only [sumN]
    rcases List.mem_cons.1 h with rfl | h
    · omega
    · have := sumN_mem h; omega
theorem size_pos (hv : shV h = true) : 0 < sumN (partsR h) := by
  have h1 : (⟨2, 0, 0, 1⟩ : Prt) ∈ partsAll h := by
    unfold partsAll midA
    refine it_mem (fun i l hl => ?_) (List.mem_append_left _ (it_mem (fun i l hl => List.mem_append_left _ hl) (by simp [preA]) _)) _
    unfold alQ
    exact it_mem (fun i l hl => List.mem_append_left _ hl) (it_mem (fun i l hl => List.mem_append_left _ hl) (it_mem (fun i l hl => List.mem_append_left _ hl) hl _) _) _
  have h2 : (⟨2, 0, 0, 1⟩ : Prt) ∈ partsR h := by
    rw [← partsAll_keep hv]
    exact List.mem_filter.2 ⟨h1, by decide⟩
  have := sumN_mem h2
  have e : (⟨2, 0, 0, 1⟩ : Prt).n.toNat = 1 := rfl
  omega
end
end Go.VE
/- attestorlaw17.bytes. -/
namespace Go.VE
open Go Go.Proofs
set_option maxRecDepth 20000
def sdN (x : Int) : Nat → Int
  | 0 => x
  | i + 1 => IntKind.u64.wrap (IntKind.u64.wrap (sdN x i * 6364136223846793005) + 1442695040888963407)
def rndN (p x : Int) (i : Nat) : Int := ((sdN x (i + 1)).fdiv (2 ^ min 33 64)).tmod p
def rnds (p x : Int) (n : Nat) : List Int := (List.range n).map (rndN p x)
theorem rnds_len (p x : Int) (n : Nat) : (rnds p x n).length = n := by unfold rnds; simp
theorem rnds_succ (p x : Int) (n : Nat) : rnds p x (n + 1) = rnds p x n ++ [rndN p x n] := by unfold rnds; rw [List.range_succ, List.map_append]; rfl
theorem rnds_ok {p : Int} (hp : 0 < p) (x : Int) (n : Nat) : ∀ y ∈ rnds p x n, 0 ≤ y ∧ y < p := fun y hy => by
  unfold rnds at hy
  obtain ⟨i, _, rfl⟩ := List.mem_map.1 hy
  have h0 : 0 ≤ sdN x (i + 1) := by
    show 0 ≤ IntKind.u64.wrap _
    rw [wrap_u64_mod]
    omega
  have h1 : 0 ≤ (sdN x (i + 1)).fdiv (2 ^ min 33 64) := by
    rw [Int.fdiv_eq_ediv_of_nonneg _ (by decide)]
    exact Int.ediv_nonneg h0 (by decide)
  unfold rndN
  exact ⟨Int.tmod_nonneg _ h1, Int.tmod_lt_of_pos _ hp⟩
section
variable {ro : Nat} {s : St} {K : Value → St → Prop}
theorem append_inBN {A m c n : Nat} {cs : List Value} {x : Value} {ys : List Value} (hA : s.at A = some (.cells cs 5 false)) (hw : Wf s) (hro : ro ≤ A) (hx : Sl s x 1 n ys) (hn : 0 < n) (h1 : ys.all (·.oneCell') = true) (hm : m + n ≤ c) (hc : cs.length = c) {ty : TypeId}
    (hk : ∀ s', Put s A (.cells (splice cs m ys) 5 false) s' → K (.slice (some ⟨A, 0, none⟩) (m + n) c) s') : wop P ro (.call ⟨.builtin .append, ⟨[.const (.slice (some ⟨A, 0, none⟩) m c), .const x]⟩, #[32, 32]⟩) ty s K := by
  obtain ⟨i, hi, his, hib, hz, hf, hzs⟩ := tyOk_spec ty_5
  obtain ⟨ha, hfst⟩ := hx.first
  have hyl := hx.len
  rw [wop_append]
  have e1 : aappend P ro s #[32, 32] [.slice (some ⟨A, 0, none⟩) m c, x] = some (.slice (some ⟨A, 0, none⟩) (m + n) c, s.put A (.cells (splice cs m ys) 5 false)) := by
    have hni : notInt P 32 = true := by kernel_rfl
    simp only [aappend, se_32, hni, hi, ha, his, hfst, Option.bind_some, aappendTo]
    rw [if_pos hm, Nat.zero_add, Nat.mul_one, awrite_some hA hro (by omega) (by omega) h1]
    rfl
  rw [e1]
  exact hk _ (.mk' hw (St.at_lt hA) _)
theorem wBytes {n N : Nat} (hn : n = 4 * N) (hn2 : n ≤ 2 ^ 36) {p x : Int} (hp : 0 < p) (hw : Wf s) (hro : ro ≤ s.n)
    (hk : ∀ A s', Grew s s' → s.n ≤ A → s'.at A = some (.cells ((encL (rnds p x N)).map (.int .u8)) 5 false) → K (.slice (some ⟨A, 0, none⟩) n n) s') :
    CallWP P ro 20 [.int .i64 n, .int .u64 p, .int .u64 x] s K := by
  refine call_wp b20 rfl ?_
  rw [n20]
  unfold v20
  simp (maxSteps := 10000000) only [wW, reduceCtorEq, Nat.reduceEqDiff]
  have hn0 : (ent s).n = s.n := rfl
  refine makeLC_rule se_32 ty_5 hw.ent (by decide) (by omega) (by omega) (by decide) fun A s1 m1 => ?_
  have e1 := m1.eq
  have n1 := m1.n
  rw [Int.toNat_natCast] at m1 ⊢
  refine wloop l20_11000 m20_11000 (fun (i : Nat) τ ds s' => i ≤ N ∧ τ 0 = .int .i64 n ∧ τ 1 = .int .u64 p ∧ τ 2 = .int .u64 (sdN x i) ∧ τ 7 = .slice (some ⟨A, 0, none⟩) (4 * i) n ∧ ds = [] ∧ Wf s' ∧ Grew (ent s) s' ∧ ∃ c, s'.at A = some (.cells c 5 false) ∧ c.length = n ∧ c.take (4 * i) = (encL (rnds p x i)).map (.int .u8)) (fun i => N - i) ?_ 0 ⟨by omega, ?_, ?_, ?_, ?_, rfl, m1.wf, m1.grew, _, m1.here, by rw [zeroList_len, Nat.mul_one], by simp [rnds, encL]⟩
  · rintro i τ ds s' ⟨hi, t0, t1, t2, t7, rfl, w', g', c, hA, hcl, hct⟩
    rw [n20_11000]
    unfold v20_11000
    have hAl := St.at_lt hA
    have gn := g'.n
    simp (maxSteps := 10000000) only [wW, reduceCtorEq, Nat.reduceEqDiff, t0, t1, t2, t7, wop_len se_32]
    rw [wrap_i64 (by omega) (by omega)]
    by_cases hlt : i < N
    · rw [if_pos (by omega)]
      have hsh : ∀ (y : Int) (k : Nat), k ≤ 64 → abinInt P .shr .u64 y .u64 (k : Int) = some (.int .u64 (y.fdiv (2 ^ min k 64))) := fun y k _ => by
        rw [int_shr _ _ _ _ (by omega), Int.toNat_natCast]; rfl
      have h33 : ∀ y : Int, abinInt P .shr .u64 y .u64 33 = some (.int .u64 (y.fdiv (2 ^ min 33 64))) := fun y => hsh y 33 (by decide)
      have h8 : ∀ y : Int, abinInt P .shr .u64 y .u64 8 = some (.int .u64 (y.fdiv (2 ^ min (8 * 1) 64))) := fun y => hsh y 8 (by decide)
      have h16 : ∀ y : Int, abinInt P .shr .u64 y .u64 16 = some (.int .u64 (y.fdiv (2 ^ min (8 * 2) 64))) := fun y => hsh y 16 (by decide)
      have h24 : ∀ y : Int, abinInt P .shr .u64 y .u64 24 = some (.int .u64 (y.fdiv (2 ^ min (8 * 3) 64))) := fun y => hsh y 24 (by decide)
      have hr : ((IntKind.u64.wrap (IntKind.u64.wrap (sdN x i * 6364136223846793005) + 1442695040888963407)).fdiv (2 ^ min 33 64)).tmod p = rndN p x i := rfl
      have hl0 : IntKind.u8.wrap (rndN p x i) = leB (rndN p x i) 0 := by
        unfold leB
        rw [show (2 : Int) ^ min (8 * 0) 64 = 1 from rfl, Int.fdiv_one]
      have hl : ∀ j, IntKind.u8.wrap ((rndN p x i).fdiv (2 ^ min (8 * j) 64)) = leB (rndN p x i) j := fun j => rfl
      rw [h33, wopt_some, wop_int, int_rem keq_u64 _ _ (by omega), wopt_some, hr, conv_u64_u8, wop_int, h8, wopt_some, conv_u64_u8, wop_int, h16, wopt_some, conv_u64_u8, wop_int, h24, wopt_some, conv_u64_u8, hl0, hl, hl, hl]
      refine buildSlice_rule se_32 ty_5 w' ((leN (rndN p x i) 4).map (.int .u8)) rfl rfl (by decide) (fun v hv => by
        obtain ⟨z, _, rfl⟩ := List.mem_map.1 hv
        rfl) fun A6 s6 m6 => ?_
      have n6 := m6.n
      have e6 := m6.eq
      have x6 : Sl s6 (.slice (some ⟨A6, 0, none⟩) 4 4) 1 4 ((leN (rndN p x i) 4).map (.int .u8)) := m6.sl rfl
      refine append_inBN ((m6.grew.same A hAl).trans hA) m6.wf (by omega) x6 (by decide) rfl (by omega) hcl fun s7 p7 => ?_
      have hst : encL (rnds p x (i + 1)) = encL (rnds p x i) ++ leN (rndN p x i) 4 := by rw [rnds_succ, encL_snoc]
      refine ⟨i + 1, by omega, by omega, ?_, ?_, ?_, ?_, by first | trivial | rfl, p7.wf, p7.grew _ hw.ent (g'.trans m6.grew) (by omega), _, p7.here, ?_, ?_⟩
      · simp only [U, tset_eq, wW, reduceCtorEq, Nat.reduceEqDiff, t0]
      · simp only [U, tset_eq, wW, reduceCtorEq, Nat.reduceEqDiff, t1]
      · simp only [U, tset_eq, wW, reduceCtorEq, Nat.reduceEqDiff]; rfl
      · simp only [U, tset_eq, wW, reduceCtorEq, Nat.reduceEqDiff]
        rw [Nat.mul_succ]
      · rw [splice_length (by rw [List.length_map, leN_len]; omega)]; exact hcl
      · have := splice_front (c := c) (l := (leN (rndN p x i) 4).map (.int .u8)) (m := 4 * i) (by rw [List.length_map, leN_len]; omega)
        rw [List.length_map, leN_len, hct, ← List.map_append, ← hst] at this
        exact this
    · obtain rfl : i = N := by omega
      rw [if_neg (by omega)]
      have hc : c = (encL (rnds p x i)).map (.int .u8) := by
        rw [← hct, List.take_of_length_le (by omega)]
      subst hc
      simp (maxSteps := 10000000) only [U, tset_eq, wW, reduceCtorEq, Nat.reduceEqDiff, t7]
      refine wfin_new hw g' rfl fun s9 g9 hn9 hat9 => ?_
      rw [← hn]
      exact hk A s9 g9 (by omega) ((hat9 A).trans hA)
  · simp only [U, tset_eq, wW, reduceCtorEq, Nat.reduceEqDiff]
  · simp only [U, tset_eq, wW, reduceCtorEq, Nat.reduceEqDiff]
  · simp only [U, tset_eq, wW, reduceCtorEq, Nat.reduceEqDiff]; rfl
  · simp only [U, tset_eq, wW, reduceCtorEq, Nat.reduceEqDiff]; rfl
end
end Go.VE
/- ProofRound. -/
namespace Go.VE
open Go Go.Proofs
set_option maxRecDepth 20000
theorem fP_bd (f : Int) : 0 ≤ fP f ∧ fP f ≤ 2 ^ 32 := by
  unfold fP
  repeat' split
  all_goals decide
theorem shV_f {h : Shp} (hv : shV h = true) : fV h.f = true := by
  unfold shV at hv
  simp only [Bool.and_eq_true] at hv
  exact hv.1.1.1.1.1.1.1.1.1
section
variable {ro : Nat} {s : St} {K : Value → St → Prop} {h : Shp}
theorem bys_of {A : Nat} {l : List Int} (hA : s.at A = some (.cells (l.map (.int .u8)) 5 false)) {n : Nat} (hn : l.length = n) : Bys s (.slice (some ⟨A, 0, none⟩) n n) l := by
  unfold Bys
  rw [hn]
  refine ⟨_, _, rfl, by rw [List.length_map, hn, Nat.mul_one], ⟨Nat.le_refl _, fun h => (by cases h), fun x hx => by cases hx; exact .inl rfl⟩, fun _ => ⟨A, 0, none, _, _, _, rfl, rfl, hA, ?_⟩⟩
  rw [List.drop_zero]
  exact List.take_of_length_le (by rw [List.length_map]; omega)
theorem wDecodeY (hv : shV h = true) {ys : List Int} {u : Value} (hN : ys.length = sumN (partsR h)) (hy : ∀ y ∈ ys, 0 ≤ y ∧ y < fP h.f) (hu : Bys s u (encL ys)) (huA : ∀ A o sp n c, u = .slice (some ⟨A, o, sp⟩) n c → A < s.n) (hw : Wf s) (hro : ro ≤ s.n) (hF : FieldsAt s)
    (hk : ∀ cs B s' W, Grew s s' → (∀ A, W A → A < s'.n) → (∀ A, A < s.n → W A) → (s.n ≤ B.rb ∧ s.n ≤ B.ob ∧ ∀ j, j < h.q.toNat → s.n ≤ B.fb j) → PfAt s' W cs B (shR h).toNat h.q.toNat (goneG (encL ys) (partsR h)).2 → K (.tuple (.mk [.agg (.mk cs), .int .i64 0, .int .i64 0])) s') :
    CallWP P ro 17 [.agg (.mk h.cells), u] s K := by
  have hb := size_bound hv
  have hd : decE (encL ys) (fP h.f) (goneG (encL ys) (partsR h)).1 = (0, 0) := by
    rw [goneG_1, ← hN]
    exact dec_enc (fP_bd h.f).2 hy
  refine wDecode h (encL_ok ys) (by rw [encL_len]; omega) hu (fun _ => huA) hw hro hF (fun h => by rw [hv] at h; cases h) (fun _ h => absurd (by rw [hd]) h) fun _ _ _ cs B s' W g1 hW1 hW2 hWB hp => hk cs B s' W g1 hW1 hW2 hWB hp
end
end Go.VE
/- ProofRound at every start. -/
namespace Go.VE
open Go Go.Proofs
set_option maxRecDepth 20000
end Go.VE
/- attestorlaw17.number; where parts stand among all. -/
namespace Go.VE
open Go Go.Proofs
set_option maxRecDepth 20000
section
variable {ro : Nat} {s : St} {K : Value → St → Prop}
end
section
variable {h : Shp}
end
end Go.VE
/- An opening of a proof; ProofOrder's loop. -/
namespace Go.VE
open Go Go.Proofs
set_option maxRecDepth 20000
theorem PfAt.opn {s : St} {W : Nat → Prop} {cs : List Value} {B : PfB} {R Q : Nat} {g : Nat → Nat → Nat → List Int} (h : PfAt s W cs B R Q g) {j : Nat} (hj : j < Q) :
    ∃ oc l, s.at B.ob = some (.cells oc 59 false) ∧ cut oc (13 * j) 13 = some l ∧ l.length = 13 ∧ l.all (·.oneCell') = true ∧ (∀ i, i < 6 → ∃ v, l[i]? = some v ∧ SlV s W 1 v (g 8 j i)) ∧ (∀ i, i < 6 → ∃ v, l[6 + i]? = some v ∧ SlV s W 2 v (g 9 j i)) ∧ l[12]? = some (.slice (some ⟨B.fb j, 0, none⟩) R R) := by
  obtain ⟨oc, h1, h2, h3⟩ := h.ob
  have hcut : cut oc (13 * j) 13 = some ((oc.drop (13 * j)).take 13) := cut_eq (by omega)
  have hget : ∀ i, i < 13 → ((oc.drop (13 * j)).take 13)[i]? = oc[13 * j + i]? := fun i hi => by rw [List.getElem?_take, if_pos hi, List.getElem?_drop]
  have hl : ((oc.drop (13 * j)).take 13).length = 13 := by rw [List.length_take, List.length_drop]; omega
  have h8 : ∀ i, i < 6 → ∃ v, ((oc.drop (13 * j)).take 13)[i]? = some v ∧ SlV s W 1 v (g 8 j i) := fun i hi => by
    obtain ⟨c, hc, hS⟩ := h.sl 8 j i (.row j i hj hi)
    have hc : acells (s.at B.ob) = some c := hc
    rw [acells_some h1] at hc
    cases hc
    unfold SlotC at hS
    rw [if_neg (by decide), if_neg (by decide), if_pos (by decide)] at hS
    obtain ⟨v, e, hv⟩ := hS
    exact ⟨v, (hget i (by omega)).trans e, hv⟩
  have h9 : ∀ i, i < 6 → ∃ v, ((oc.drop (13 * j)).take 13)[6 + i]? = some v ∧ SlV s W 2 v (g 9 j i) := fun i hi => by
    obtain ⟨c, hc, hS⟩ := h.sl 9 j i (.path j i hj hi)
    have hc : acells (s.at B.ob) = some c := hc
    rw [acells_some h1] at hc
    cases hc
    unfold SlotC at hS
    rw [if_neg (by decide), if_neg (by decide), if_neg (by decide)] at hS
    obtain ⟨v, e, hv⟩ := hS
    refine ⟨v, (hget (6 + i) (by omega)).trans ?_, hv⟩
    rw [← e]
    congr 1
    show 13 * j + (6 + i) = 13 * j + 6 + i
    omega
  have h12 : ((oc.drop (13 * j)).take 13)[12]? = some (.slice (some ⟨B.fb j, 0, none⟩) R R) := (hget 12 (by decide)).trans (h3 j hj)
  refine ⟨oc, _, h1, hcut, hl, List.all_eq_true.2 fun v hv => ?_, h8, h9, h12⟩
  obtain ⟨i, hi⟩ := List.getElem?_of_mem hv
  have hlt := (List.getElem?_eq_some_iff.1 hi).1
  by_cases hi6 : i < 6
  · obtain ⟨w, e, hw⟩ := h8 i hi6
    rw [hi] at e; cases e
    exact hw.one.1
  · by_cases hi12 : i < 12
    · obtain ⟨w, e, hw⟩ := h9 (i - 6) (by omega)
      rw [show 6 + (i - 6) = i by omega, hi] at e
      cases e
      exact hw.one.1
    · have : i = 12 := by omega
      subst this
      rw [hi] at h12; cases h12
      rfl
section
variable {ro : Nat} {s : St} {h : Shp}
theorem SlV.u64s {W : Nat → Prop} {v : Value} {l : List Int} (hv : SlV s W 1 v l) : U64s s v l := by
  obtain ⟨m, hm, hS, _⟩ := hv
  unfold U64s
  rw [show l.length = m by omega]
  exact hS
theorem U64s.atN {v : Value} {l : List Int} (hv : U64s s v l) {i : Nat} {x : Int} (hx : l[i]? = some x) : ∃ A o, aindexAddr P 36 v (.int .i64 (i : Int)) = some (.pointer (some ⟨A, o, none⟩)) ∧ aload P s 34 (.pointer (some ⟨A, o, none⟩)) = some (.int .u64 x) := by
  have hl := (List.getElem?_eq_some_iff.1 hx).1
  obtain ⟨A5, o5, q1, q2, _⟩ := Sl.ix hv (by decide) (show (0 : Int) ≤ i by omega) (show (i : Int) < l.length by omega)
  have q2' := q2 0 (by decide)
  rw [Nat.add_zero, Nat.add_zero, Nat.mul_one, Int.toNat_natCast, List.getElem?_map, hx] at q2'
  exact ⟨_, _, q1 se_36 isz_34, by rw [load1 ap_34]; exact q2'⟩
end
end Go.VE
/- ProofOrder. -/
namespace Go.VE
open Go Go.Proofs
set_option maxRecDepth 20000
section
variable {ro : Nat} {s : St} {h : Shp}
end
end Go.VE
/- ProofOrder at every start. -/
namespace Go.VE
open Go Go.Proofs
set_option maxRecDepth 20000
end Go.VE
/- attestorref17.digests. -/
namespace Go.VE
open Go Go.Proofs
set_option maxRecDepth 20000
section
variable {ro : Nat} {s : St} {K : Value → St → Prop}
end
end Go.VE
/- attestorref17.opened: rows and paths. (printed by mkh58.py) -/
namespace Go.VE
open Go Go.Proofs
set_option maxRecDepth 20000
section
variable {ro : Nat} {s : St} {Bx Pt k q i n m : Nat} {l : List Value} {u : Value} {nums : List Int} {τ : Tau} {ds : List Deferred} {Q : Ex → XK} {T : Value}
structure OpH (ro : Nat) (s : St) (Bx Pt k q i n m : Nat) (l : List Value) (u : Value) (nums : List Int) (τ : Tau) (T : Value) : Prop where
  bx : s.at Bx = some (.cells l 59 false)
  ll : l.length = 13
  pt : s.at Pt = some (.cells (Prt.cells ⟨k, q, i, n⟩) 30 false)
  w : Wf s
  ro : ro ≤ Bx ∧ ro ≤ s.n
  u1 : u.oneCell' = true
  us : U64s s u nums
  nm : k = 9 → nums.length = m * 2
  hm : m < 2 ^ 30
  hi : i < 6
  hk : k = 8 ∨ k = 9
  t2 : τ 2 = u
  t3 : τ 3 = ptr Bx
  t4 : τ 4 = ptr Pt
  t6 : τ 6 = T
theorem OpH.kind (h : OpH ro s Bx Pt k q i n m l u nums τ T) : aload P s 28 (.pointer (some ⟨Pt, 0 + 0, none⟩)) = some (.int .u8 k) := by rw [load1 ap_28, acells_some h.pt]; rfl
theorem OpH.ix (h : OpH ro s Bx Pt k q i n m l u nums τ T) : aload P s 3 (.pointer (some ⟨Pt, 0 + 2, none⟩)) = some (.int .i64 i) := by rw [load1 ap_3, acells_some h.pt]; rfl
end
end Go.VE
/- attestorref17.opened: rows and paths, its contract. -/
namespace Go.VE
open Go Go.Proofs
set_option maxRecDepth 20000
section
variable {ro : Nat} {s : St} {K : Value → St → Prop} {k q i n m : Nat} {l : List Value} {u : Value} {nums : List Int}
end
end Go.VE
/- attestorref17.opened: what goes into the folds. -/
namespace Go.VE
open Go Go.Proofs
set_option maxRecDepth 20000
section
variable {ro : Nat} {s : St} {K : Value → St → Prop}
theorem SetR.of {W : Nat → Prop} {k F o : Nat} {c : List Value} {T : TypeId} {l : List Int} {sX : St} (hw : Wf s) (wX : Wf sX) (hn : s.n ≤ sX.n) (hsame : ∀ X, X < s.n → X ≠ F → sX.at X = s.at X) (hlo : min F s.n ≤ sX.lo)
    (hex : ∃ vals, sX.at F = some (.cells (splice c o vals) T false) ∧ SlotW ({ sX with lo := min s.lo sX.lo } : St) W k vals l) : SetR s W F o c T k l { sX with lo := min s.lo sX.lo } := by
  refine ⟨⟨by show min s.lo sX.lo ≤ sX.n; have := hw.lo; omega, wX.len⟩, hn, fun X h1 hne => hsame X h1 hne, hex, fun s0 h0 g hle => ⟨by show s0.n ≤ sX.n; have := g.n; omega, by show min s.lo sX.lo = s0.lo; have := g.lo; have := h0.lo; have := g.n; omega, fun X hX => ?_, fun _ => wX.len⟩⟩
  have := g.n
  show sX.at X = s0.at X
  rw [hsame X (by omega) (by omega)]
  exact g.same X hX
end
end Go.VE
/- attestorref17.set. (printed by mkh61.py) -/
namespace Go.VE
open Go Go.Proofs
set_option maxRecDepth 20000
section
variable {s s' : St} {W : Nat → Prop} {cs : List Value} {B : PfB} {R Q : Nat} {g : Nat → Nat → Nat → List Int}
end
section
variable {ro : Nat} {s : St} {K : Value → St → Prop} {W : Nat → Prop} {cs : List Value} {B : PfB} {R Q : Nat} {g : Nat → Nat → Nat → List Int} {u : Value} {nums : List Int} {q i n : Nat}
structure StR (s : St) (W : Nat → Prop) (cs' : List Value) (B : PfB) (R Q : Nat) (g' : Nat → Nat → Nat → List Int) (s' : St) : Prop where
  wf : Wf s'
  n : s.n ≤ s'.n
  same : ∀ X, X < s.n → ¬ W X → s'.at X = s.at X
  gr : ∀ s0, Wf s0 → Grew s0 s → (s0.n ≤ B.rb ∧ s0.n ≤ B.ob ∧ ∀ j, j < Q → s0.n ≤ B.fb j) → Grew s0 s'
  pf : PfAt s' W cs' B R Q g'
  off : ∀ X, X < s.n → X ≠ B.rb → X ≠ B.ob → (∀ j, j < Q → X ≠ B.fb j) → s'.at X = s.at X
theorem StR.new {s' : St} {cs' : List Value} {g' : Nat → Nat → Nat → List Int} (hw : Wf s) (g1 : Grew s s') (h : PfAt s' W cs' B R Q g') : StR s W cs' B R Q g' s' := ⟨hw.grew g1, g1.n, fun X h1 _ => g1.same X h1, fun s0 _ g0 _ => g0.trans g1, h, fun X h1 _ _ _ => g1.same X h1⟩
end
end Go.VE
/- attestorref17.set: rounds and openings. -/
namespace Go.VE
open Go Go.Proofs
set_option maxRecDepth 20000
theorem SlV.up {s s' : St} {W W' : Nat → Prop} {sz : Nat} {v : Value} {l : List Int} (h : SlV s W' sz v l) (hn : s.n ≤ s'.n) (hleaf : ∀ A, A < s.n → ¬ W' A → s'.at A = s.at A) (hsub : ∀ A, W A → W' A) : SlV s' W sz v l := by
  obtain ⟨m, h1, h2, h3⟩ := h
  exact ⟨m, h1, h2.sameAt fun A o sp k c e => hleaf A (h3 A o sp k c e).1 (h3 A o sp k c e).2, fun A o sp k c e => ⟨Nat.lt_of_lt_of_le (h3 A o sp k c e).1 hn, fun hA => (h3 A o sp k c e).2 (hsub A hA)⟩⟩
section
variable {ro : Nat} {s : St} {K : Value → St → Prop} {W : Nat → Prop} {cs : List Value} {B : PfB} {R Q : Nat} {g : Nat → Nat → Nat → List Int} {u : Value} {nums : List Int} {q i n : Nat}
theorem StR.of {sX : St} {cs' : List Value} {g' : Nat → Nat → Nat → List Int} (hWB : W B.rb ∧ W B.ob ∧ ∀ j, j < Q → W (B.fb j)) (hw : Wf s) (wX : Wf sX) (hn : s.n ≤ sX.n) (hsame : ∀ X, X < s.n → X ≠ B.rb → X ≠ B.ob → (∀ j, j < Q → X ≠ B.fb j) → sX.at X = s.at X) (hlo : ∀ b, b ≤ s.n → b ≤ B.rb → b ≤ B.ob → (∀ j, j < Q → b ≤ B.fb j) → b ≤ sX.lo)
    (pf : PfAt ({ sX with lo := min s.lo sX.lo } : St) W cs' B R Q g') : StR s W cs' B R Q g' { sX with lo := min s.lo sX.lo } := by
  refine ⟨⟨by show min s.lo sX.lo ≤ sX.n; have := hw.lo; omega, wX.len⟩, hn, fun X h1 h2 => hsame X h1 (fun e => h2 (by rw [e]; exact hWB.1)) (fun e => h2 (by rw [e]; exact hWB.2.1)) (fun j hj e => h2 (by rw [e]; exact hWB.2.2 j hj)), fun s0 h0 g0 hle => ⟨by show s0.n ≤ sX.n; have := g0.n; omega, ?_, fun X hX => ?_, fun _ => wX.len⟩, pf, hsame⟩
  · show min s.lo sX.lo = s0.lo
    have := hlo s0.n g0.n hle.1 hle.2.1 hle.2.2
    have := g0.lo
    have := h0.lo
    omega
  · have := g0.n
    show sX.at X = s0.at X
    rw [hsame X (by omega) (by omega) (by omega) (fun j hj => by have := hle.2.2 j hj; omega)]
    exact g0.same X hX
end
end Go.VE
/- attestorref17.set: openings. -/
namespace Go.VE
open Go Go.Proofs
set_option maxRecDepth 20000
section
variable {ro : Nat} {s : St} {K : Value → St → Prop} {W : Nat → Prop} {cs : List Value} {B : PfB} {R Q : Nat} {g : Nat → Nat → Nat → List Int} {u : Value} {nums : List Int} {k q i n : Nat}
end
end Go.VE
/- attestorref17.set: every kind. -/
namespace Go.VE
open Go Go.Proofs
set_option maxRecDepth 20000
section
variable {ro : Nat} {s : St} {K : Value → St → Prop} {W : Nat → Prop} {cs : List Value} {B : PfB} {R Q : Nat} {g : Nat → Nat → Nat → List Int} {u : Value} {nums : List Int} {k q i n : Nat}
end
end Go.VE
/- attestorref17.Decode: a blank proof. -/
namespace Go.VE
open Go Go.Proofs
set_option maxRecDepth 20000
section
variable {ro : Nat} {h : Shp}
end
end Go.VE
/- attestorref17.Decode: the numbers of a part. -/
namespace Go.VE
open Go Go.Proofs
set_option maxRecDepth 20000
structure KdR (τ τ' : Tau) : Prop where
  a1 : τ' 1 = τ 1
  a2 : τ' 2 = τ 2
  a4 : τ' 4 = τ 4
  a7 : τ' 7 = τ 7
  a10 : τ' 10 = τ 10
  a11 : τ' 11 = τ 11
theorem KdR.refl (τ : Tau) : KdR τ τ := ⟨rfl, rfl, rfl, rfl, rfl, rfl⟩
section
variable {ro : Nat} {h : Shp} {s0 s : St}
end
end Go.VE
/- attestorref17.Decode: its loop over the parts. -/
namespace Go.VE
open Go Go.Proofs
set_option maxRecDepth 20000
section
variable {ro : Nat} {h : Shp} {s0 sL : St}
end
end Go.VE
/- attestorref17.Decode. -/
namespace Go.VE
open Go Go.Proofs
set_option maxRecDepth 20000
section
variable {ro : Nat} {s : St} {K : Value → St → Prop}
end
end Go.VE
/- Equality of lists: attestorref01.Same, attestorref17.SameDigests. -/
namespace Go.VE
open Go Go.Proofs
set_option maxRecDepth 20000
section
variable {ro : Nat} {s : St} {K : Value → St → Prop}
theorem ne_at {a b : List Int} {i : Nat} (hi : i < a.length) (h : a[i]? ≠ b[i]?) : a ≠ b := fun e => h (by rw [e])
theorem eq_all {a b : List Int} (hl : a.length = b.length) (h : ∀ j, j < a.length → a[j]? = b[j]?) : a = b := List.ext_getElem? fun j => by
  by_cases hj : j < a.length
  · exact h j hj
  · rw [List.getElem?_eq_none (by omega), List.getElem?_eq_none (by omega)]
theorem wSame1 {v w : Value} {a b : List Int} (hv : U64s s v a) (hw' : U64s s w b) (ha : a.length < 2 ^ 40) (hb : b.length < 2 ^ 40) : CallWP P ro 52 [v, w] s K = K (.bool (decide (a = b))) s := by
  refine callEq (call_wp b52 rfl ?_) K
  rw [n52]
  unfold v52
  have hve : U64s (ent s) v a := Sl.ent hv
  have hwe : U64s (ent s) w b := Sl.ent hw'
  have hl1 : ∀ (K : Value → St → Prop) ty, wop P ro (.call ⟨.builtin .len, ⟨[.const v]⟩, #[36]⟩) ty (ent s) K = K (.int .i64 a.length) (ent s) := fun K ty => Sl.wlen hve se_36 ty K
  have hl2 : ∀ (K : Value → St → Prop) ty, wop P ro (.call ⟨.builtin .len, ⟨[.const w]⟩, #[36]⟩) ty (ent s) K = K (.int .i64 b.length) (ent s) := fun K ty => Sl.wlen hwe se_36 ty K
  simp (maxSteps := 10000000) only [wW, reduceCtorEq, Nat.reduceEqDiff]
  rw [hl1, hl2]
  simp (maxSteps := 10000000) only [wW, reduceCtorEq, Nat.reduceEqDiff]
  by_cases hlen : a.length = b.length
  · rw [if_neg (by omega)]
    refine wloop l52_110100 m52_110100 (fun (i : Nat) τ ds s' => i ≤ a.length ∧ τ 0 = v ∧ τ 1 = w ∧ τ 5 = .int .i64 i ∧ ds = [] ∧ s' = ent s ∧ ∀ j, j < i → a[j]? = b[j]?) (fun i => a.length - i) ?_ 0 ⟨by omega, ?_, ?_, ?_, rfl, rfl, fun j hj => by omega⟩
    · rintro i τ ds s' ⟨hi, t0, t1, t5, rfl, rfl, hall⟩
      rw [n52_110100]
      unfold v52_110100
      simp (maxSteps := 10000000) only [wW, reduceCtorEq, Nat.reduceEqDiff, t0, t1, t5]
      rw [hl1]
      simp (maxSteps := 10000000) only [wW, reduceCtorEq, Nat.reduceEqDiff]
      by_cases hlt : i < a.length
      · rw [if_pos (by omega)]
        have h1 : a[i]? = some a[i] := List.getElem?_eq_getElem hlt
        have h2 : b[i]? = some (b[i]'(by omega)) := List.getElem?_eq_getElem (by omega)
        obtain ⟨A1, o1, i1, l1⟩ := hve.atN h1
        obtain ⟨A2, o2, i2, l2⟩ := hwe.atN h2
        rw [wop_indexAddr, i1, wopt_some, wop_load, l1, wopt_some, wop_indexAddr, i2, wopt_some, wop_load, l2, wopt_some]
        simp (maxSteps := 10000000) only [wW, reduceCtorEq, Nat.reduceEqDiff]
        by_cases he : a[i] = b[i]'(by omega)
        · rw [if_neg (fun h => h he), wrap_i64 (by omega) (by omega)]
          refine ⟨i + 1, by omega, by omega, ?_, ?_, ?_, by first | trivial | rfl, by first | trivial | rfl, fun j hj => ?_⟩
          · simp only [U, tset_eq, wW, reduceCtorEq, Nat.reduceEqDiff, t0]
          · simp only [U, tset_eq, wW, reduceCtorEq, Nat.reduceEqDiff, t1]
          · simp only [U, tset_eq, wW, reduceCtorEq, Nat.reduceEqDiff]; rfl
          · by_cases hji : j = i
            · subst hji
              rw [h1, h2, he]
            · exact hall j (by omega)
        · rw [if_pos he]
          show xleave (prims P ro) s Tryd.f52.results.toList _ .ret _ [] [] (ent s)
          rw [r52]
          simp (maxSteps := 10000000) only [U, tset_eq, wW, reduceCtorEq, Nat.reduceEqDiff]
          exact fin_flat rfl (.refl _) ⟨by rw [decide_eq_false (ne_at hlt (by rw [h1, h2]; simpa using he))], rfl⟩
      · obtain rfl : i = a.length := by omega
        rw [if_neg (by omega)]
        exact fin_flat rfl (.refl _) ⟨by rw [decide_eq_true (eq_all hlen hall)], rfl⟩
    · simp only [U, tset_eq, wW, reduceCtorEq, Nat.reduceEqDiff]
    · simp only [U, tset_eq, wW, reduceCtorEq, Nat.reduceEqDiff]
    · simp only [U, tset_eq, wW, reduceCtorEq, Nat.reduceEqDiff]; rfl
  · rw [if_pos (by omega)]
    exact fin_flat rfl (.refl _) ⟨by rw [decide_eq_false (fun e => hlen (by rw [e]))], rfl⟩
theorem wSameD {v w : Value} {a b : List Int} {m n : Nat} (hv : Sl s v 2 m (a.map (.int .u64))) (hw' : Sl s w 2 n (b.map (.int .u64))) (ha : a.length = m * 2) (hb : b.length = n * 2) (hm : m < 2 ^ 40) (hn : n < 2 ^ 40) : CallWP P ro 51 [v, w] s K = K (.bool (decide (a = b))) s := by
  refine callEq (call_wp b51 rfl ?_) K
  rw [n51]
  unfold v51
  have hve : Sl (ent s) v 2 m (a.map (.int .u64)) := Sl.ent hv
  have hwe : Sl (ent s) w 2 n (b.map (.int .u64)) := Sl.ent hw'
  have hl1 : ∀ (K : Value → St → Prop) ty, wop P ro (.call ⟨.builtin .len, ⟨[.const v]⟩, #[33]⟩) ty (ent s) K = K (.int .i64 m) (ent s) := fun K ty => Sl.wlen hve se_33 ty K
  have hl2 : ∀ (K : Value → St → Prop) ty, wop P ro (.call ⟨.builtin .len, ⟨[.const w]⟩, #[33]⟩) ty (ent s) K = K (.int .i64 n) (ent s) := fun K ty => Sl.wlen hwe se_33 ty K
  simp (maxSteps := 10000000) only [wW, reduceCtorEq, Nat.reduceEqDiff]
  rw [hl1, hl2]
  simp (maxSteps := 10000000) only [wW, reduceCtorEq, Nat.reduceEqDiff]
  by_cases hlen : m = n
  · rw [if_neg (by omega)]
    refine wloop l51_110100 m51_110100 (fun (i : Nat) τ ds s' => i ≤ m ∧ τ 0 = v ∧ τ 1 = w ∧ τ 5 = .int .i64 i ∧ ds = [] ∧ s' = ent s ∧ a.take (i * 2) = b.take (i * 2)) (fun i => m - i) ?_ 0 ⟨by omega, ?_, ?_, ?_, rfl, rfl, by simp⟩
    · rintro i τ ds s' ⟨hi, t0, t1, t5, rfl, rfl, hall⟩
      rw [n51_110100]
      unfold v51_110100
      simp (maxSteps := 10000000) only [wW, reduceCtorEq, Nat.reduceEqDiff, t0, t1, t5]
      rw [hl1]
      simp (maxSteps := 10000000) only [wW, reduceCtorEq, Nat.reduceEqDiff]
      by_cases hlt : i < m
      · rw [if_pos (by omega)]
        obtain ⟨p1, i1, l1⟩ := hve.dig ha hlt
        obtain ⟨p2, i2, l2⟩ := hwe.dig hb (i := i) (by omega)
        have x1 : ((a.drop (i * 2)).take 2).length = 2 := by rw [List.length_take, List.length_drop]; omega
        have x2 : ((b.drop (i * 2)).take 2).length = 2 := by rw [List.length_take, List.length_drop]; omega
        rw [wop_indexAddr, i1, wopt_some, wop_load, l1, wopt_some, wop_indexAddr, i2, wopt_some, wop_load, l2, wopt_some, neqDig _ _ x1 x2]
        simp (maxSteps := 10000000) only [wW, reduceCtorEq, Nat.reduceEqDiff]
        by_cases he : (a.drop (i * 2)).take 2 = (b.drop (i * 2)).take 2
        · rw [if_neg (fun h => h he), wrap_i64 (by omega) (by omega)]
          refine ⟨i + 1, by omega, by omega, ?_, ?_, ?_, by first | trivial | rfl, by first | trivial | rfl, ?_⟩
          · simp only [U, tset_eq, wW, reduceCtorEq, Nat.reduceEqDiff, t0]
          · simp only [U, tset_eq, wW, reduceCtorEq, Nat.reduceEqDiff, t1]
          · simp only [U, tset_eq, wW, reduceCtorEq, Nat.reduceEqDiff]; rfl
          · rw [Nat.succ_mul, List.take_add, List.take_add, hall, he]
        · rw [if_pos he]
          show xleave (prims P ro) s Tryd.f51.results.toList _ .ret _ [] [] (ent s)
          rw [r51]
          simp (maxSteps := 10000000) only [U, tset_eq, wW, reduceCtorEq, Nat.reduceEqDiff]
          exact fin_flat rfl (.refl _) ⟨by rw [decide_eq_false (fun e => he (by rw [e]))], rfl⟩
      · obtain rfl : i = m := by omega
        rw [if_neg (by omega)]
        rw [List.take_of_length_le (by omega), List.take_of_length_le (by omega)] at hall
        exact fin_flat rfl (.refl _) ⟨by rw [decide_eq_true hall], rfl⟩
    · simp only [U, tset_eq, wW, reduceCtorEq, Nat.reduceEqDiff]
    · simp only [U, tset_eq, wW, reduceCtorEq, Nat.reduceEqDiff]
    · simp only [U, tset_eq, wW, reduceCtorEq, Nat.reduceEqDiff]; rfl
  · rw [if_pos (by omega)]
    exact fin_flat rfl (.refl _) ⟨by rw [decide_eq_false (fun e => hlen (by rw [e] at ha; omega))], rfl⟩
end
end Go.VE
/- attestorref17.rows, paths. (printed by mkh70.py) -/
namespace Go.VE
open Go Go.Proofs
set_option maxRecDepth 20000
abbrev SlT := Option Addr × Nat × Nat
def sv (t : SlT) : Value := .slice t.1 t.2.1 t.2.2
def L13 (t : Nat → SlT) : List Value := [sv (t 0), sv (t 1), sv (t 2), sv (t 3), sv (t 4), sv (t 5), sv (t 6), sv (t 7), sv (t 8), sv (t 9), sv (t 10), sv (t 11), sv (t 12)]
theorem sv_veq (t : SlT) : veq (sv t) (sv t) = true := by simp [sv, veq]
theorem L13_veq (t : Nat → SlT) : veq (.agg (.mk (L13 t))) (.agg (.mk (L13 t))) = true := veqAgg fun v hv => by
  simp only [L13, List.mem_cons, List.not_mem_nil, or_false] at hv
  rcases hv with rfl | rfl | rfl | rfl | rfl | rfl | rfl | rfl | rfl | rfl | rfl | rfl | rfl <;> exact sv_veq _
theorem bldRows (t : Nat → SlT) : abuild P 120 (partVals .e [(0, .const (sv (t 0))), (1, .const (sv (t 1))), (2, .const (sv (t 2))), (3, .const (sv (t 3))), (4, .const (sv (t 4))), (5, .const (sv (t 5)))]) = some (.agg (.mk [sv (t 0), sv (t 1), sv (t 2), sv (t 3), sv (t 4), sv (t 5)])) := by kernel_rfl
theorem bldPaths (t : Nat → SlT) : abuild P 122 (partVals .e [(0, .const (sv (t 6))), (1, .const (sv (t 7))), (2, .const (sv (t 8))), (3, .const (sv (t 9))), (4, .const (sv (t 10))), (5, .const (sv (t 11)))]) = some (.agg (.mk [sv (t 6), sv (t 7), sv (t 8), sv (t 9), sv (t 10), sv (t 11)])) := by kernel_rfl
section
variable {s : St} {W : Nat → Prop} {B : PfB} {R : Nat} {g : Nat → Nat → Nat → List Int}
theorem opnT {j : Nat} {l : List Value} (hl : l.length = 13) (h8 : ∀ i, i < 6 → ∃ v, l[i]? = some v ∧ SlV s W 1 v (g 8 j i)) (h9 : ∀ i, i < 6 → ∃ v, l[6 + i]? = some v ∧ SlV s W 2 v (g 9 j i)) (h12 : l[12]? = some (.slice (some ⟨B.fb j, 0, none⟩) R R)) :
    ∃ t : Nat → SlT, l = L13 t ∧ (∀ i, i < 6 → SlV s W 1 (sv (t i)) (g 8 j i)) ∧ (∀ i, i < 6 → SlV s W 2 (sv (t (6 + i))) (g 9 j i)) ∧ t 12 = (some ⟨B.fb j, 0, none⟩, R, R) := by
  have hs : ∀ i, i < 13 → ∃ x : SlT, l[i]? = some (sv x) := fun i hi => by
    by_cases h6 : i < 6
    · obtain ⟨v, e, ⟨m, _, ⟨a, c, rfl, _⟩, _⟩⟩ := h8 i h6
      exact ⟨(a, m, c), e⟩
    · by_cases h12' : i < 12
      · obtain ⟨v, e, ⟨m, _, ⟨a, c, rfl, _⟩, _⟩⟩ := h9 (i - 6) (by omega)
        rw [show 6 + (i - 6) = i by omega] at e
        exact ⟨(a, m, c), e⟩
      · have : i = 12 := by omega
        subst this
        exact ⟨(some ⟨B.fb j, 0, none⟩, R, R), h12⟩
  refine ⟨fun i => if h : i < 13 then Classical.choose (hs i h) else (none, 0, 0), ?_⟩
  have ht : ∀ i (h : i < 13), l[i]? = some (sv (Classical.choose (hs i h))) := fun i h => Classical.choose_spec (hs i h)
  generalize hT : (fun i => if h : i < 13 then Classical.choose (hs i h) else ((none, 0, 0) : SlT)) = t
  have ht' : ∀ i, i < 13 → l[i]? = some (sv (t i)) := fun i h => by
    rw [ht i h, ← hT]
    simp only [h, dif_pos]
  refine ⟨?_, fun i hi => ?_, fun i hi => ?_, ?_⟩
  · refine List.ext_getElem? fun i => ?_
    by_cases hi : i < 13
    · rw [ht' i hi]
      match i, hi with
      | 0, _ => rfl
      | 1, _ => rfl
      | 2, _ => rfl
      | 3, _ => rfl
      | 4, _ => rfl
      | 5, _ => rfl
      | 6, _ => rfl
      | 7, _ => rfl
      | 8, _ => rfl
      | 9, _ => rfl
      | 10, _ => rfl
      | 11, _ => rfl
      | 12, _ => rfl
    · rw [List.getElem?_eq_none (by omega), List.getElem?_eq_none (by simp [L13]; omega)]
  · obtain ⟨v, e, hv⟩ := h8 i hi
    rw [ht' i (by omega)] at e
    cases e
    exact hv
  · obtain ⟨v, e, hv⟩ := h9 i hi
    rw [ht' (6 + i) (by omega)] at e
    cases e
    exact hv
  · have := ht' 12 (by decide)
    rw [h12] at this
    have e : sv (some ⟨B.fb j, 0, none⟩, R, R) = sv (t 12) := by simpa [sv] using this
    have : t 12 = ((t 12).1, (t 12).2.1, (t 12).2.2) := rfl
    rw [this]
    simp only [sv, Value.slice.injEq] at e
    obtain ⟨e1, e2, e3⟩ := e
    rw [← e1, ← e2, ← e3]
end
section
variable {ro : Nat} {s : St} {K : Value → St → Prop}
theorem wfin_each {s' : St} {v : Value} (hw : Wf s) (hg : Grew (ent s) s') (h : ∀ s9, Grew s s9 → K v s9) : wfin s K v s' := by
  cases hf : flat' v with
  | true =>
    rw [wfin_flat (by rw [hg.lo]; exact Nat.le_refl _) hf]
    exact h s (.refl s)
  | false => exact wfin_new hw hg hf fun s9 g9 _ _ => h s9 g9
theorem wRows (t : Nat → SlT) (hw : Wf s) (hro : ro ≤ s.n) (hk : ∀ s', Grew s s' → K (.agg (.mk [sv (t 0), sv (t 1), sv (t 2), sv (t 3), sv (t 4), sv (t 5)])) s') : CallWP P ro 89 [.agg (.mk (L13 t))] s K := by
  refine call_wp b89 rfl ?_
  rw [n89]
  unfold v89
  simp (maxSteps := 10000000) only [wW, reduceCtorEq, Nat.reduceEqDiff]
  refine box_rule hw.ent fun Bx s1 m1 => ?_
  have e1 := m1.eq
  have n1 := m1.n
  have hn0 : (ent s).n = s.n := rfl
  refine alloc_rule ty_120 m1.wf fun T s2 m2 => ?_
  have e2 := m2.eq
  have n2 := m2.n
  have hB2 : s2.at Bx = some (.cells (L13 t) 59 false) := (m2.grew.same Bx (by omega)).trans m1.here
  have h0 : aload P s2 36 (.pointer (some ⟨Bx, 0, none⟩)) = some (sv (t 0)) := by rw [load1 ap_36, acells_some hB2]; rfl
  have h1 : aload P s2 36 (.pointer (some ⟨Bx, 1, none⟩)) = some (sv (t 1)) := by rw [load1 ap_36, acells_some hB2]; rfl
  have h2 : aload P s2 36 (.pointer (some ⟨Bx, 2, none⟩)) = some (sv (t 2)) := by rw [load1 ap_36, acells_some hB2]; rfl
  have h3 : aload P s2 36 (.pointer (some ⟨Bx, 3, none⟩)) = some (sv (t 3)) := by rw [load1 ap_36, acells_some hB2]; rfl
  have h4 : aload P s2 36 (.pointer (some ⟨Bx, 4, none⟩)) = some (sv (t 4)) := by rw [load1 ap_36, acells_some hB2]; rfl
  have h5 : aload P s2 36 (.pointer (some ⟨Bx, 5, none⟩)) = some (sv (t 5)) := by rw [load1 ap_36, acells_some hB2]; rfl
  simp (maxSteps := 10000000) only [wW, reduceCtorEq, Nat.reduceEqDiff, fa_59_0, fa_59_1, fa_59_2, fa_59_3, fa_59_4, fa_59_5, Nat.zero_add]
  rw [wop_load, h0, wopt_some, wop_load, h1, wopt_some, wop_load, h2, wopt_some, wop_load, h3, wopt_some, wop_load, h4, wopt_some, wop_load, h5, wopt_some, bldRows, wopt_some]
  refine storeAll_rule isz_120 m2.here (l := [sv (t 0), sv (t 1), sv (t 2), sv (t 3), sv (t 4), sv (t 5)]) rfl (by decide) m2.wf (by omega) rfl rfl fun s3 p3 => ?_
  rw [wop_load, load_all ap_120 p3.here rfl, wopt_some]
  exact wfin_each hw (p3.grew _ hw.ent (m1.grew.trans m2.grew) (by omega)) hk
theorem wPaths (t : Nat → SlT) (hw : Wf s) (hro : ro ≤ s.n) (hk : ∀ s', Grew s s' → K (.agg (.mk [sv (t 6), sv (t 7), sv (t 8), sv (t 9), sv (t 10), sv (t 11)])) s') : CallWP P ro 90 [.agg (.mk (L13 t))] s K := by
  refine call_wp b90 rfl ?_
  rw [n90]
  unfold v90
  simp (maxSteps := 10000000) only [wW, reduceCtorEq, Nat.reduceEqDiff]
  refine box_rule hw.ent fun Bx s1 m1 => ?_
  have e1 := m1.eq
  have n1 := m1.n
  have hn0 : (ent s).n = s.n := rfl
  refine alloc_rule ty_122 m1.wf fun T s2 m2 => ?_
  have e2 := m2.eq
  have n2 := m2.n
  have hB2 : s2.at Bx = some (.cells (L13 t) 59 false) := (m2.grew.same Bx (by omega)).trans m1.here
  have h0 : aload P s2 33 (.pointer (some ⟨Bx, 6, none⟩)) = some (sv (t 6)) := by rw [load1 ap_33, acells_some hB2]; rfl
  have h1 : aload P s2 33 (.pointer (some ⟨Bx, 7, none⟩)) = some (sv (t 7)) := by rw [load1 ap_33, acells_some hB2]; rfl
  have h2 : aload P s2 33 (.pointer (some ⟨Bx, 8, none⟩)) = some (sv (t 8)) := by rw [load1 ap_33, acells_some hB2]; rfl
  have h3 : aload P s2 33 (.pointer (some ⟨Bx, 9, none⟩)) = some (sv (t 9)) := by rw [load1 ap_33, acells_some hB2]; rfl
  have h4 : aload P s2 33 (.pointer (some ⟨Bx, 10, none⟩)) = some (sv (t 10)) := by rw [load1 ap_33, acells_some hB2]; rfl
  have h5 : aload P s2 33 (.pointer (some ⟨Bx, 11, none⟩)) = some (sv (t 11)) := by rw [load1 ap_33, acells_some hB2]; rfl
  simp (maxSteps := 10000000) only [wW, reduceCtorEq, Nat.reduceEqDiff, fa_59_6, fa_59_7, fa_59_8, fa_59_9, fa_59_10, fa_59_11, Nat.zero_add]
  rw [wop_load, h0, wopt_some, wop_load, h1, wopt_some, wop_load, h2, wopt_some, wop_load, h3, wopt_some, wop_load, h4, wopt_some, wop_load, h5, wopt_some, bldPaths, wopt_some]
  refine storeAll_rule isz_122 m2.here (l := [sv (t 6), sv (t 7), sv (t 8), sv (t 9), sv (t 10), sv (t 11)]) rfl (by decide) m2.wf (by omega) rfl rfl fun s3 p3 => ?_
  rw [wop_load, load_all ap_122 p3.here rfl, wopt_some]
  exact wfin_each hw (p3.grew _ hw.ent (m1.grew.trans m2.grew) (by omega)) hk
end
end Go.VE
/- attestorref17.sameOpening. -/
namespace Go.VE
open Go Go.Proofs
set_option maxRecDepth 20000
def same89 (g g' : Nat → Nat → Nat → List Int) (q i : Nat) : Bool := decide (g 8 q i = g' 8 q i) && decide (g 9 q i = g' 9 q i)
def sameFo (g g' : Nat → Nat → Nat → List Int) (q i : Nat) : Bool := decide (g 10 q i = g' 10 q i) && decide (g 11 q i = g' 11 q i)
def sameO (R : Nat) (g g' : Nat → Nat → Nat → List Int) (q : Nat) : Bool := (List.range 6).all (same89 g g' q) && (List.range R).all (sameFo g g' q)
theorem all_false {f : Nat → Bool} {n i : Nat} (hi : i < n) (h : f i = false) : (List.range n).all f = false := by
  cases hb : (List.range n).all f with
  | false => rfl
  | true =>
    have := List.all_eq_true.1 hb i (List.mem_range.2 hi)
    rw [h] at this
    cases this
theorem all_true {f : Nat → Bool} {n : Nat} (h : ∀ j, j < n → f j = true) : (List.range n).all f = true := List.all_eq_true.2 fun j hj => h j (List.mem_range.1 hj)
def six (t : Nat → SlT) (a : Nat) : List Value := [sv (t (a + 0)), sv (t (a + 1)), sv (t (a + 2)), sv (t (a + 3)), sv (t (a + 4)), sv (t (a + 5))]
theorem six_get (t : Nat → SlT) (a : Nat) {i : Nat} (hi : i < 6) : (six t a)[i]? = some (sv (t (a + i))) := by
  match i, hi with
  | 0, _ => rfl
  | 1, _ => rfl
  | 2, _ => rfl
  | 3, _ => rfl
  | 4, _ => rfl
  | 5, _ => rfl
section
variable {s : St} {W : Nat → Prop} {cs : List Value} {B : PfB} {R Q : Nat} {g : Nat → Nat → Nat → List Int}
theorem PfAt.fold (h : PfAt s W cs B R Q g) {q i : Nat} (hq : q < Q) (hi : i < R) : ∃ c, s.at (B.fb q) = some (.cells c 114 false) ∧ cut c (9 * i + 0) 8 = some ((g 10 q i).map (.int .u64)) ∧ (g 10 q i).length = 8 ∧ ∃ v, c[9 * i + 8]? = some v ∧ SlV s W 2 v (g 11 q i) := by
  obtain ⟨c, hc, hl⟩ := h.fb q hq
  have hfit : 9 * i + 9 ≤ c.length := by rw [hl]; have := Nat.mul_le_mul_left 9 hi; omega
  obtain ⟨c1, hc1, hS1⟩ := h.sl 10 q i (.leaf q i hq hi)
  obtain ⟨c2, hc2, hS2⟩ := h.sl 11 q i (.fold q i hq hi)
  have hc1 : acells (s.at (B.fb q)) = some c1 := hc1
  have hc2 : acells (s.at (B.fb q)) = some c2 := hc2
  rw [acells_some hc] at hc1 hc2
  cases hc1
  cases hc2
  unfold SlotC at hS1 hS2
  rw [if_neg (by decide), if_pos rfl] at hS1
  rw [if_neg (by decide), if_neg (by decide), if_neg (by decide)] at hS2
  refine ⟨c, hc, ?_, hS1.1, hS2⟩
  rw [Nat.add_zero, cut_eq (by omega)]
  congr 1
  refine List.ext_getElem? fun j => ?_
  rw [List.getElem?_take]
  by_cases hj : j < 8
  · rw [if_pos hj, List.getElem?_drop, List.getElem?_map]
    exact hS1.2 j hj
  · rw [if_neg hj, List.getElem?_eq_none (by rw [List.length_map]; omega)]
end
section
variable {ro : Nat} {s : St} {K : Value → St → Prop} {W W' : Nat → Prop} {cs cs' : List Value} {B B' : PfB} {R Q : Nat} {g g' : Nat → Nat → Nat → List Int}
theorem ixSix {A i : Nat} (hi : i < 6) : aindexAddr P 120 (.pointer (some ⟨A, 0, none⟩)) (.int .i64 (i : Int)) = some (.pointer (some ⟨A, i, none⟩)) := by
  simp only [aindexAddr, un_120, isz_36, Option.bind_some, aplace]
  rw [if_pos ⟨by omega, by omega⟩, Int.toNat_natCast, Nat.mul_one, Nat.zero_add]
theorem ixSixD {A i : Nat} (hi : i < 6) : aindexAddr P 122 (.pointer (some ⟨A, 0, none⟩)) (.int .i64 (i : Int)) = some (.pointer (some ⟨A, i, none⟩)) := by
  simp only [aindexAddr, un_122, isz_33, Option.bind_some, aplace]
  rw [if_pos ⟨by omega, by omega⟩, Int.toNat_natCast, Nat.mul_one, Nat.zero_add]
theorem soLoop1 {X1 X2 Y1 Y2 q : Nat} {t t' : Nat → SlT} {τ0 : Tau} (h8 : ∀ i, i < 6 → SlV s W 1 (sv (t i)) (g 8 q i)) (h9 : ∀ i, i < 6 → SlV s W 2 (sv (t (6 + i))) (g 9 q i)) (h8' : ∀ i, i < 6 → SlV s W' 1 (sv (t' i)) (g' 8 q i)) (h9' : ∀ i, i < 6 → SlV s W' 2 (sv (t' (6 + i))) (g' 9 q i))
    (hg : ∀ k q i, (g k q i).length < 2 ^ 20) (hg' : ∀ k q i, (g' k q i).length < 2 ^ 20)
    (hX1 : s.at X1 = some (.cells (six t 0) 120 false)) (hX2 : s.at X2 = some (.cells (six t' 0) 120 false)) (hY1 : s.at Y1 = some (.cells (six t 6) 122 false)) (hY2 : s.at Y2 = some (.cells (six t' 6) 122 false))
    {τ : Tau} {ds : List Deferred} {Kx k0 : WK} {L : List (Nat × WK)} (t5 : τ 5 = ptr X1) (t6 : τ 6 = ptr X2) (t7 : τ 7 = ptr Y1) (t8 : τ 8 = ptr Y2) (t9 : τ 9 = .int .i64 0)
    (hk : ∀ τ', τ' 2 = τ 2 → τ' 3 = τ 3 → (List.range 6).all (same89 g g' q) = true → k0 τ' ds s) (hret : ∀ τ', τ' 4 = .bool false → (List.range 6).all (same89 g g' q) = false → Kx τ' ds s) :
    WLoop P ro 84 none c53_1110100 τ ds s Kx ((0, k0) :: L) := by
  refine wloop l53_1110100 m53_1110100 (fun (i : Nat) τ' ds' s' => i ≤ 6 ∧ τ' 2 = τ 2 ∧ τ' 3 = τ 3 ∧ τ' 5 = ptr X1 ∧ τ' 6 = ptr X2 ∧ τ' 7 = ptr Y1 ∧ τ' 8 = ptr Y2 ∧ τ' 9 = .int .i64 i ∧ ds' = ds ∧ s' = s ∧ ∀ j, j < i → same89 g g' q j = true) (fun i => 6 - i) ?_ 0 ⟨by omega, rfl, rfl, t5, t6, t7, t8, t9, rfl, rfl, fun j hj => by omega⟩
  rintro i τ' ds' s' ⟨hi, a2, a3, a5, a6, a7, a8, a9, rfl, rfl, hall⟩
  rw [n53_1110100]
  unfold v53_1110100
  rw [a5, a6, a7, a8, a9]
  simp (maxSteps := 10000000) only [wW, reduceCtorEq, Nat.reduceEqDiff]
  by_cases hlt : i < 6
  · have l1 : aload P s' 36 (.pointer (some ⟨X1, i, none⟩)) = some (sv (t (0 + i))) := by rw [load1 ap_36, acells_some hX1]; exact six_get t 0 hlt
    have l2 : aload P s' 36 (.pointer (some ⟨X2, i, none⟩)) = some (sv (t' (0 + i))) := by rw [load1 ap_36, acells_some hX2]; exact six_get t' 0 hlt
    have l3 : aload P s' 33 (.pointer (some ⟨Y1, i, none⟩)) = some (sv (t (6 + i))) := by rw [load1 ap_33, acells_some hY1]; exact six_get t 6 hlt
    have l4 : aload P s' 33 (.pointer (some ⟨Y2, i, none⟩)) = some (sv (t' (6 + i))) := by rw [load1 ap_33, acells_some hY2]; exact six_get t' 6 hlt
    rw [Nat.zero_add] at l1 l2
    rw [if_pos (by omega), wop_indexAddr, ixSix hlt, wopt_some, wop_load, l1, wopt_some]
    refine ⟨sv_veq _, ?_⟩
    rw [wop_indexAddr, ixSix hlt, wopt_some, wop_load, l2, wopt_some]
    refine ⟨sv_veq _, ?_⟩
    rw [wSame1 (h8 i hlt).u64s (h8' i hlt).u64s (by have := hg 8 q i; omega) (by have := hg' 8 q i; omega)]
    simp (maxSteps := 10000000) only [wW, reduceCtorEq, Nat.reduceEqDiff]
    by_cases h1 : g 8 q i = g' 8 q i
    · rw [if_neg (fun h => h h1), wop_indexAddr, ixSixD hlt, wopt_some, wop_load, l3, wopt_some]
      refine ⟨sv_veq _, ?_⟩
      rw [wop_indexAddr, ixSixD hlt, wopt_some, wop_load, l4, wopt_some]
      refine ⟨sv_veq _, ?_⟩
      obtain ⟨m1, e1, d1, _⟩ := h9 i hlt
      obtain ⟨m2, e2, d2, _⟩ := h9' i hlt
      have := hg 9 q i
      have := hg' 9 q i
      rw [wSameD d1 d2 e1 e2 (by omega) (by omega)]
      simp (maxSteps := 10000000) only [wW, reduceCtorEq, Nat.reduceEqDiff]
      by_cases h2 : g 9 q i = g' 9 q i
      · rw [if_neg (fun h => h h2), wrap_i64 (by omega) (by omega)]
        refine ⟨i + 1, by omega, by omega, ?_, ?_, ?_, ?_, ?_, ?_, ?_, by first | trivial | rfl, by first | trivial | rfl, fun j hj => ?_⟩
        · simp only [U, tset_eq, wW, reduceCtorEq, Nat.reduceEqDiff, a2]
        · simp only [U, tset_eq, wW, reduceCtorEq, Nat.reduceEqDiff, a3]
        · simp only [U, tset_eq, wW, reduceCtorEq, Nat.reduceEqDiff, a5]
        · simp only [U, tset_eq, wW, reduceCtorEq, Nat.reduceEqDiff, a6]
        · simp only [U, tset_eq, wW, reduceCtorEq, Nat.reduceEqDiff, a7]
        · simp only [U, tset_eq, wW, reduceCtorEq, Nat.reduceEqDiff, a8]
        · simp only [U, tset_eq, wW, reduceCtorEq, Nat.reduceEqDiff]; rfl
        · by_cases hji : j = i
          · subst hji
            unfold same89
            rw [h1, h2, decide_eq_true rfl, decide_eq_true rfl]; rfl
          · exact hall j (by omega)
      · rw [if_pos h2]
        refine hret _ ?_ (all_false hlt (by unfold same89; rw [decide_eq_false h2, Bool.and_false]))
        simp only [U, tset_eq, wW, reduceCtorEq, Nat.reduceEqDiff]
    · rw [if_pos h1]
      refine hret _ ?_ (all_false hlt (by unfold same89; rw [decide_eq_false h1, Bool.false_and]))
      simp only [U, tset_eq, wW, reduceCtorEq, Nat.reduceEqDiff]
  · obtain rfl : i = 6 := by omega
    rw [if_neg (by omega)]
    refine hk _ ?_ ?_ (all_true hall)
    · simp only [U, tset_eq, wW, reduceCtorEq, Nat.reduceEqDiff, a2]
    · simp only [U, tset_eq, wW, reduceCtorEq, Nat.reduceEqDiff, a3]
theorem soLoop2 {B1 B2 q : Nat} {t t' : Nat → SlT} (hp : PfAt s W cs B R Q g) (hp' : PfAt s W' cs' B' R Q g') (hq : q < Q) (hR : R < 2 ^ 20) (ht : t 12 = (some ⟨B.fb q, 0, none⟩, R, R)) (ht' : t' 12 = (some ⟨B'.fb q, 0, none⟩, R, R))
    (hg : ∀ k q i, (g k q i).length < 2 ^ 20) (hg' : ∀ k q i, (g' k q i).length < 2 ^ 20) (hB1 : s.at B1 = some (.cells (L13 t) 59 false)) (hB2 : s.at B2 = some (.cells (L13 t') 59 false))
    {τ : Tau} {ds : List Deferred} {Kx k2 : WK} {L : List (Nat × WK)} (t2 : τ 2 = ptr B1) (t3 : τ 3 = ptr B2) (t10 : τ 10 = .int .i64 0)
    (hk : ∀ τ', (List.range R).all (sameFo g g' q) = true → k2 τ' ds s) (hret : ∀ τ', τ' 4 = .bool false → (List.range R).all (sameFo g g' q) = false → Kx τ' ds s) :
    WLoop P ro 84 none c53_111110100 τ ds s Kx ((2, k2) :: L) := by
  refine wloop l53_111110100 m53_111110100 (fun (i : Nat) τ' ds' s' => i ≤ R ∧ τ' 2 = ptr B1 ∧ τ' 3 = ptr B2 ∧ τ' 10 = .int .i64 i ∧ ds' = ds ∧ s' = s ∧ ∀ j, j < i → sameFo g g' q j = true) (fun i => R - i) ?_ 0 ⟨by omega, t2, t3, t10, rfl, rfl, fun j hj => by omega⟩
  rintro i τ' ds' s' ⟨hi, a2, a3, a10, rfl, rfl, hall⟩
  rw [n53_111110100]
  unfold v53_111110100
  have f1 : aload P s' 57 (.pointer (some ⟨B1, 0 + 12, none⟩)) = some (.slice (some ⟨B.fb q, 0, none⟩) R R) := by
    rw [load1 ap_57, acells_some hB1]
    show some (sv (t 12)) = _
    rw [ht]; rfl
  have f2 : aload P s' 57 (.pointer (some ⟨B2, 0 + 12, none⟩)) = some (.slice (some ⟨B'.fb q, 0, none⟩) R R) := by
    rw [load1 ap_57, acells_some hB2]
    show some (sv (t' 12)) = _
    rw [ht']; rfl
  rw [a2, a3, a10]
  simp (maxSteps := 10000000) only [pr_wop, pr_call]
  rw [wop_fieldAddr, fa_59_12, wopt_some, wop_load, f1, wopt_some, wop_len se_57, wop_int, int_lss keq_i64, wopt_some]
  by_cases hlt : i < R
  · obtain ⟨c, hc, c8, cl, v, cv, hv⟩ := hp.fold hq hlt
    obtain ⟨c', hc', c8', cl', v', cv', hv'⟩ := hp'.fold hq hlt
    have w1 : veq (.agg (.mk ((g 10 q i).map (.int .u64)))) (.agg (.mk ((g 10 q i).map (.int .u64)))) = true := veqAgg fun v hv => by obtain ⟨z, _, rfl⟩ := List.mem_map.1 hv; simp [veq]
    have w2 : veq (.agg (.mk ((g' 10 q i).map (.int .u64)))) (.agg (.mk ((g' 10 q i).map (.int .u64)))) = true := veqAgg fun v hv => by obtain ⟨z, _, rfl⟩ := List.mem_map.1 hv; simp [veq]
    have l1 : aload P s' 33 (.pointer (some ⟨B.fb q, 9 * i + 8, none⟩)) = some v := by rw [load1 ap_33, acells_some hc]; exact cv
    have l2 : aload P s' 33 (.pointer (some ⟨B'.fb q, 9 * i + 8, none⟩)) = some v' := by rw [load1 ap_33, acells_some hc']; exact cv'
    rw [decide_eq_true (by omega), wdec_true, wop_fieldAddr, fa_59_12, wopt_some, wop_load, f1, wopt_some]
    refine ⟨veqSl _ _ _ _ _, ?_⟩
    rw [wop_indexAddr, ixFl (by omega) (by omega), wopt_some, Int.toNat_natCast, wop_fieldAddr, fa_114_0, wopt_some, wop_load, load_part ap_112 hc c8, wopt_some]
    refine ⟨w1, ?_⟩
    rw [wop_fieldAddr, fa_59_12, wopt_some, wop_load, f2, wopt_some]
    refine ⟨veqSl _ _ _ _ _, ?_⟩
    rw [wop_indexAddr, ixFl (by omega) (by omega), wopt_some, Int.toNat_natCast, wop_fieldAddr, fa_114_0, wopt_some, wop_load, load_part ap_112 hc' c8', wopt_some]
    refine ⟨w2, ?_⟩
    rw [neqEight _ _ cl cl']
    by_cases h1 : g 10 q i = g' 10 q i
    · rw [decide_eq_true h1, Bool.not_true, wdec_false, wop_fieldAddr, fa_59_12, wopt_some, wop_load, f1, wopt_some]
      refine ⟨veqSl _ _ _ _ _, ?_⟩
      rw [wop_indexAddr, ixFl (by omega) (by omega), wopt_some, Int.toNat_natCast, wop_fieldAddr, fa_114_1, wopt_some, wop_load, l1, wopt_some]
      refine ⟨veq_sl hv, ?_⟩
      rw [wop_fieldAddr, fa_59_12, wopt_some, wop_load, f2, wopt_some]
      refine ⟨veqSl _ _ _ _ _, ?_⟩
      rw [wop_indexAddr, ixFl (by omega) (by omega), wopt_some, Int.toNat_natCast, wop_fieldAddr, fa_114_1, wopt_some, wop_load, l2, wopt_some]
      refine ⟨veq_sl hv', ?_⟩
      obtain ⟨m1, e1, d1, _⟩ := hv
      obtain ⟨m2, e2, d2, _⟩ := hv'
      have := hg 11 q i
      have := hg' 11 q i
      rw [wSameD d1 d2 e1 e2 (by omega) (by omega)]
      simp (maxSteps := 10000000) only [wW, reduceCtorEq, Nat.reduceEqDiff]
      by_cases h2 : g 11 q i = g' 11 q i
      · rw [if_neg (fun h => h h2), wrap_i64 (by omega) (by omega)]
        refine ⟨i + 1, by omega, by omega, ?_, ?_, ?_, by first | trivial | rfl, by first | trivial | rfl, fun j hj => ?_⟩
        · simp only [U, tset_eq, wW, reduceCtorEq, Nat.reduceEqDiff, a2]
        · simp only [U, tset_eq, wW, reduceCtorEq, Nat.reduceEqDiff, a3]
        · simp only [U, tset_eq, wW, reduceCtorEq, Nat.reduceEqDiff]; rfl
        · by_cases hji : j = i
          · subst hji
            unfold sameFo
            rw [h1, h2, decide_eq_true rfl, decide_eq_true rfl]; rfl
          · exact hall j (by omega)
      · rw [if_pos h2]
        refine hret _ ?_ (all_false hlt (by unfold sameFo; rw [decide_eq_false h2, Bool.and_false]))
        simp only [U, tset_eq, wW, reduceCtorEq, Nat.reduceEqDiff]
    · rw [decide_eq_false h1, Bool.not_false, wdec_true]
      refine hret _ ?_ (all_false hlt (by unfold sameFo; rw [decide_eq_false h1, Bool.false_and]))
      simp only [U, tset_eq, wW, reduceCtorEq, Nat.reduceEqDiff]
  · obtain rfl : i = R := by omega
    rw [decide_eq_false (by omega), wdec_false]
    exact hk _ (all_true hall)
end
end Go.VE
/- attestorref17.sameOpening, its contract. -/
namespace Go.VE
open Go Go.Proofs
set_option maxRecDepth 20000
section
variable {ro : Nat} {s : St} {K : Value → St → Prop} {W W' : Nat → Prop} {cs cs' : List Value} {B B' : PfB} {R Q : Nat} {g g' : Nat → Nat → Nat → List Int}
theorem wSameOp {q : Nat} {t t' : Nat → SlT} (hp : PfAt s W cs B R Q g) (hp' : PfAt s W' cs' B' R Q g') (hq : q < Q) (hR : R < 2 ^ 20) (ht : t 12 = (some ⟨B.fb q, 0, none⟩, R, R)) (ht' : t' 12 = (some ⟨B'.fb q, 0, none⟩, R, R))
    (h8 : ∀ i, i < 6 → SlV s W 1 (sv (t i)) (g 8 q i)) (h9 : ∀ i, i < 6 → SlV s W 2 (sv (t (6 + i))) (g 9 q i)) (h8' : ∀ i, i < 6 → SlV s W' 1 (sv (t' i)) (g' 8 q i)) (h9' : ∀ i, i < 6 → SlV s W' 2 (sv (t' (6 + i))) (g' 9 q i))
    (hg : ∀ k q i, (g k q i).length < 2 ^ 20) (hg' : ∀ k q i, (g' k q i).length < 2 ^ 20) (hw : Wf s) (hro : ro ≤ s.n) : CallWP P ro 53 [.agg (.mk (L13 t)), .agg (.mk (L13 t'))] s K = K (.bool (sameO R g g' q)) s := by
  refine callEq (call_wp b53 rfl ?_) K
  rw [n53]
  unfold v53
  simp (maxSteps := 10000000) only [wW, reduceCtorEq, Nat.reduceEqDiff]
  have hn0 : (ent s).n = s.n := rfl
  refine box_rule hw.ent fun B1 s1 m1 => ?_
  refine box_rule m1.wf fun B2 s2 m2 => ?_
  have e1 := m1.eq
  have n1 := m1.n
  have e2 := m2.eq
  have n2 := m2.n
  have hA2 : s2.at B1 = some (.cells (L13 t) 59 false) := (m2.grew.same B1 (by omega)).trans m1.here
  have hB2 : s2.at B2 = some (.cells (L13 t') 59 false) := m2.here
  rw [wop_load, load_all ap_59 hA2 rfl, wopt_some]
  refine ⟨L13_veq t, ?_⟩
  rw [wop_load, load_all ap_59 hB2 rfl, wopt_some]
  refine ⟨L13_veq t', ?_⟩
  refine alloc_rule ty_120 m2.wf fun X1 s3 m3 => ?_
  have e3 := m3.eq
  have n3 := m3.n
  refine ⟨m3.fresh rfl, ?_⟩
  refine alloc_rule ty_120 m3.wf fun X2 s4 m4 => ?_
  have e4 := m4.eq
  have n4 := m4.n
  refine ⟨m4.fresh rfl, ?_⟩
  refine wRows t m4.wf (by omega) fun s5 g5 => ?_
  have n5 := g5.n
  have w5 := m4.wf.grew g5
  refine ⟨g5.keeps, ?_⟩
  refine wRows t' w5 (by omega) fun s6 g6 => ?_
  have n6 := g6.n
  have w6 := w5.grew g6
  refine ⟨g6.keeps, ?_⟩
  have g46 := g5.trans g6
  have hX1 := (g46.same X1 (by omega)).trans ((m4.grew.same X1 (by omega)).trans m3.here)
  refine storeAll_rule isz_120 hX1 (l := six t 0) rfl (by decide) w6 (by omega) rfl rfl fun s7 p7 => ?_
  have n7 := p7.n
  refine ⟨by omega, ?_⟩
  have hX2 := (p7.rest X2 (by omega)).trans ((g46.same X2 (by omega)).trans m4.here)
  refine storeAll_rule isz_120 hX2 (l := six t' 0) rfl (by decide) p7.wf (by omega) rfl rfl fun s8 p8 => ?_
  have n8 := p8.n
  refine ⟨by omega, ?_⟩
  have g04 : Grew (ent s) s4 := ((m1.grew.trans m2.grew).trans m3.grew).trans m4.grew
  have g08 : Grew (ent s) s8 := p8.grew _ hw.ent (p7.grew _ hw.ent (g04.trans g46) (by omega)) (by omega)
  have g26 : Grew s2 s6 := (m3.grew.trans m4.grew).trans g46
  have hA8 := (p8.rest B1 (by omega)).trans ((p7.rest B1 (by omega)).trans ((g26.same B1 (by omega)).trans hA2))
  have hB8 := (p8.rest B2 (by omega)).trans ((p7.rest B2 (by omega)).trans ((g26.same B2 (by omega)).trans hB2))
  have hX18 := (p8.rest X1 (by omega)).trans p7.here
  have hX28 := p8.here
  rw [wop_load, load_all ap_59 hA8 rfl, wopt_some]
  refine ⟨L13_veq t, ?_⟩
  rw [wop_load, load_all ap_59 hB8 rfl, wopt_some]
  refine ⟨L13_veq t', ?_⟩
  refine alloc_rule ty_122 p8.wf fun Y1 s9 m9 => ?_
  have e9 := m9.eq
  have n9 := m9.n
  refine ⟨m9.fresh rfl, ?_⟩
  refine alloc_rule ty_122 m9.wf fun Y2 s10 m10 => ?_
  have e10 := m10.eq
  have n10 := m10.n
  refine ⟨m10.fresh rfl, ?_⟩
  refine wPaths t m10.wf (by omega) fun s11 g11 => ?_
  have n11 := g11.n
  have w11 := m10.wf.grew g11
  refine ⟨g11.keeps, ?_⟩
  refine wPaths t' w11 (by omega) fun s12 g12 => ?_
  have n12 := g12.n
  have w12 := w11.grew g12
  refine ⟨g12.keeps, ?_⟩
  have g1012 := g11.trans g12
  have hY1 := (g1012.same Y1 (by omega)).trans ((m10.grew.same Y1 (by omega)).trans m9.here)
  refine storeAll_rule isz_122 hY1 (l := six t 6) rfl (by decide) w12 (by omega) rfl rfl fun s13 p13 => ?_
  have n13 := p13.n
  refine ⟨by omega, ?_⟩
  have hY2 := (p13.rest Y2 (by omega)).trans ((g1012.same Y2 (by omega)).trans m10.here)
  refine storeAll_rule isz_122 hY2 (l := six t' 6) rfl (by decide) p13.wf (by omega) rfl rfl fun s14 p14 => ?_
  have n14 := p14.n
  refine ⟨by omega, ?_⟩
  have g812 : Grew s8 s12 := (m9.grew.trans m10.grew).trans g1012
  have g014 : Grew (ent s) s14 := p14.grew _ hw.ent (p13.grew _ hw.ent (g08.trans g812) (by omega)) (by omega)
  have h814 : ∀ X, X < s8.n → s14.at X = s8.at X := fun X hX => (p14.rest X (by omega)).trans ((p13.rest X (by omega)).trans (g812.same X hX))
  have hp14 : PfAt s14 W cs B R Q g := (hp.keep (s' := ent s) (Nat.le_refl _) fun _ _ => rfl).grew g014
  have hp14' : PfAt s14 W' cs' B' R Q g' := (hp'.keep (s' := ent s) (Nat.le_refl _) fun _ _ => rfl).grew g014
  have up : ∀ {W : Nat → Prop} {sz : Nat} {v : Value} {l : List Int}, SlV s W sz v l → SlV s14 W sz v l := fun h => h.mono (by omega) fun A hA _ => g014.same A hA
  refine soLoop1 (τ0 := undefT) (fun i hi => up (h8 i hi)) (fun i hi => up (h9 i hi)) (fun i hi => up (h8' i hi)) (fun i hi => up (h9' i hi)) hg hg' ((h814 X1 (by omega)).trans hX18) ((h814 X2 (by omega)).trans hX28) ((p14.rest Y1 (by omega)).trans p13.here) p14.here ?_ ?_ ?_ ?_ ?_ (fun τ1 c2 c3 hall => ?_) (fun τ1 c4 hno => ?_)
  · simp only [U, tset_eq, wW, reduceCtorEq, Nat.reduceEqDiff]
  · simp only [U, tset_eq, wW, reduceCtorEq, Nat.reduceEqDiff]
  · simp only [U, tset_eq, wW, reduceCtorEq, Nat.reduceEqDiff]
  · simp only [U, tset_eq, wW, reduceCtorEq, Nat.reduceEqDiff]
  · simp only [U, tset_eq, wW, reduceCtorEq, Nat.reduceEqDiff]
  · have c2' : τ1 2 = ptr B1 := by rw [c2]; simp only [U, tset_eq, wW, reduceCtorEq, Nat.reduceEqDiff]
    have c3' : τ1 3 = ptr B2 := by rw [c3]; simp only [U, tset_eq, wW, reduceCtorEq, Nat.reduceEqDiff]
    have hA14 := (h814 B1 (by omega)).trans hA8
    have hB14 := (h814 B2 (by omega)).trans hB8
    have f1 : aload P s14 57 (.pointer (some ⟨B1, 0 + 12, none⟩)) = some (.slice (some ⟨B.fb q, 0, none⟩) R R) := by
      rw [load1 ap_57, acells_some hA14]
      show some (sv (t 12)) = _
      rw [ht]; rfl
    have f2 : aload P s14 57 (.pointer (some ⟨B2, 0 + 12, none⟩)) = some (.slice (some ⟨B'.fb q, 0, none⟩) R R) := by
      rw [load1 ap_57, acells_some hB14]
      show some (sv (t' 12)) = _
      rw [ht']; rfl
    rw [c2', c3', fa_59_12, wopt_some, wop_load, f1, wopt_some, wop_len se_57, fa_59_12, wopt_some, wop_load, f2, wopt_some, wop_len se_57]
    simp (maxSteps := 10000000) only [wW, reduceCtorEq, Nat.reduceEqDiff]
    rw [if_neg (fun h => h trivial)]
    refine soLoop2 hp14 hp14' hq hR ht ht' hg hg' hA14 hB14 ?_ ?_ ?_ (fun τ2 hall2 => ?_) (fun τ2 c4 hno => ?_)
    · simp only [U, tset_eq, wW, reduceCtorEq, Nat.reduceEqDiff, c2']
    · simp only [U, tset_eq, wW, reduceCtorEq, Nat.reduceEqDiff, c3']
    · simp only [U, tset_eq, wW, reduceCtorEq, Nat.reduceEqDiff]
    · simp (maxSteps := 10000000) only [wW, reduceCtorEq, Nat.reduceEqDiff]
      exact fin_flat rfl g014 ⟨by unfold sameO; rw [hall, hall2]; rfl, rfl⟩
    · show xleave (prims P ro) s Tryd.f53.results.toList _ .ret _ [] [] s14
      rw [r53]
      simp (maxSteps := 10000000) only [U, tset_eq, wW, reduceCtorEq, Nat.reduceEqDiff, c4]
      exact fin_flat rfl g014 ⟨by unfold sameO; rw [hno, Bool.and_false], rfl⟩
  · show xleave (prims P ro) s Tryd.f53.results.toList _ .ret _ [] [] s14
    rw [r53]
    simp (maxSteps := 10000000) only [U, tset_eq, wW, reduceCtorEq, Nat.reduceEqDiff, c4]
    exact fin_flat rfl g014 ⟨by unfold sameO; rw [hno, Bool.false_and], rfl⟩
end
end Go.VE
/- attestorref17.Same. -/
namespace Go.VE
open Go Go.Proofs
set_option maxRecDepth 20000
def sameRd (g g' : Nat → Nat → Nat → List Int) (i : Nat) : Bool := decide (g 5 0 i = g' 5 0 i)
def sameT (g g' : Nat → Nat → Nat → List Int) (k : Nat) : Bool := decide (g k 0 0 = g' k 0 0)
def sameG (R Q : Nat) (g g' : Nat → Nat → Nat → List Int) : Bool := sameT g g' 2 && sameT g g' 7 && sameT g g' 1 && sameT g g' 3 && sameT g g' 4 && sameT g g' 6 && (List.range R).all (sameRd g g') && (List.range Q).all (sameO R g g')
section
variable {s : St} {W : Nat → Prop} {cs : List Value} {B : PfB} {R Q : Nat} {g : Nat → Nat → Nat → List Int}
theorem PfAt.opT (h : PfAt s W cs B R Q g) {q : Nat} (hq : q < Q) : ∃ oc t, s.at B.ob = some (.cells oc 59 false) ∧ cut oc (13 * q) 13 = some (L13 t) ∧ (∀ i, i < 6 → SlV s W 1 (sv (t i)) (g 8 q i)) ∧ (∀ i, i < 6 → SlV s W 2 (sv (t (6 + i))) (g 9 q i)) ∧ t 12 = (some ⟨B.fb q, 0, none⟩, R, R) := by
  obtain ⟨oc, l, h1, h2, h3, _, h8, h9, h12⟩ := h.opn hq
  obtain ⟨t, rfl, a, b, c⟩ := opnT h3 h8 h9 h12
  exact ⟨oc, t, h1, h2, a, b, c⟩
theorem PfAt.rd (h : PfAt s W cs B R Q g) {i : Nat} (hi : i < R) : ∃ rc v, s.at B.rb = some (.cells rc 33 false) ∧ rc[i]? = some v ∧ SlV s W 2 v (g 5 0 i) := by
  obtain ⟨rc, h1, _⟩ := h.rb
  obtain ⟨c, hc, hS⟩ := h.sl 5 0 i (.round i hi)
  have hc : acells (s.at B.rb) = some c := hc
  rw [acells_some h1] at hc
  cases hc
  unfold SlotC at hS
  rw [if_neg (by decide), if_neg (by decide), if_neg (by decide)] at hS
  obtain ⟨v, e, hv⟩ := hS
  exact ⟨rc, v, h1, e, hv⟩
end
section
variable {ro : Nat} {s : St} {K : Value → St → Prop} {W W' : Nat → Prop} {cs cs' : List Value} {B B' : PfB} {R Q : Nat} {g g' : Nat → Nat → Nat → List Int}
theorem saLoop1 {Z1 Z2 : Nat} (hp : PfAt s W cs B R Q g) (hp' : PfAt s W' cs' B' R Q g') (hR : R < 2 ^ 20) (hg : ∀ k q i, (g k q i).length < 2 ^ 20) (hg' : ∀ k q i, (g' k q i).length < 2 ^ 20) (hZ1 : s.at Z1 = some (.cells cs 39 false)) (hZ2 : s.at Z2 = some (.cells cs' 39 false))
    {τ : Tau} {ds : List Deferred} {Kx k0 : WK} {L : List (Nat × WK)} (t2 : τ 2 = ptr Z1) (t3 : τ 3 = ptr Z2) (t5 : τ 5 = .int .i64 0)
    (hk : ∀ τ', τ' 2 = ptr Z1 → τ' 3 = ptr Z2 → (List.range R).all (sameRd g g') = true → k0 τ' ds s) (hret : ∀ τ', τ' 4 = .bool false → (List.range R).all (sameRd g g') = false → Kx τ' ds s) :
    WLoop P ro 107 none c19_110100 τ ds s Kx ((0, k0) :: L) := by
  refine wloop l19_110100 m19_110100 (fun (i : Nat) τ' ds' s' => i ≤ R ∧ τ' 2 = ptr Z1 ∧ τ' 3 = ptr Z2 ∧ τ' 5 = .int .i64 i ∧ ds' = ds ∧ s' = s ∧ ∀ j, j < i → sameRd g g' j = true) (fun i => R - i) ?_ 0 ⟨by omega, t2, t3, t5, rfl, rfl, fun j hj => by omega⟩
  rintro i τ' ds' s' ⟨hi, a2, a3, a5, rfl, rfl, hall⟩
  rw [n19_110100]
  unfold v19_110100
  have f1 : aload P s' 35 (.pointer (some ⟨Z1, 0 + 4, none⟩)) = some (.slice (some ⟨B.rb, 0, none⟩) R R) := by rw [load1 ap_35, acells_some hZ1]; exact hp.c4
  have f2 : aload P s' 35 (.pointer (some ⟨Z2, 0 + 4, none⟩)) = some (.slice (some ⟨B'.rb, 0, none⟩) R R) := by rw [load1 ap_35, acells_some hZ2]; exact hp'.c4
  rw [a2, a3, a5]
  simp (maxSteps := 10000000) only [pr_wop, pr_call]
  rw [wop_fieldAddr, fa_39_4, wopt_some, wop_load, f1, wopt_some, wop_len se_35, wop_int, int_lss keq_i64, wopt_some]
  by_cases hlt : i < R
  · obtain ⟨rc, v, hc, e1, hv⟩ := hp.rd hlt
    obtain ⟨rc', v', hc', e2, hv'⟩ := hp'.rd hlt
    have l1 : aload P s' 33 (ptrO B.rb i) = some v := by rw [show ptrO B.rb i = .pointer (some ⟨B.rb, i, none⟩) from rfl, load1 ap_33, acells_some hc]; exact e1
    have l2 : aload P s' 33 (ptrO B'.rb i) = some v' := by rw [show ptrO B'.rb i = .pointer (some ⟨B'.rb, i, none⟩) from rfl, load1 ap_33, acells_some hc']; exact e2
    rw [decide_eq_true (by omega), wdec_true, wop_fieldAddr, fa_39_4, wopt_some, wop_load, f1, wopt_some]
    refine ⟨veqSl _ _ _ _ _, ?_⟩
    rw [wop_indexAddr, ixRd (by omega) (by omega), wopt_some, Int.toNat_natCast, wop_load, l1, wopt_some]
    refine ⟨veq_sl hv, ?_⟩
    rw [wop_fieldAddr, fa_39_4, wopt_some, wop_load, f2, wopt_some]
    refine ⟨veqSl _ _ _ _ _, ?_⟩
    rw [wop_indexAddr, ixRd (by omega) (by omega), wopt_some, Int.toNat_natCast, wop_load, l2, wopt_some]
    refine ⟨veq_sl hv', ?_⟩
    obtain ⟨m1, x1, d1, _⟩ := hv
    obtain ⟨m2, x2, d2, _⟩ := hv'
    have := hg 5 0 i
    have := hg' 5 0 i
    rw [wSameD d1 d2 x1 x2 (by omega) (by omega)]
    simp (maxSteps := 10000000) only [wW, reduceCtorEq, Nat.reduceEqDiff]
    by_cases h1 : g 5 0 i = g' 5 0 i
    · rw [if_neg (fun h => h h1), wrap_i64 (by omega) (by omega)]
      refine ⟨i + 1, by omega, by omega, ?_, ?_, ?_, by first | trivial | rfl, by first | trivial | rfl, fun j hj => ?_⟩
      · simp only [U, tset_eq, wW, reduceCtorEq, Nat.reduceEqDiff, a2]
      · simp only [U, tset_eq, wW, reduceCtorEq, Nat.reduceEqDiff, a3]
      · simp only [U, tset_eq, wW, reduceCtorEq, Nat.reduceEqDiff]; rfl
      · by_cases hji : j = i
        · subst hji
          exact decide_eq_true h1
        · exact hall j (by omega)
    · rw [if_pos h1]
      refine hret _ ?_ (all_false hlt (decide_eq_false h1))
      simp only [U, tset_eq, wW, reduceCtorEq, Nat.reduceEqDiff]
  · obtain rfl : i = R := by omega
    rw [decide_eq_false (by omega), wdec_false]
    refine hk _ ?_ ?_ (all_true hall)
    · simp only [U, tset_eq, wW, reduceCtorEq, Nat.reduceEqDiff, a2]
    · simp only [U, tset_eq, wW, reduceCtorEq, Nat.reduceEqDiff, a3]
theorem saLoop2 {Z1 Z2 : Nat} (hp : PfAt s W cs B R Q g) (hp' : PfAt s W' cs' B' R Q g') (hR : R < 2 ^ 20) (hQ : Q < 2 ^ 20) (hg : ∀ k q i, (g k q i).length < 2 ^ 20) (hg' : ∀ k q i, (g' k q i).length < 2 ^ 20) (hw : Wf s) (hro : ro ≤ s.n) (hZ1 : s.at Z1 = some (.cells cs 39 false)) (hZ2 : s.at Z2 = some (.cells cs' 39 false))
    {τ : Tau} {ds : List Deferred} {Kx k2 : WK} {L : List (Nat × WK)} (t2 : τ 2 = ptr Z1) (t3 : τ 3 = ptr Z2) (t6 : τ 6 = .int .i64 0)
    (hk : ∀ τ', (List.range Q).all (sameO R g g') = true → k2 τ' ds s) (hret : ∀ τ', τ' 4 = .bool false → (List.range Q).all (sameO R g g') = false → Kx τ' ds s) :
    WLoop P ro 107 none c19_1110100 τ ds s Kx ((2, k2) :: L) := by
  refine wloop l19_1110100 m19_1110100 (fun (i : Nat) τ' ds' s' => i ≤ Q ∧ τ' 2 = ptr Z1 ∧ τ' 3 = ptr Z2 ∧ τ' 6 = .int .i64 i ∧ ds' = ds ∧ s' = s ∧ ∀ j, j < i → sameO R g g' j = true) (fun i => Q - i) ?_ 0 ⟨by omega, t2, t3, t6, rfl, rfl, fun j hj => by omega⟩
  rintro i τ' ds' s' ⟨hi, a2, a3, a6, rfl, rfl, hall⟩
  rw [n19_1110100]
  unfold v19_1110100
  have f1 : aload P s' 37 (.pointer (some ⟨Z1, 0 + 7, none⟩)) = some (.slice (some ⟨B.ob, 0, none⟩) Q Q) := by rw [load1 ap_37, acells_some hZ1]; exact hp.c7
  have f2 : aload P s' 37 (.pointer (some ⟨Z2, 0 + 7, none⟩)) = some (.slice (some ⟨B'.ob, 0, none⟩) Q Q) := by rw [load1 ap_37, acells_some hZ2]; exact hp'.c7
  rw [a2, a3, a6]
  simp (maxSteps := 10000000) only [pr_wop, pr_call]
  rw [wop_fieldAddr, fa_39_7, wopt_some, wop_load, f1, wopt_some, wop_len se_37, wop_int, int_lss keq_i64, wopt_some]
  by_cases hlt : i < Q
  · obtain ⟨oc, t, ho, hcut, h8, h9, ht⟩ := hp.opT hlt
    obtain ⟨oc', t', ho', hcut', h8', h9', ht'⟩ := hp'.opT hlt
    rw [decide_eq_true (by omega), wdec_true, wop_fieldAddr, fa_39_7, wopt_some, wop_load, f1, wopt_some]
    refine ⟨veqSl _ _ _ _ _, ?_⟩
    rw [wop_indexAddr, ixOp (by omega) (by omega), wopt_some, Int.toNat_natCast, wop_load, load_part ap_59 ho hcut, wopt_some]
    refine ⟨L13_veq t, ?_⟩
    rw [wop_fieldAddr, fa_39_7, wopt_some, wop_load, f2, wopt_some]
    refine ⟨veqSl _ _ _ _ _, ?_⟩
    rw [wop_indexAddr, ixOp (by omega) (by omega), wopt_some, Int.toNat_natCast, wop_load, load_part ap_59 ho' hcut', wopt_some]
    refine ⟨L13_veq t', ?_⟩
    show CallWP P ro 53 [.agg (.mk (L13 t)), .agg (.mk (L13 t'))] s' _
    rw [wSameOp hp hp' hlt hR ht ht' h8 h9 h8' h9' hg hg' hw hro]
    simp (maxSteps := 10000000) only [wW, reduceCtorEq, Nat.reduceEqDiff]
    by_cases h1 : sameO R g g' i = true
    · rw [h1, if_neg (by decide), wrap_i64 (by omega) (by omega)]
      refine ⟨i + 1, by omega, by omega, ?_, ?_, ?_, by first | trivial | rfl, by first | trivial | rfl, fun j hj => ?_⟩
      · simp only [U, tset_eq, wW, reduceCtorEq, Nat.reduceEqDiff, a2]
      · simp only [U, tset_eq, wW, reduceCtorEq, Nat.reduceEqDiff, a3]
      · simp only [U, tset_eq, wW, reduceCtorEq, Nat.reduceEqDiff]; rfl
      · by_cases hji : j = i
        · subst hji
          exact h1
        · exact hall j (by omega)
    · have h1' : sameO R g g' i = false := by simpa using h1
      rw [h1', if_pos rfl]
      refine hret _ ?_ (all_false hlt h1')
      simp only [U, tset_eq, wW, reduceCtorEq, Nat.reduceEqDiff]
  · obtain rfl : i = Q := by omega
    rw [decide_eq_false (by omega), wdec_false]
    exact hk _ (all_true hall)
end
end Go.VE
/- attestorref17.Same, its contracts. (printed by mkh74.py) -/
namespace Go.VE
open Go Go.Proofs
set_option maxRecDepth 20000
section
variable {ro : Nat} {s : St} {K : Value → St → Prop} {W W' : Nat → Prop} {cs cs' : List Value} {B B' : PfB} {R Q : Nat} {g g' : Nat → Nat → Nat → List Int}
theorem wSamePf (hp : PfAt s W cs B R Q g) (hp' : PfAt s W' cs' B' R Q g') (hR : R < 2 ^ 20) (hQ : Q < 2 ^ 20) (hg : ∀ k q i, (g k q i).length < 2 ^ 20) (hg' : ∀ k q i, (g' k q i).length < 2 ^ 20) (hw : Wf s) (hro : ro ≤ s.n) :
    CallWP P ro 19 [.agg (.mk cs), .agg (.mk cs')] s K = K (.bool (sameG R Q g g')) s := by
  refine callEq (call_wp b19 rfl ?_) K
  rw [n19]
  unfold v19
  simp (maxSteps := 10000000) only [wW, reduceCtorEq, Nat.reduceEqDiff]
  have hn0 : (ent s).n = s.n := rfl
  refine box_rule hw.ent fun Z1 s1 m1 => ?_
  refine box_rule m1.wf fun Z2 s2 m2 => ?_
  have e1 := m1.eq
  have n1 := m1.n
  have e2 := m2.eq
  have n2 := m2.n
  have g02 : Grew (ent s) s2 := m1.grew.trans m2.grew
  simp (maxSteps := 10000000) only [fa_39_0, fa_39_1, fa_39_2, fa_39_3, fa_39_4, fa_39_5, fa_39_6, fa_39_7, wopt_some, Nat.zero_add]
  have hA2 : s2.at Z1 = some (.cells cs 39 false) := (m2.grew.same Z1 (by omega)).trans m1.here
  have hB2 : s2.at Z2 = some (.cells cs' 39 false) := m2.here
  have hp2 : PfAt s2 W cs B R Q g := (hp.keep (s' := ent s) (Nat.le_refl _) fun _ _ => rfl).grew g02
  have hp2' : PfAt s2 W' cs' B' R Q g' := (hp'.keep (s' := ent s) (Nat.le_refl _) fun _ _ => rfl).grew g02
  obtain ⟨v0, v1, v2, v5, x3, x6, hcs, hV0, hV1, hV2, hX3, hV5, hX6⟩ := hp2.list
  obtain ⟨v0', v1', v2', v5', x3', x6', hcs', hV0', hV1', hV2', hX3', hV5', hX6'⟩ := hp2'.list
  have l3 : aload P s2 34 (.pointer (some ⟨Z1, 3, none⟩)) = some (.int .u64 x3) := by rw [load1 ap_34, acells_some hA2, hcs]; rfl
  have l3' : aload P s2 34 (.pointer (some ⟨Z2, 3, none⟩)) = some (.int .u64 x3') := by rw [load1 ap_34, acells_some hB2, hcs']; rfl
  have l6 : aload P s2 34 (.pointer (some ⟨Z1, 6, none⟩)) = some (.int .u64 x6) := by rw [load1 ap_34, acells_some hA2, hcs]; rfl
  have l6' : aload P s2 34 (.pointer (some ⟨Z2, 6, none⟩)) = some (.int .u64 x6') := by rw [load1 ap_34, acells_some hB2, hcs']; rfl
  have l4 : aload P s2 35 (.pointer (some ⟨Z1, 4, none⟩)) = some (.slice (some ⟨B.rb, 0, none⟩) R R) := by rw [load1 ap_35, acells_some hA2, hcs]; rfl
  have l4' : aload P s2 35 (.pointer (some ⟨Z2, 4, none⟩)) = some (.slice (some ⟨B'.rb, 0, none⟩) R R) := by rw [load1 ap_35, acells_some hB2, hcs']; rfl
  have l7 : aload P s2 37 (.pointer (some ⟨Z1, 7, none⟩)) = some (.slice (some ⟨B.ob, 0, none⟩) Q Q) := by rw [load1 ap_37, acells_some hA2, hcs]; rfl
  have l7' : aload P s2 37 (.pointer (some ⟨Z2, 7, none⟩)) = some (.slice (some ⟨B'.ob, 0, none⟩) Q Q) := by rw [load1 ap_37, acells_some hB2, hcs']; rfl
  have l0 : aload P s2 33 (.pointer (some ⟨Z1, 0, none⟩)) = some v0 := by rw [load1 ap_33, acells_some hA2, hcs]; rfl
  have l0' : aload P s2 33 (.pointer (some ⟨Z2, 0, none⟩)) = some v0' := by rw [load1 ap_33, acells_some hB2, hcs']; rfl
  have l1 : aload P s2 33 (.pointer (some ⟨Z1, 1, none⟩)) = some v1 := by rw [load1 ap_33, acells_some hA2, hcs]; rfl
  have l1' : aload P s2 33 (.pointer (some ⟨Z2, 1, none⟩)) = some v1' := by rw [load1 ap_33, acells_some hB2, hcs']; rfl
  have l2 : aload P s2 33 (.pointer (some ⟨Z1, 2, none⟩)) = some v2 := by rw [load1 ap_33, acells_some hA2, hcs]; rfl
  have l2' : aload P s2 33 (.pointer (some ⟨Z2, 2, none⟩)) = some v2' := by rw [load1 ap_33, acells_some hB2, hcs']; rfl
  have l5 : aload P s2 36 (.pointer (some ⟨Z1, 5, none⟩)) = some v5 := by rw [load1 ap_36, acells_some hA2, hcs]; rfl
  have l5' : aload P s2 36 (.pointer (some ⟨Z2, 5, none⟩)) = some v5' := by rw [load1 ap_36, acells_some hB2, hcs']; rfl
  have hT2 : sameT g g' 2 = decide (x3 = x3') := by unfold sameT; rw [hX3, hX3']; simp
  have hT7 : sameT g g' 7 = decide (x6 = x6') := by unfold sameT; rw [hX6, hX6']; simp
  rw [wop_load, l3, wopt_some, wop_load, l3', wopt_some]
  simp (maxSteps := 10000000) only [wW, reduceCtorEq, Nat.reduceEqDiff]
  by_cases h2 : x3 = x3'
  case neg =>
    rw [if_pos h2]
    have hno : sameT g g' 2 = false := by rw [hT2]; exact decide_eq_false h2
    exact fin_flat rfl g02 ⟨by unfold sameG; rw [hno]; simp, rfl⟩
  rw [if_neg (fun h => h h2)]
  rw [wop_load, l6, wopt_some, wop_load, l6', wopt_some]
  simp (maxSteps := 10000000) only [wW, reduceCtorEq, Nat.reduceEqDiff]
  by_cases h7 : x6 = x6'
  case neg =>
    rw [if_pos h7]
    have hno : sameT g g' 7 = false := by rw [hT7]; exact decide_eq_false h7
    exact fin_flat rfl g02 ⟨by unfold sameG; rw [hno]; simp, rfl⟩
  rw [if_neg (fun h => h h7), wop_load, l4, wopt_some, wop_len se_35, wop_load, l4', wopt_some, wop_len se_35]
  simp (maxSteps := 10000000) only [wW, reduceCtorEq, Nat.reduceEqDiff]
  rw [if_neg (fun h => h trivial), wop_load, l7, wopt_some, wop_len se_37, wop_load, l7', wopt_some, wop_len se_37]
  simp (maxSteps := 10000000) only [wW, reduceCtorEq, Nat.reduceEqDiff]
  rw [if_neg (fun h => h trivial)]
  obtain ⟨mm0, x0l, d0, _⟩ := hV0
  obtain ⟨mm0', x0l', d0', _⟩ := hV0'
  have b0 := hg 1 0 0
  have b0' := hg' 1 0 0
  rw [wop_load, l0, wopt_some, wop_load, l0', wopt_some, wSameD d0 d0' x0l x0l' (by omega) (by omega)]
  simp (maxSteps := 10000000) only [wW, reduceCtorEq, Nat.reduceEqDiff]
  by_cases k1 : g 1 0 0 = g' 1 0 0
  case neg =>
    rw [if_pos k1]
    have hno : sameT g g' 1 = false := decide_eq_false k1
    exact fin_flat rfl g02 ⟨by unfold sameG; rw [hno]; simp, rfl⟩
  rw [if_neg (fun h => h k1)]
  obtain ⟨mm1, x1l, d1, _⟩ := hV1
  obtain ⟨mm1', x1l', d1', _⟩ := hV1'
  have b1 := hg 3 0 0
  have b1' := hg' 3 0 0
  rw [wop_load, l1, wopt_some, wop_load, l1', wopt_some, wSameD d1 d1' x1l x1l' (by omega) (by omega)]
  simp (maxSteps := 10000000) only [wW, reduceCtorEq, Nat.reduceEqDiff]
  by_cases k3 : g 3 0 0 = g' 3 0 0
  case neg =>
    rw [if_pos k3]
    have hno : sameT g g' 3 = false := decide_eq_false k3
    exact fin_flat rfl g02 ⟨by unfold sameG; rw [hno]; simp, rfl⟩
  rw [if_neg (fun h => h k3)]
  obtain ⟨mm2, x2l, d2, _⟩ := hV2
  obtain ⟨mm2', x2l', d2', _⟩ := hV2'
  have b2 := hg 4 0 0
  have b2' := hg' 4 0 0
  rw [wop_load, l2, wopt_some, wop_load, l2', wopt_some, wSameD d2 d2' x2l x2l' (by omega) (by omega)]
  simp (maxSteps := 10000000) only [wW, reduceCtorEq, Nat.reduceEqDiff]
  by_cases k4 : g 4 0 0 = g' 4 0 0
  case neg =>
    rw [if_pos k4]
    have hno : sameT g g' 4 = false := decide_eq_false k4
    exact fin_flat rfl g02 ⟨by unfold sameG; rw [hno]; simp, rfl⟩
  rw [if_neg (fun h => h k4)]
  rw [wop_load, l5, wopt_some, wop_load, l5', wopt_some, wSame1 hV5.u64s hV5'.u64s (by have := hg 6 0 0; omega) (by have := hg' 6 0 0; omega)]
  simp (maxSteps := 10000000) only [wW, reduceCtorEq, Nat.reduceEqDiff]
  by_cases k6 : g 6 0 0 = g' 6 0 0
  case neg =>
    rw [if_pos k6]
    have hno : sameT g g' 6 = false := decide_eq_false k6
    exact fin_flat rfl g02 ⟨by unfold sameG; rw [hno]; simp, rfl⟩
  rw [if_neg (fun h => h k6)]
  have t2 : sameT g g' 2 = true := by rw [hT2]; exact decide_eq_true h2
  have t7 : sameT g g' 7 = true := by rw [hT7]; exact decide_eq_true h7
  have t1 : sameT g g' 1 = true := decide_eq_true k1
  have t3 : sameT g g' 3 = true := decide_eq_true k3
  have t4 : sameT g g' 4 = true := decide_eq_true k4
  have t6 : sameT g g' 6 = true := decide_eq_true k6
  have hall : sameG R Q g g' = ((List.range R).all (sameRd g g') && (List.range Q).all (sameO R g g')) := by
    unfold sameG
    rw [t2, t7, t1, t3, t4, t6]
    simp
  refine saLoop1 hp2 hp2' hR hg hg' hA2 hB2 ?_ ?_ ?_ (fun τ1 c2 c3 hr => ?_) (fun τ1 c4 hno => ?_)
  · simp only [U, tset_eq, wW, reduceCtorEq, Nat.reduceEqDiff]
  · simp only [U, tset_eq, wW, reduceCtorEq, Nat.reduceEqDiff]
  · simp only [U, tset_eq, wW, reduceCtorEq, Nat.reduceEqDiff]
  · refine saLoop2 hp2 hp2' hR hQ hg hg' m2.wf (by omega) hA2 hB2 ?_ ?_ ?_ (fun τ2 ho => ?_) (fun τ2 c4 hno => ?_)
    · simp only [U, tset_eq, wW, reduceCtorEq, Nat.reduceEqDiff, c2]
    · simp only [U, tset_eq, wW, reduceCtorEq, Nat.reduceEqDiff, c3]
    · simp only [U, tset_eq, wW, reduceCtorEq, Nat.reduceEqDiff]
    · simp (maxSteps := 10000000) only [wW, reduceCtorEq, Nat.reduceEqDiff]
      exact fin_flat rfl g02 ⟨by rw [hall, hr, ho]; rfl, rfl⟩
    · show xleave (prims P ro) s Tryd.f19.results.toList _ .ret _ [] [] s2
      rw [r19]
      simp (maxSteps := 10000000) only [U, tset_eq, wW, reduceCtorEq, Nat.reduceEqDiff, c4]
      exact fin_flat rfl g02 ⟨by rw [hall, hno, Bool.and_false], rfl⟩
  · show xleave (prims P ro) s Tryd.f19.results.toList _ .ret _ [] [] s2
    rw [r19]
    simp (maxSteps := 10000000) only [U, tset_eq, wW, reduceCtorEq, Nat.reduceEqDiff, c4]
    exact fin_flat rfl g02 ⟨by rw [hall, hno, Bool.false_and], rfl⟩
end
end Go.VE
/- ProofDecodes. -/
namespace Go.VE
open Go Go.Proofs
set_option maxRecDepth 20000
theorem sameG_self (R Q : Nat) (g : Nat → Nat → Nat → List Int) : sameG R Q g g = true := by
  unfold sameG sameT
  have h1 : (List.range R).all (sameRd g g) = true := all_true fun j _ => decide_eq_true rfl
  have h2 : (List.range Q).all (sameO R g g) = true := all_true fun j _ => by
    unfold sameO
    have a : (List.range 6).all (same89 g g j) = true := all_true fun i _ => by unfold same89; simp
    have b : (List.range R).all (sameFo g g j) = true := all_true fun i _ => by unfold sameFo; simp
    rw [a, b]; rfl
  rw [h1, h2]
  simp
section
variable {ro : Nat} {s : St} {h : Shp}
end
end Go.VE
/- ProofDecodes at every start. -/
namespace Go.VE
open Go Go.Proofs
set_option maxRecDepth 20000
end Go.VE
/- ProofBytes: one byte is changed (plain law). -/
namespace Go.VE
open Go Go.Proofs
set_option maxRecDepth 20000
theorem sameG_at {R Q : Nat} {g g' : Nat → Nat → Nat → List Int} (h : sameG R Q g g' = true) {k q i : Nat} (ok : OkS R Q k q i) : g k q i = g' k q i := by
  unfold sameG at h
  simp only [Bool.and_eq_true] at h
  obtain ⟨⟨⟨⟨⟨⟨⟨h2, h7⟩, h1⟩, h3⟩, h4⟩, h6⟩, hr⟩, ho⟩ := h
  have hO : ∀ q, q < Q → sameO R g g' q = true := fun q hq => List.all_eq_true.1 ho q (List.mem_range.2 hq)
  have h89 : ∀ q i, q < Q → i < 6 → g 8 q i = g' 8 q i ∧ g 9 q i = g' 9 q i := fun q i hq hi => by
    have h := hO q hq
    unfold sameO at h
    simp only [Bool.and_eq_true] at h
    have := List.all_eq_true.1 h.1 i (List.mem_range.2 hi)
    unfold same89 at this
    simpa using this
  have hF : ∀ q i, q < Q → i < R → g 10 q i = g' 10 q i ∧ g 11 q i = g' 11 q i := fun q i hq hi => by
    have h := hO q hq
    unfold sameO at h
    simp only [Bool.and_eq_true] at h
    have := List.all_eq_true.1 h.2 i (List.mem_range.2 hi)
    unfold sameFo at this
    simpa using this
  unfold sameT at h1 h2 h3 h4 h6 h7
  cases ok with
  | top k hk =>
    rcases hk with rfl | rfl | rfl | rfl | rfl | rfl
    · exact of_decide_eq_true h1
    · exact of_decide_eq_true h2
    · exact of_decide_eq_true h3
    · exact of_decide_eq_true h4
    · exact of_decide_eq_true h6
    · exact of_decide_eq_true h7
  | round i hi =>
    have := List.all_eq_true.1 hr i (List.mem_range.2 hi)
    unfold sameRd at this
    exact of_decide_eq_true this
  | row q i hq hi => exact (h89 q i hq hi).1
  | path q i hq hi => exact (h89 q i hq hi).2
  | leaf q i hq hi => exact (hF q i hq hi).1
  | fold q i hq hi => exact (hF q i hq hi).2
section
variable {h : Shp}
theorem same_nums (hv : shV h = true) {ys zs : List Int} (hy : ys.length = sumN (partsR h)) (hz : zs.length = sumN (partsR h)) (hy2 : ∀ y ∈ ys, 0 ≤ y ∧ y < 2 ^ 32) (hz2 : ∀ y ∈ zs, 0 ≤ y ∧ y < 2 ^ 32)
    (hs : sameG (shR h).toNat h.q.toNat (goneG (encL ys) (partsR h)).2 (goneG (encL zs) (partsR h)).2 = true) : ys = zs := by
  have main : ∀ n, n ≤ (partsR h).length → ys.take (sumN ((partsR h).take n)) = zs.take (sumN ((partsR h).take n)) := by
    intro n
    induction n with
    | zero => intro _; rfl
    | succ n ih =>
      intro hn
      have hlt : n < (partsR h).length := by omega
      have ht := take_succ_eq (List.getElem?_eq_getElem hlt)
      have hle := sumN_take (partsR h) (n + 1)
      have hsn : sumN ((partsR h).take (n + 1)) = sumN ((partsR h).take n) + (partsR h)[n].n.toNat := by rw [ht, sumN_app]; rfl
      rw [hsn] at hle ⊢
      have h1 := (gone_part hv (encL ys)).1 n hlt
      have h2 := (gone_part hv (encL zs)).1 n hlt
      obtain ⟨k, q, i, m, hx, ok, _, _⟩ := partsR_ok hv (partsR h)[n] (List.getElem_mem hlt)
      have he := sameG_at hs ok
      have hk : gOf (goneG (encL ys) (partsR h)).2 (partsR h)[n] = gOf (goneG (encL zs) (partsR h)).2 (partsR h)[n] := by
        unfold gOf
        rw [hx]
        exact he
      rw [h1, h2, numsB_enc hy2 (by omega), numsB_enc hz2 (by omega)] at hk
      rw [List.take_add, List.take_add, ih (by omega), hk]
  have := main _ (Nat.le_refl _)
  rw [List.take_length, ← hy, List.take_length, hy, ← hz, List.take_length] at this
  exact this
end
end Go.VE
/- ProofBytes: one byte is changed, so one number (plain law). -/
namespace Go.VE
open Go Go.Proofs
set_option maxRecDepth 20000
theorem leB_of {d0 d1 d2 d3 : Int} (h0 : 0 ≤ d0 ∧ d0 < 256) (h1 : 0 ≤ d1 ∧ d1 < 256) (h2 : 0 ≤ d2 ∧ d2 < 256) (h3 : 0 ≤ d3 ∧ d3 < 256) {z : Int} (hz : z = d0 + d1 * 2 ^ 8 + d2 * 2 ^ 16 + d3 * 2 ^ 24) : leB z 0 = d0 ∧ leB z 1 = d1 ∧ leB z 2 = d2 ∧ leB z 3 = d3 := by
  rw [leB_eq _ _ (by decide), leB_eq _ _ (by decide), leB_eq _ _ (by decide), leB_eq _ _ (by decide)]
  subst hz
  simp only [Nat.mul_zero, Nat.reduceMul, Int.reducePow]
  omega
theorem set_byte {ys : List Int} {k i : Nat} (hk : k < ys.length) (hi : i < 4) {c : Int} (hc : 0 ≤ c ∧ c < 256) : (encL ys).set (4 * k + i) c = encL (ys.set k (numAt ((encL ys).set (4 * k + i) c) k)) ∧ 0 ≤ numAt ((encL ys).set (4 * k + i) c) k ∧ numAt ((encL ys).set (4 * k + i) c) k < 2 ^ 32 := by
  have hb : ∀ x ∈ (encL ys).set (4 * k + i) c, 0 ≤ x ∧ x < 256 := fun x hx => by
    rcases List.mem_or_eq_of_mem_set hx with h | rfl
    · exact encL_ok ys x h
    · exact hc
  have hbd := accB_bounds hb (4 * k) 4
  generalize hB : (encL ys).set (4 * k + i) c = b at *
  have hz : numAt b k = byt b (4 * k + 0) + byt b (4 * k + 1) * 2 ^ 8 + byt b (4 * k + 2) * 2 ^ 16 + byt b (4 * k + 3) * 2 ^ 24 := by
    unfold numAt
    simp only [accB]
    omega
  obtain ⟨q0, q1, q2, q3⟩ := leB_of (byt_bounds hb _) (byt_bounds hb _) (byt_bounds hb _) (byt_bounds hb _) hz
  have hq : ∀ t, t < 4 → leB (numAt b k) t = byt b (4 * k + t) := fun t ht => by
    match t, ht with
    | 0, _ => exact q0
    | 1, _ => exact q1
    | 2, _ => exact q2
    | 3, _ => exact q3
  have hlen : b.length = 4 * ys.length := by rw [← hB, List.length_set, encL_len]
  refine ⟨List.ext_getElem? fun p => ?_, hbd.1, hbd.2⟩
  by_cases hp : p < 4 * ys.length
  · obtain ⟨j, t, rfl, ht, hj⟩ : ∃ j t, p = 4 * j + t ∧ t < 4 ∧ j < ys.length := ⟨p / 4, p % 4, by omega, by omega, by omega⟩
    rw [encL_get (ys.set k (numAt b k)) (by rw [List.length_set]; exact hj) ht]
    by_cases hjk : j = k
    · subst hjk
      rw [List.getElem_set_self, hq t ht, List.getElem?_eq_getElem (by omega)]
      unfold byt
      rw [List.getElem?_eq_getElem (by omega)]
      rfl
    · rw [List.getElem_set_ne (fun e => hjk e.symm), ← hB, List.getElem?_set_ne (by omega), encL_get ys hj ht]
  · rw [List.getElem?_eq_none (by omega), List.getElem?_eq_none (by rw [encL_len, List.length_set]; omega)]
theorem dec_bad {zs : List Int} {p : Int} {k : Nat} (hk : k < zs.length) (h2 : ∀ z ∈ zs, 0 ≤ z ∧ z < 2 ^ 32) (hlt : ∀ j (_ : j < k) (hj : j < zs.length), zs[j] < p) (hge : p ≤ zs[k]) : decE (encL zs) p zs.length = (4 * (k : Int), 2) := by
  have hr : ∀ j (hj : j < zs.length), rdE (encL zs) p j = if p ≤ zs[j] then some (4 * (j : Int), 2) else none := fun j hj => by
    have := h2 zs[j] (List.getElem_mem hj)
    unfold rdE
    rw [encL_len, if_neg (by omega), numAt_enc hj this.1 this.2]
  have he : errF (encL zs) p zs.length 0 = some (4 * (k : Int), 2) := errF_some (j := k) (fun j' _ h => by
    rw [hr j' (by omega), if_neg (by have := hlt j' h (by omega); omega)]) (by rw [hr k hk, if_pos hge]) (by omega) (by omega)
  unfold decE
  rw [he]
end Go.VE
/- ProofBytes: a byte's bits are turned. -/
namespace Go.VE
open Go Go.Proofs
set_option maxRecDepth 20000
theorem xor_u8 {a f : Int} (ha : 0 ≤ a ∧ a < 256) (hf : 0 ≤ f ∧ f < 256) : ∃ c, abinInt P .xor .u8 a .u8 f = some (.int .u8 c) ∧ 0 ≤ c ∧ c < 256 ∧ (c = a ↔ f = 0) := by
  obtain ⟨a', rfl⟩ : ∃ m : Nat, a = m := ⟨a.toNat, by omega⟩
  obtain ⟨f', rfl⟩ : ∃ m : Nat, f = m := ⟨f.toNat, by omega⟩
  have ha' : a' < 256 := by omega
  have hf' : f' < 256 := by omega
  have e : abinInt P .xor .u8 (a' : Int) .u8 (f' : Int) = some (.int .u8 (IntKind.u8.wrap (BitVec.ofInt IntKind.u8.bits (a' : Int) ^^^ BitVec.ofInt IntKind.u8.bits (f' : Int)).toNat)) := by
    have h : keq .u8 .u8 = true := keq_u8
    simp only [abinInt, h, cond_true]; rfl
  have hb : (BitVec.ofInt 8 (a' : Int) ^^^ BitVec.ofInt 8 (f' : Int)).toNat = a' ^^^ f' := by
    rw [BitVec.toNat_xor, BitVec.ofInt_natCast, BitVec.ofInt_natCast, BitVec.toNat_ofNat, BitVec.toNat_ofNat, Nat.mod_eq_of_lt (by omega), Nat.mod_eq_of_lt (by omega)]
  have hlt : a' ^^^ f' < 256 := Nat.xor_lt_two_pow (n := 8) ha' hf'
  have e8 : IntKind.u8.bits = 8 := rfl
  rw [e8, hb, wrap_u8 (by omega) (by omega)] at e
  refine ⟨_, e, by omega, by omega, ?_⟩
  have hx : a' ^^^ (a' ^^^ f') = f' := by rw [← Nat.xor_assoc, Nat.xor_self, Nat.zero_xor]
  constructor
  · intro h
    have h' : a' ^^^ f' = a' := by omega
    rw [h', Nat.xor_self] at hx
    omega
  · intro h
    have h' : f' = 0 := by omega
    rw [h', Nat.xor_zero]
end Go.VE
/- ProofBytes: too few bytes, too many (plain law). -/
namespace Go.VE
open Go Go.Proofs
set_option maxRecDepth 20000
theorem accB_congr {b b' : List Int} {o : Nat} : ∀ {n : Nat}, (∀ t, t < n → byt b (o + t) = byt b' (o + t)) → accB b o n = accB b' o n
  | 0, _ => rfl
  | n + 1, h => by
    unfold accB
    rw [accB_congr fun t ht => h t (by omega), h n (by omega)]
theorem numAt_congr {b b' : List Int} {k : Nat} (h : ∀ t, t < 4 → byt b (4 * k + t) = byt b' (4 * k + t)) : numAt b k = numAt b' k := accB_congr h
theorem byt_take {b : List Int} {n i : Nat} (h : i < n) : byt (b.take n) i = byt b i := by
  unfold byt
  rw [List.getElem?_take, if_pos h]
theorem byt_app {b c : List Int} {i : Nat} (h : i < b.length) : byt (b ++ c) i = byt b i := by
  unfold byt
  rw [List.getElem?_append_left h]
theorem dec_short {ys : List Int} {p : Int} (hp : p ≤ 2 ^ 32) (h : ∀ y ∈ ys, 0 ≤ y ∧ y < p) {pos : Nat} (hpos : pos < 4 * ys.length) : decE ((encL ys).take pos) p ys.length = ((pos : Int), 5) := by
  have hl : ((encL ys).take pos).length = pos := by rw [List.length_take, encL_len]; omega
  have hr : ∀ j, j < pos / 4 → rdE ((encL ys).take pos) p j = none := fun j hj => by
    have hjl : j < ys.length := by omega
    have hy := h ys[j] (List.getElem_mem hjl)
    have hn : numAt ((encL ys).take pos) j = ys[j] := by rw [numAt_congr (b' := encL ys) fun t ht => byt_take (by omega), numAt_enc hjl hy.1 (by omega)]
    unfold rdE
    rw [hl, if_neg (by omega), hn, if_neg (by omega)]
  have he : errF ((encL ys).take pos) p ys.length 0 = some ((pos : Int), 5) := errF_some (j := pos / 4) (fun j' _ hj => hr j' hj) (by unfold rdE; rw [hl, if_pos (by omega)]) (by omega) (by omega)
  unfold decE
  rw [he]
theorem dec_long {ys : List Int} {p : Int} (hp : p ≤ 2 ^ 32) (h : ∀ y ∈ ys, 0 ≤ y ∧ y < p) (x : Int) : decE (encL ys ++ [x]) p ys.length = (4 * (ys.length : Int), 3) := by
  have hn : errF (encL ys ++ [x]) p ys.length 0 = none := errF_none fun j _ hj => by
    have hjl : j < ys.length := by omega
    have hy := h ys[j] (List.getElem_mem hjl)
    have hn : numAt (encL ys ++ [x]) j = ys[j] := by rw [numAt_congr (b' := encL ys) fun t ht => byt_app (by rw [encL_len]; omega), numAt_enc hjl hy.1 (by omega)]
    unfold rdE
    rw [List.length_append, encL_len, List.length_singleton, if_neg (by omega), hn, if_neg (by omega)]
  unfold decE
  rw [hn]
  simp only
  rw [List.length_append, encL_len, List.length_singleton, if_pos (by omega)]
end Go.VE
/- ProofBytes: what its walk uses. -/
namespace Go.VE
open Go Go.Proofs
set_option maxRecDepth 20000
theorem PfAt.putW {s s' : St} {W : Nat → Prop} {cs : List Value} {B : PfB} {R Q : Nat} {g : Nat → Nat → Nat → List Int} {A : Nat} {o : AO} (h : PfAt s W cs B R Q g) (p : Put s A o s') (hA : W A) (h1 : B.rb ≠ A) (h2 : B.ob ≠ A) (h3 : ∀ j, j < Q → B.fb j ≠ A) : PfAt s' W cs B R Q g := by
  obtain ⟨c1, q1, q2⟩ := h.rb
  obtain ⟨c2, q3, q4, q5⟩ := h.ob
  refine ⟨h.cl, h.c4, h.c7, ⟨c1, (p.rest _ h1).trans q1, q2⟩, ⟨c2, (p.rest _ h2).trans q3, q4, q5⟩, fun j hj => ?_, h.ne, h.nef, h.w, fun k q i ok => ?_⟩
  · obtain ⟨c3, h6, h7⟩ := h.fb j hj
    exact ⟨c3, (p.rest _ (h3 j hj)).trans h6, h7⟩
  · obtain ⟨c, hc, hS⟩ := h.sl k q i ok
    refine ⟨c, ?_, hS.mono (Nat.le_of_eq p.n.symm) (fun X _ hX => p.rest X fun e => hX (e ▸ hA)) fun _ _ => rfl⟩
    cases ok with
    | top k hk => rcases hk with rfl | rfl | rfl | rfl | rfl | rfl <;> exact hc
    | round i hi =>
      have hc : acells (s.at B.rb) = some c := hc
      show acells (s'.at B.rb) = some c
      rw [p.rest _ h1]; exact hc
    | row q i hq hi =>
      have hc : acells (s.at B.ob) = some c := hc
      show acells (s'.at B.ob) = some c
      rw [p.rest _ h2]; exact hc
    | path q i hq hi =>
      have hc : acells (s.at B.ob) = some c := hc
      show acells (s'.at B.ob) = some c
      rw [p.rest _ h2]; exact hc
    | leaf q i hq hi =>
      have hc : acells (s.at (B.fb q)) = some c := hc
      show acells (s'.at (B.fb q)) = some c
      rw [p.rest _ (h3 q hq)]; exact hc
    | fold q i hq hi =>
      have hc : acells (s.at (B.fb q)) = some c := hc
      show acells (s'.at (B.fb q)) = some c
      rw [p.rest _ (h3 q hq)]; exact hc
theorem splice_setB {cs : List Value} {i : Nat} {v : Value} (h : i < cs.length) : splice cs i [v] = cs.set i v := by
  unfold splice
  rw [List.set_eq_take_append_cons_drop, if_pos h]
  rfl
section
variable {ro : Nat} {s : St} {K : Value → St → Prop}
theorem ext0 (a b c : Value) (ty : TypeId) (s : St) (K : Value → St → Prop) : wop P ro (.extract (.const (.tuple (.mk [a, b, c]))) 0) ty s K = K a s := by rw [wop_extract, List.getElem?_cons_zero, wopt_some]
theorem ext1 (a b c : Value) (ty : TypeId) (s : St) (K : Value → St → Prop) : wop P ro (.extract (.const (.tuple (.mk [a, b, c]))) 1) ty s K = K b s := by rw [wop_extract, List.getElem?_cons_succ, List.getElem?_cons_zero, wopt_some]
theorem ext2 (a b c : Value) (ty : TypeId) (s : St) (K : Value → St → Prop) : wop P ro (.extract (.const (.tuple (.mk [a, b, c]))) 2) ty s K = K c s := by rw [wop_extract, List.getElem?_cons_succ, List.getElem?_cons_succ, List.getElem?_cons_zero, wopt_some]
theorem conv_u32_int (a : Int) (ty : TypeId) (s : St) (K : Value → St → Prop) : wop P ro (.convert 51 3 (.const (.int .u32 a))) ty s K = K (.int .i64 (IntKind.i64.wrap a)) s := by kernel_rfl
theorem frontB {A n k : Nat} (hk : k ≤ n) (ty : TypeId) : wop P ro (.slice 32 (.const (.slice (some ⟨A, 0, none⟩) n n)) none (some (.const (.int .i64 (k : Int)))) none) ty s K = K (.slice (some ⟨A, 0, none⟩) k n) s := by
  have hs : isz P 5 = some 1 := isz_5
  have hund : P.underlying 32 = some (.slice 5) := un_32
  have hab : abound (some (.int .i64 (k : Int))) n n = some k := by
    simp only [abound]
    rw [if_pos ⟨by omega, by omega⟩]
    rfl
  have hlo : abound none 0 k = some 0 := rfl
  rw [wop_slice]
  simp only [asliceOp, hund, hs, sliceTwo, Option.map_some, Option.map_none, aval, hab, hlo, Option.bind_some, Nat.zero_mul, Nat.add_zero, Nat.sub_zero, ite_self, wopt_some]
theorem bys_front {A n k : Nat} {b : List Int} (hA : s.at A = some (.cells (b.map (.int .u8)) 5 false)) (hn : b.length = n) (hk : k ≤ n) : Bys s (.slice (some ⟨A, 0, none⟩) k n) (b.take k) := by
  have hl : (b.take k).length = k := by rw [List.length_take]; omega
  unfold Bys
  rw [hl]
  refine ⟨_, _, rfl, by rw [List.length_map, hl, Nat.mul_one], ⟨hk, fun h => (by cases h), fun x hx => by cases hx; exact .inl rfl⟩, fun _ => ⟨A, 0, none, _, _, _, rfl, rfl, hA, ?_⟩⟩
  rw [List.drop_zero, List.map_take, Nat.mul_one]
theorem ixA {A n i : Nat} (hi : i < n) : aindexAddr P 32 (.slice (some ⟨A, 0, none⟩) n n) (.int .i64 (i : Int)) = some (.pointer (some ⟨A, i, none⟩)) := by
  have hs : isz P 5 = some 1 := isz_5
  have hund : P.underlying 32 = some (.slice 5) := un_32
  have h0 : (0 : Int) ≤ (i : Int) := by omega
  have h1 : (i : Int) < n := by omega
  simp only [aindexAddr, hund, hs, Option.bind_some, aplace, h0, h1, and_self, if_true, Nat.zero_add, Nat.mul_one, Int.toNat_natCast]
theorem ldA {A i : Nat} {b : List Int} (hA : s.at A = some (.cells (b.map (.int .u8)) 5 false)) (hi : i < b.length) : aload P s 5 (.pointer (some ⟨A, i, none⟩)) = some (.int .u8 (byt b i)) := by
  rw [load1 ap_5, acells_some hA, Option.bind_some, List.getElem?_map]
  unfold byt
  rw [List.getElem?_eq_getElem hi]
  rfl
theorem shl_u64 (y : Int) (n : Nat) (h0 : 0 ≤ y) (h1 : y < 256) (hn : n ≤ 24) : abinInt P .shl .u64 y .u64 (n : Int) = some (.int .u64 (y * 2 ^ n)) := by
  rw [int_shl _ _ _ _ (by omega), Int.toNat_natCast, show min n IntKind.u64.bits = n by show min n 64 = n; omega]
  have hp : (2 : Int) ^ n ≤ 2 ^ 24 := by have := Nat.pow_le_pow_right (n := 2) (by decide) hn; exact_mod_cast this
  have hp0 : (0 : Int) < 2 ^ n := Int.pow_pos (by decide)
  rw [wrap_u64 (Int.mul_nonneg h0 (Int.le_of_lt hp0))]
  have : y * 2 ^ n ≤ 255 * 2 ^ 24 := Int.mul_le_mul (by omega) hp (by omega) (by decide)
  omega
theorem numAt4 (b : List Int) (k : Nat) : numAt b k = byt b (4 * k) + byt b (4 * k + 1) * 2 ^ 8 + byt b (4 * k + 2) * 2 ^ 16 + byt b (4 * k + 3) * 2 ^ 24 := by
  unfold numAt
  simp only [accB, Nat.add_zero]
  omega
end
end Go.VE
/- ProofBytes: the walk. -/
namespace Go.VE
open Go Go.Proofs
set_option maxRecDepth 20000
section
variable {ro : Nat} {s : St} {h : Shp}
theorem byte_changed (hv : shV h = true) {ys zs : List Int} {k i : Nat} {c : Int} (hy : ys.length = sumN (partsR h)) (hk : k < ys.length) (hi : i < 4) (hy2 : ∀ y ∈ ys, 0 ≤ y ∧ y < 2 ^ 32) (hz2 : ∀ z ∈ zs, 0 ≤ z ∧ z < 2 ^ 32) (hz : zs.length = ys.length) (he : encL zs = (encL ys).set (4 * k + i) c) :
    sameG (shR h).toNat h.q.toNat (goneG (encL ys) (partsR h)).2 (goneG (encL zs) (partsR h)).2 = decide (c = byt (encL ys) (4 * k + i)) := by
  have hlt : 4 * k + i < (encL ys).length := by rw [encL_len]; omega
  have hg : (encL ys)[4 * k + i]? = some (byt (encL ys) (4 * k + i)) := by unfold byt; rw [List.getElem?_eq_getElem hlt]; rfl
  by_cases hc : c = byt (encL ys) (4 * k + i)
  · have e2 : (encL ys).set (4 * k + i) c = encL ys := by
      rw [hc]
      refine List.ext_getElem? fun p => ?_
      by_cases hp : p = 4 * k + i
      · subst hp; rw [List.getElem?_set_self hlt, hg]
      · rw [List.getElem?_set_ne (fun e => hp e.symm)]
    rw [he, e2, sameG_self, decide_eq_true hc]
  · rw [decide_eq_false hc]
    cases hs : sameG (shR h).toNat h.q.toNat (goneG (encL ys) (partsR h)).2 (goneG (encL zs) (partsR h)).2 with
    | false => rfl
    | true =>
      exfalso
      have e := same_nums hv hy (by omega) hy2 hz2 hs
      rw [← e] at he
      have h1 : ((encL ys).set (4 * k + i) c)[4 * k + i]? = some (byt (encL ys) (4 * k + i)) := by rw [← he]; exact hg
      rw [List.getElem?_set_self hlt] at h1
      exact hc (Option.some.inj h1)
theorem pbTail {Q : Ex → XK} (hret : ∀ τ l s', U τ l 8 = .bool true → Q .ret τ l [] s') (hv : shV h = true) (hsm : 4 * sumN (partsR h) ≤ 20000) {x pl f : Int} (hpl : 0 ≤ pl ∧ pl < 2 ^ 32) (hf : 0 ≤ f ∧ f < 256) {C : Nat} (hC1 : s.at C = some (.cells h.cells 23 false)) (hw : Wf s) (hro : ro ≤ s.n) (hF1 : FieldsAt s)
    {τ : Tau} (t1 : τ 1 = .int .u64 x) (t2 : τ 2 = .int .u32 pl) (t3 : τ 3 = .int .u8 f) (t4 : τ 4 = ptr C) (t9 : τ 9 = .int .i64 ((4 * sumN (partsR h) : Nat) : Int)) :
    xp (prims P ro) none 181 k6 c6_111 [1, 1, 1] τ [] [] s Q := by
  have hpos := size_pos hv
  have hfp := fP_pos (shV_f hv)
  have hfb := fP_bd h.f
  have hc0 : h.cells[0]? = some (.int .i64 h.f) := rfl
  have hCl := St.at_lt hC1
  have hbd := shV_bd hv
  rw [n6_111]
  unfold v6_111
  rw [t9, t1, t2, t3, t4, pr_wop, pr_call]
  rw [wop_fieldAddr, fa_23_0, wopt_some, wop_load, load1 ap_3, acells_some hC1, Option.bind_some, Nat.zero_add, hc0, wopt_some, wrP]
  refine wBytes (n := 4 * sumN (partsR h)) (N := sumN (partsR h)) rfl (by omega) hfp hw hro fun A s2 g2 hA2 hA => ?_
  have n2 := g2.n
  have w2 := hw.grew g2
  have hC2 := (g2.same C hCl).trans hC1
  have hF2 := hF1.grew g2
  have hAl := St.at_lt hA
  have hy := rnds_ok hfp x (sumN (partsR h))
  have hylen := rnds_len (fP h.f) x (sumN (partsR h))
  generalize rnds (fP h.f) x (sumN (partsR h)) = ys at hA hy hylen
  have hbl : (encL ys).length = 4 * sumN (partsR h) := by rw [encL_len, hylen]
  have hbok := encL_ok ys
  have hb2 : Bys s2 (.slice (some ⟨A, 0, none⟩) (4 * sumN (partsR h)) (4 * sumN (partsR h))) (encL ys) := bys_of hA hbl
  rw [wop_load, load_all ap_23 hC2 rfl, wopt_some]
  refine wDecodeY hv hylen hy hb2 (fun A' o sp n c e => by cases e; exact hAl) w2 (by omega) hF2 fun cs B s3 W g3 _ hW hWB hp => ?_
  have n3 := g3.n
  have w3 := w2.grew g3
  rw [ext0, ext1, ext2]
  refine alloc_rule ty_39 w3 fun Z s4 m4 => ?_
  have e4 := m4.eq
  have n4 := m4.n
  refine storeAll_rule isz_39 m4.here (l := cs) hp.cl (by decide) m4.wf (by omega) rfl hp.one fun s5 p5 => ?_
  have n5 := p5.n
  have w5 := p5.wf
  have g35 : Grew s3 s5 := p5.grew _ w3 m4.grew (by omega)
  have g25 := g3.trans g35
  have hp5 := hp.grew g35
  have hF5 := hF2.grew g25
  have hC5 := (g25.same C (by omega)).trans hC2
  have hA5 := (g25.same A hAl).trans hA
  have hZ5 := p5.here
  obtain ⟨pos, hpe, hpl2⟩ : ∃ pos : Nat, pl.tmod ((4 * sumN (partsR h) : Nat) : Int) = (pos : Int) ∧ pos < 4 * sumN (partsR h) := by
    have h1 := Int.tmod_nonneg ((4 * sumN (partsR h) : Nat) : Int) hpl.1
    have h2 := Int.tmod_lt_of_pos pl (show (0 : Int) < ((4 * sumN (partsR h) : Nat) : Int) by omega)
    exact ⟨(pl.tmod ((4 * sumN (partsR h) : Nat) : Int)).toNat, by omega, by omega⟩
  rw [conv_u32_int, wrap_i64 (by omega) (by omega), wop_int, int_rem keq_i64 _ _ (by omega), wopt_some, hpe, wop_int, int_neq keq_i64, wopt_some, decide_eq_true rfl, Bool.not_true, wdec_false, wop_len se_32, wop_int, int_neq keq_i64, wopt_some, decide_eq_true rfl, Bool.not_true, wdec_false]
  rw [wop_load, load_all ap_23 hC5 rfl, wopt_some]
  refine ⟨veqShp _, ?_⟩
  rw [frontB (by omega)]
  refine alloc_rule ty_39 w5 fun Z2 s6 m6 => ?_
  have e6 := m6.eq
  have n6 := m6.n
  refine ⟨m6.fresh (by rfl), ?_⟩
  have g56 := m6.grew
  have hA6 := (g56.same A (by omega)).trans hA5
  have hb6 := bys_front hA6 hbl (Nat.le_of_lt hpl2)
  have htb : ∀ y ∈ (encL ys).take pos, 0 ≤ y ∧ y < 256 := fun y hy => hbok y (List.mem_of_mem_take hy)
  have hd2 : decE ((encL ys).take pos) (fP h.f) (goneG ((encL ys).take pos) (partsR h)).1 = ((pos : Int), 5) := by
    rw [goneG_1, ← hylen]
    exact dec_short hfb.2 hy (by omega)
  refine wDecode h htb (by rw [List.length_take]; omega) hb6 (fun _ A' o sp n c e => by cases e; omega) m6.wf (by omega) (hF5.grew g56) (fun h0 => by rw [hv] at h0; cases h0) (fun _ _ => ?_) (fun _ h0 => by rw [hd2] at h0; cases h0)
  refine ⟨.refl _, ?_⟩
  rw [hd2, ext0, ext1, ext2]
  refine storeAll_rule isz_39 m6.here (l := zeroCs) rfl (by decide) m6.wf (by omega) rfl rfl fun s7 p7 => ?_
  have n7 := p7.n
  have w7 := p7.wf
  refine ⟨by omega, ?_⟩
  have g57 : Grew s5 s7 := p7.grew _ w5 g56 (by omega)
  have hC7 := (g57.same C (by omega)).trans hC5
  rw [wop_load, load_all ap_23 hC7 rfl, wopt_some]
  refine ⟨veqShp _, ?_⟩
  refine buildSlice_rule se_32 ty_5 w7 [] rfl rfl (by decide) (fun v hv => by cases hv) fun D s8 m8 => ?_
  have e8 := m8.eq
  have n8 := m8.n
  refine ⟨m8.fresh rfl, ?_⟩
  refine buildSlice_rule se_32 ty_5 m8.wf [.int .u8 f] rfl rfl (by decide) (fun v hv => by simp only [List.mem_cons, List.not_mem_nil, or_false] at hv; subst hv; rfl) fun E s9 m9 => ?_
  have e9 := m9.eq
  have n9 := m9.n
  refine ⟨m9.fresh (by simp [veqL, veq, Value.cells]), ?_⟩
  refine alloc_rule ty_39 m9.wf fun Z3 s10 m10 => ?_
  have e10 := m10.eq
  have n10 := m10.n
  refine ⟨m10.fresh (by rfl), ?_⟩
  have g810 := m9.grew.trans m10.grew
  have g710 := m8.grew.trans g810
  have g510 := g57.trans g710
  have hA10 := (g510.same A (by omega)).trans hA5
  have hb10 : Bys s10 (.slice (some ⟨A, 0, none⟩) (4 * sumN (partsR h)) (4 * sumN (partsR h))) (encL ys) := bys_of hA10 hbl
  have hD10 : Sl s10 (.slice (some ⟨D, 0, none⟩) 0 0) 1 0 [] := (m8.sl (n := 0) (sz := 1) rfl).grew g810.same
  have hE10 : Sl s10 (.slice (some ⟨E, 0, none⟩) 1 1) 1 1 [.int .u8 f] := (m9.sl (n := 1) (sz := 1) rfl).grew m10.grew.same
  refine append_full se_32 (by kernel_rfl) ty_5 (by decide) (by decide) hD10 (by have := hb10; unfold Bys at this; rw [hbl] at this; exact this) (by omega) m10.wf (by omega) fun v11 s11 o11 g11 n11 => ?_
  have w11 := m10.wf.grew g11
  refine ⟨g11.keeps, ?_⟩
  have hE11 := hE10.grew g11.same
  refine append_rule se_32 (by kernel_rfl) ty_5 (by decide) (by decide) o11 hE11 (by decide) w11 (fun A e => by cases e; omega) (by omega) rfl fun v12 s12 o12 a12 => ?_
  have n12 := a12.n
  have g1012 : Grew s10 s12 := a12.grew _ m10.wf g11 (fun A e => by cases e; omega)
  have g512 := g510.trans g1012
  have w12 := a12.wf
  refine ⟨⟨by omega, fun x hx => ?_⟩, ?_⟩
  · have hrest : ∀ X, X < s10.n → s12.at X = s11.at X := fun X hX => a12.rest X (by omega) (by simp; omega)
    simp only [List.mem_cons, List.not_mem_nil, or_false] at hx
    rcases hx with rfl | rfl
    · intro y hy
      have : Z3 = s9.n := e10
      rw [hrest _ (by omega)]; exact hy
    · intro z y e hy
      cases e
      rw [hrest _ (by show C < _; omega)]; exact hy
  have hb12 : Bys s12 v12 (encL ys ++ [f]) := by
    have := o12.sl
    unfold Bys
    rw [List.length_append, hbl, List.length_singleton, List.map_append]
    rw [Nat.zero_add] at this
    exact this
  have hbA12 : ∀ A' o sp n c, v12 = .slice (some ⟨A', o, sp⟩) n c → A' < s12.n := fun A' o sp n c e => by
    rw [o12.1] at e
    cases e; omega
  have hxb : ∀ y ∈ encL ys ++ [f], 0 ≤ y ∧ y < 256 := fun y hy => by
    rcases List.mem_append.1 hy with hy | hy
    · exact hbok y hy
    · simp only [List.mem_cons, List.not_mem_nil, or_false] at hy; subst hy; exact hf
  have hd3 : decE (encL ys ++ [f]) (fP h.f) (goneG (encL ys ++ [f]) (partsR h)).1 = (4 * (ys.length : Int), 3) := by
    rw [goneG_1, ← hylen]
    exact dec_long hfb.2 hy f
  refine wDecode h hxb (by rw [List.length_append, hbl, List.length_singleton]; omega) hb12 (fun _ => hbA12) w12 (by omega) (hF5.grew g512) (fun h0 => by rw [hv] at h0; cases h0) (fun _ _ => ?_) (fun _ h0 => absurd (show (3 : Int) = 0 from congrArg Prod.snd (hd3.symm.trans h0)) (by decide))
  refine ⟨.refl _, ?_⟩
  rw [hd3, ext0, ext1, ext2]
  have hZ12 := (g1012.same Z3 (by omega)).trans m10.here
  refine storeAll_rule isz_39 hZ12 (l := zeroCs) rfl (by decide) w12 (by omega) rfl rfl fun s13 p13 => ?_
  have n13 := p13.n
  have w13 := p13.wf
  refine ⟨by omega, ?_⟩
  have g513 : Grew s5 s13 := p13.grew _ w5 g512 (by omega)
  have hA13 := (g513.same A (by omega)).trans hA5
  have hC13 := (g513.same C (by omega)).trans hC5
  have h4n : 4 * (ys.length : Int) = ((4 * sumN (partsR h) : Nat) : Int) := by rw [hylen]; push_cast; rfl
  rw [h4n, wop_int, int_neq keq_i64, wopt_some, decide_eq_true rfl, Bool.not_true, wdec_false, wop_int, int_neq keq_i64, wopt_some, decide_eq_true rfl, Bool.not_true, wdec_false, wop_int, int_neq keq_i64, wopt_some, decide_eq_true rfl, Bool.not_true, wdec_false, wop_int, int_neq keq_i64, wopt_some, decide_eq_true rfl, Bool.not_true, wdec_false]
  rw [wop_indexAddr, ixA hpl2, wopt_some, wop_load, ldA hA13 (by omega), wopt_some]
  obtain ⟨c, hc, hc0', hc1, hcf⟩ := xor_u8 (byt_bounds hbok pos) hf
  rw [wop_int, hc, wopt_some, wop_indexAddr, ixA hpl2, wopt_some]
  refine store1_rule isz_5 hA13 w13 (by omega) (by rw [List.length_map]; omega) rfl fun s14 p14 => ?_
  have n14 := p14.n
  have w14 := p14.wf
  have hsp : splice ((encL ys).map (Value.int .u8)) pos [.int .u8 c] = ((encL ys).set pos c).map (.int .u8) := by
    rw [splice_setB (by rw [List.length_map]; omega), List.map_set]
  have hA14 : s14.at A = some (.cells (((encL ys).set pos c).map (.int .u8)) 5 false) := by rw [← hsp]; exact p14.here
  have g014 : Grew s s14 := p14.grew _ hw ((g2.trans g25).trans g513) hA2
  have hC14 := (g014.same C hCl).trans hC1
  have hF14 := hF1.grew g014
  have hWA : W A := hW A hAl
  have hp13 := hp5.grew g513
  have hp14 := hp13.putW p14 hWA (by omega) (by omega) (fun j hj => by have := hWB.2.2 j hj; omega)
  have hZ14 := (p14.rest Z (by omega)).trans ((g513.same Z (by omega)).trans hZ5)
  obtain ⟨k, i, hki, hi4⟩ : ∃ k i : Nat, pos = 4 * k + i ∧ i < 4 := ⟨pos / 4, pos % 4, by omega, by omega⟩
  have hkl : k < ys.length := by omega
  have hrem : (pos : Int).tmod 4 = (i : Int) := by
    rw [Int.tmod_eq_emod_of_nonneg (by omega)]
    omega
  have hsub : (pos : Int) - (i : Int) = ((4 * k : Nat) : Int) := by omega
  rw [wop_int, int_rem keq_i64 _ _ (by decide), wopt_some, hrem, wop_int, int_sub keq_i64, wopt_some, hsub, wrap_i64 (by omega) (by omega)]
  subst hki
  obtain ⟨he, hz0, hz1⟩ := set_byte hkl hi4 ⟨hc0', hc1⟩
  have hb'ok : ∀ y ∈ (encL ys).set (4 * k + i) c, 0 ≤ y ∧ y < 256 := fun y hy => by
    rcases List.mem_or_eq_of_mem_set hy with h | rfl
    · exact hbok y h
    · exact ⟨hc0', hc1⟩
  have hb'l : ((encL ys).set (4 * k + i) c).length = 4 * sumN (partsR h) := by rw [List.length_set, hbl]
  have hn4 := numAt4 ((encL ys).set (4 * k + i) c) k
  generalize hz : numAt ((encL ys).set (4 * k + i) c) k = z at he hz0 hz1 hn4
  have q0 := byt_bounds hb'ok (4 * k)
  have q1 := byt_bounds hb'ok (4 * k + 1)
  have q2 := byt_bounds hb'ok (4 * k + 2)
  have q3 := byt_bounds hb'ok (4 * k + 3)
  have ld : ∀ j, j < 4 → aload P s14 5 (.pointer (some ⟨A, 4 * k + j, none⟩)) = some (.int .u8 (byt ((encL ys).set (4 * k + i) c) (4 * k + j))) := fun j hj => ldA hA14 (by omega)
  have ix : ∀ j, j < 4 → aindexAddr P 32 (.slice (some ⟨A, 0, none⟩) (4 * sumN (partsR h)) (4 * sumN (partsR h))) (.int .i64 ((4 * k + j : Nat) : Int)) = some (.pointer (some ⟨A, 4 * k + j, none⟩)) := fun j hj => ixA (by omega)
  have ix0 : aindexAddr P 32 (.slice (some ⟨A, 0, none⟩) (4 * sumN (partsR h)) (4 * sumN (partsR h))) (.int .i64 ((4 * k : Nat) : Int)) = some (.pointer (some ⟨A, 4 * k, none⟩)) := ixA (by omega)
  have ld0 : aload P s14 5 (.pointer (some ⟨A, 4 * k, none⟩)) = some (.int .u8 (byt ((encL ys).set (4 * k + i) c) (4 * k))) := ldA hA14 (by omega)
  have sh8 : ∀ y : Int, 0 ≤ y ∧ y < 256 → abinInt P .shl .u64 y .u64 8 = some (.int .u64 (y * 2 ^ 8)) := fun y hy => shl_u64 y 8 hy.1 hy.2 (by decide)
  have sh16 : ∀ y : Int, 0 ≤ y ∧ y < 256 → abinInt P .shl .u64 y .u64 16 = some (.int .u64 (y * 2 ^ 16)) := fun y hy => shl_u64 y 16 hy.1 hy.2 (by decide)
  have sh24 : ∀ y : Int, 0 ≤ y ∧ y < 256 → abinInt P .shl .u64 y .u64 24 = some (.int .u64 (y * 2 ^ 24)) := fun y hy => shl_u64 y 24 hy.1 hy.2 (by decide)
  have a1 : ((4 * k : Nat) : Int) + 1 = ((4 * k + 1 : Nat) : Int) := by omega
  have a2 : ((4 * k : Nat) : Int) + 2 = ((4 * k + 2 : Nat) : Int) := by omega
  have a3 : ((4 * k : Nat) : Int) + 3 = ((4 * k + 3 : Nat) : Int) := by omega
  rw [wop_indexAddr, ix0, wopt_some, wop_load, ld0, wopt_some, conv_u8_u64, wrap_u64 (by omega) (by omega)]
  refine ⟨rfl, ?_⟩
  rw [wop_int, int_add keq_i64, wopt_some, a1, wrap_i64 (by omega) (by omega), wop_indexAddr, ix 1 (by decide), wopt_some, wop_load, ld 1 (by decide), wopt_some, conv_u8_u64, wrap_u64 (by omega) (by omega)]
  refine ⟨rfl, ?_⟩
  rw [wop_int, sh8 _ q1, wopt_some, wop_int, or_sum (n := 8) ⟨by omega, by omega⟩ q1.1 (by omega), wopt_some, wop_int, int_add keq_i64, wopt_some, a2, wrap_i64 (by omega) (by omega), wop_indexAddr, ix 2 (by decide), wopt_some, wop_load, ld 2 (by decide), wopt_some, conv_u8_u64, wrap_u64 (by omega) (by omega)]
  refine ⟨rfl, ?_⟩
  rw [wop_int, sh16 _ q2, wopt_some, wop_int, or_sum (n := 16) ⟨by omega, by omega⟩ q2.1 (by omega), wopt_some, wop_int, int_add keq_i64, wopt_some, a3, wrap_i64 (by omega) (by omega), wop_indexAddr, ix 3 (by decide), wopt_some, wop_load, ld 3 (by decide), wopt_some, conv_u8_u64, wrap_u64 (by omega) (by omega)]
  refine ⟨rfl, ?_⟩
  rw [wop_int, sh24 _ q3, wopt_some, wop_int, or_sum (n := 24) ⟨by omega, by omega⟩ q3.1 (by omega), wopt_some, ← hn4]
  rw [wop_load, load_all ap_23 hC14 rfl, wopt_some]
  have hbE : Bys s14 (.slice (some ⟨A, 0, none⟩) (4 * sumN (partsR h)) (4 * sumN (partsR h))) (encL (ys.set k z)) := by
    rw [← he]
    exact bys_of hA14 hb'l
  have hzl : (ys.set k z).length = ys.length := List.length_set
  have hzz : (ys.set k z)[k]? = some z := by rw [List.getElem?_set_self hkl]
  have hzy : ∀ y ∈ ys.set k z, 0 ≤ y ∧ y < 2 ^ 32 := fun y hy' => by
    rcases List.mem_or_eq_of_mem_set hy' with h | rfl
    · have := hy y h; omega
    · exact ⟨hz0, hz1⟩
  by_cases hge : fP h.f ≤ z
  · have hd4 : decE (encL (ys.set k z)) (fP h.f) (goneG (encL (ys.set k z)) (partsR h)).1 = (4 * (k : Int), 2) := by
      rw [goneG_1, ← hylen, ← hzl]
      refine dec_bad (by omega) hzy (fun j hj hjl => ?_) ?_
      · rw [List.getElem_set_ne (by omega)]
        exact (hy _ (List.getElem_mem _)).2
      · rw [List.getElem_set_self]; exact hge
    refine wDecode h (encL_ok _) (by rw [encL_len, hzl]; omega) hbE (fun _ A' o sp n c e => by cases e; exact St.at_lt hA14) w14 (by omega) hF14 (fun h0 => by rw [hv] at h0; cases h0) (fun _ _ => ?_) (fun _ h0 => absurd (show (2 : Int) = 0 from congrArg Prod.snd (hd4.symm.trans h0)) (by decide))
    rw [hd4, ext0, ext1, ext2]
    refine alloc_rule ty_39 w14 fun Z4 s15 m15 => ?_
    have e15 := m15.eq
    have n15 := m15.n
    refine storeAll_rule isz_39 m15.here (l := zeroCs) rfl (by decide) m15.wf (by omega) rfl rfl fun s16 p16 => ?_
    have n16 := p16.n
    have g16 : Grew s14 s16 := p16.grew _ w14 m15.grew (by omega)
    have h4k : 4 * (k : Int) = ((4 * k : Nat) : Int) := by push_cast; rfl
    rw [h4k, wop_int, int_geq keq_u64, wopt_some, decide_eq_true (show z ≥ fP h.f from hge), wdec_true, wop_int, int_eql keq_i64, wopt_some, decide_eq_true rfl, wdec_true, wop_int, int_eql keq_i64, wopt_some, decide_eq_true rfl, wdec_true, wAwake p16.wf (by omega) (hF14.grew g16)]
    refine hret _ _ _ ?_
    simp only [U, tset_eq, wW, reduceCtorEq, Nat.reduceEqDiff]
  · refine wDecodeY hv (by rw [hzl, hylen]) (fun y hy' => ?_) hbE (fun A' o sp n c e => by cases e; exact St.at_lt hA14) w14 (by omega) hF14 fun cs' B' s15 W' g15 _ hW' hWB' hp' => ?_
    · rcases List.mem_or_eq_of_mem_set hy' with h | rfl
      · exact hy y h
      · exact ⟨hz0, by omega⟩
    have n15 := g15.n
    have w15 := w14.grew g15
    rw [ext0, ext1, ext2]
    refine alloc_rule ty_39 w15 fun Z4 s16 m16 => ?_
    have e16 := m16.eq
    have n16 := m16.n
    refine storeAll_rule isz_39 m16.here (l := cs') hp'.cl (by decide) m16.wf (by omega) rfl hp'.one fun s17 p17 => ?_
    have n17 := p17.n
    have g1517 : Grew s15 s17 := p17.grew _ w15 m16.grew (by omega)
    have g17 := g15.trans g1517
    have hZ17 := (g17.same Z (by omega)).trans hZ14
    have hp17 := hp14.grew g17
    have hp17' := hp'.grew g1517
    rw [wop_int, int_geq keq_u64, wopt_some, decide_eq_false (show ¬ z ≥ fP h.f from hge), wdec_false, wop_int, int_eql keq_i64, wopt_some, decide_eq_true rfl, wdec_true]
    rw [wop_load, load_all ap_39 hZ17 hp.cl, wopt_some, wop_load, load_all ap_39 p17.here hp'.cl, wopt_some, wSamePf hp17 hp17' (by omega) (by omega) (gone_len hv _) (gone_len hv _) p17.wf (by omega)]
    have hch := byte_changed hv hylen hkl hi4 (fun y hy' => by have := hy y hy'; omega) hzy hzl he.symm
    have hfc : decide (c = byt (encL ys) (4 * k + i)) = decide (f = 0) := decide_eq_decide.2 hcf
    rw [hch, hfc, wop_int, int_eql keq_u8, wopt_some, bool_eql, beq_self_eq_true, wdec_true, wAwake p17.wf (by omega) (hF14.grew g17)]
    refine hret _ _ _ ?_
    simp only [U, tset_eq, wW, reduceCtorEq, Nat.reduceEqDiff]
theorem wProofBytes (h : Shp) {x pl f : Int} (hpl : 0 ≤ pl ∧ pl < 2 ^ 32) (hf : 0 ≤ f ∧ f < 256) (hw : Wf s) (hro : ro ≤ s.n) (hF : FieldsAt s) : CallWP P ro 6 [.agg (.mk h.cells), .int .u64 x, .int .u32 pl, .int .u8 f] s fun v _ => v = .bool true := by
  refine call_wp b6 rfl ?_
  rw [n6]
  unfold v6
  simp (maxSteps := 10000000) only [wW, reduceCtorEq, Nat.reduceEqDiff]
  refine box_rule hw.ent fun C s1 m1 => ?_
  have e1 := m1.eq
  have n1 := m1.n
  have hn0 : (ent s).n = s.n := rfl
  have hC1 : s1.at C = some (.cells h.cells 23 false) := m1.here
  have hF1 : FieldsAt s1 := FieldsAt.grew (s := ent s) hF m1.grew
  have hret : ∀ τ l s', U τ l 8 = .bool true → xleave (prims P ro) s Tryd.f6.results.toList (fun v _ => v = .bool true) .ret τ l [] s' := fun τ l s' h8 => by
    rw [xleave_U, r6, h8]
    simp (maxSteps := 10000000) only [wW, reduceCtorEq, Nat.reduceEqDiff]
    exact fin_K fun _ => rfl
  rw [wop_load, load_all ap_23 hC1 rfl, wopt_some, wGSize h m1.wf (by omega) hF1]
  simp (maxSteps := 10000000) only [wW, reduceCtorEq, Nat.reduceEqDiff]
  have hbad : ∀ (τ : Tau) (b : Bool), τ 34 = .bool true → τ 4 = ptr C → τ 9 = .int .i64 (sizeM h) → decide (sizeM h > 0) = shV h → xp (prims P ro) none 181 k6 c6_1101 [1, 0, 1, 1] τ [] [] s1 (sX (prims P ro) none 181 k6 c6_111 [1, 1, 1] (xleave (prims P ro) s Tryd.f6.results.toList (fun v _ => v = .bool true))) := fun τ _ t34 t4 t9 hs => by
    rw [n6_1101]
    unfold v6_1101
    rw [t34, t4, t9, pr_wop, pr_call, wdec_true, wop_int, int_gtr keq_i64, wopt_some, wop_load, load_all ap_23 hC1 rfl, wopt_some, wHValid h m1.wf (by omega) hF1, hs, bool_eql, beq_self_eq_true, wdec_true, wAwake m1.wf (by omega) hF1]
    refine hret _ _ _ ?_
    simp only [U, tset_eq, wW, reduceCtorEq, Nat.reduceEqDiff]
  have hsz : decide (sizeM h > 0) = shV h := by
    cases hv : shV h with
    | true =>
      have := size_pos hv
      rw [size_sum hv]
      exact decide_eq_true (by omega)
    | false =>
      have : sizeM h = 0 := by unfold sizeM; rw [if_neg (by simp [hv])]
      exact decide_eq_false (by omega)
  by_cases hz : sizeM h ≤ 0
  · rw [if_pos hz]
    refine hbad _ true ?_ ?_ ?_ hsz
    · simp only [U, tset_eq, wW, reduceCtorEq, Nat.reduceEqDiff]
    · simp only [U, tset_eq, wW, reduceCtorEq, Nat.reduceEqDiff]
    · simp only [U, tset_eq, wW, reduceCtorEq, Nat.reduceEqDiff]
  rw [if_neg hz]
  by_cases hbig : sizeM h > 20000
  · refine hbad _ true ?_ ?_ ?_ hsz
    · simp only [U, tset_eq, wW, reduceCtorEq, Nat.reduceEqDiff]
      exact congrArg Value.bool (decide_eq_true hbig)
    · simp only [U, tset_eq, wW, reduceCtorEq, Nat.reduceEqDiff]
    · simp only [U, tset_eq, wW, reduceCtorEq, Nat.reduceEqDiff]
  have hv : shV h = true := by
    rw [← hsz]
    exact decide_eq_true (by omega)
  have hsum := size_sum hv
  have hcast : (4 * (sumN (partsR h) : Int)) = ((4 * sumN (partsR h) : Nat) : Int) := by push_cast; rfl
  have hgo : ∀ (τ : Tau), τ 34 = .bool false → τ 1 = .int .u64 x → τ 2 = .int .u32 pl → τ 3 = .int .u8 f → τ 4 = ptr C → τ 9 = .int .i64 ((4 * sumN (partsR h) : Nat) : Int) → xp (prims P ro) none 181 k6 c6_1101 [1, 0, 1, 1] τ [] [] s1 (sX (prims P ro) none 181 k6 c6_111 [1, 1, 1] (xleave (prims P ro) s Tryd.f6.results.toList (fun v _ => v = .bool true))) := fun τ t34 t1 t2 t3 t4 t9 => by
    rw [n6_1101]
    unfold v6_1101
    rw [t34, wdec_false, sX_n QOk.leave]
    refine pbTail hret hv (by omega) (x := x) hpl hf hC1 m1.wf (by omega) hF1 ?_ ?_ ?_ ?_ ?_
    · simp only [U, tset_eq, wW, reduceCtorEq, Nat.reduceEqDiff, t1]
    · simp only [U, tset_eq, wW, reduceCtorEq, Nat.reduceEqDiff, t2]
    · simp only [U, tset_eq, wW, reduceCtorEq, Nat.reduceEqDiff, t3]
    · simp only [U, tset_eq, wW, reduceCtorEq, Nat.reduceEqDiff, t4]
    · simp only [U, tset_eq, wW, reduceCtorEq, Nat.reduceEqDiff, t9]
  refine hgo _ ?_ ?_ ?_ ?_ ?_ ?_
  · simp only [U, tset_eq, wW, reduceCtorEq, Nat.reduceEqDiff]
    exact congrArg Value.bool (decide_eq_false hbig)
  · simp only [U, tset_eq, wW, reduceCtorEq, Nat.reduceEqDiff]
  · simp only [U, tset_eq, wW, reduceCtorEq, Nat.reduceEqDiff]
  · simp only [U, tset_eq, wW, reduceCtorEq, Nat.reduceEqDiff]
  · simp only [U, tset_eq, wW, reduceCtorEq, Nat.reduceEqDiff]
  · simp only [U, tset_eq, wW, reduceCtorEq, Nat.reduceEqDiff]
    rw [hsum, hcast]
end
end Go.VE
/- ProofBytes at every start. -/
namespace Go.VE
open Go Go.Proofs
set_option maxRecDepth 20000
theorem pb_args {al : List Value} {s : St} (h : Args P 8 [23, 34, 51, 5] al s) : ∃ (h : Shp) (x pl f : Int), al = [.agg (.mk h.cells), .int .u64 x, .int .u32 pl, .int .u8 f] ∧ (0 ≤ pl ∧ pl < 2 ^ 32) ∧ (0 ≤ f ∧ f < 256) := by
  obtain ⟨v1, r1, a1, rfl, hv1, hm1, v2, r2, a2, rfl, hv2, hm2, v3, r3, a3, rfl, hv3, hm3, v4, r4, a4, rfl, hv4, hm4, rfl⟩ := h
  rw [av_23] at hv1
  subst hv1
  obtain ⟨h, rfl⟩ := shape_of hm1
  rw [me_34] at hm2
  obtain ⟨x, rfl, _⟩ := hm2
  rw [av_34] at hv2
  cases hv2
  rw [me_51] at hm3
  obtain ⟨pl, rfl, hp⟩ := hm3
  rw [av_51] at hv3
  cases hv3
  rw [me_5] at hm4
  obtain ⟨f, rfl, hf⟩ := hm4
  rw [av_5] at hv4
  cases hv4
  simp [Lit.wf, IntKind.min, IntKind.max, IntKind.signed, IntKind.bits] at hp hf
  exact ⟨h, x, pl, f, rfl, ⟨by omega, by omega⟩, ⟨by omega, by omega⟩⟩
theorem pb_runs (laid : List (String × DataW Unit)) (h : startB laid = true) : LawRuns P 30 8 6 [23, 34, 51, 5] laid :=
  law_runs' h fun s al hw hF h0 ha => by
    obtain ⟨h, x, pl, f, rfl, hp, hf⟩ := pb_args ha
    exact wProofBytes h hp hf hw (Nat.le_refl _) hF
end Go.VE
