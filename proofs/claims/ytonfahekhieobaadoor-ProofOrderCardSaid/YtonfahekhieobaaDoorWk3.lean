/-
  What the functions compute.
-/
import Derived.Test.YtonfahekhieobaaDoorWk2
set_option linter.unusedSimpArgs false
set_option linter.unusedVariables false
/- proof.Encode. -/
namespace Go.VE
open Go Go.Proofs
set_option maxRecDepth 20000
theorem zeroU8 {y : Value} {n : Nat} (h : y ∈ zeroList (Value.int .u8 0).cells n) : y = .int .u8 0 := by
  unfold zeroList at h
  obtain ⟨i, _, rfl⟩ := List.mem_map.1 h
  show ([Value.int .u8 0] : List Value).getD (i % 1) default = _
  rw [Nat.mod_one]; rfl
section
variable {ro : Nat} {s : St} {K : Value → St → Prop} {W : Nat → Prop} {cs : List Value} {B : PfB} {g : Nat → Nat → Nat → List Int} {h : Shp}
theorem wEncOk (hv : shV h = true) (hp : PfAt s W cs B (shR h).toNat h.q.toNat g) (hcl : cs.length = 8) (hg : ∀ k q i, (g k q i).length < 2 ^ 20) (hb : fitsB h g = true) (hw : Wf s) (hro : ro ≤ s.n) (hF : FieldsAt s)
    (hk : ∀ A s', Grew s s' → s.n ≤ A → Bys s' (.slice (some ⟨A, 0, none⟩) (encP g (partsAll h)).length (encP g (partsAll h)).length) (encP g (partsAll h)) → K (.tuple (.mk [.slice (some ⟨A, 0, none⟩) (encP g (partsAll h)).length (encP g (partsAll h)).length, .int .i64 0])) s') :
    CallWP P ro 23 [.agg (.mk h.cells), .agg (.mk cs)] s K := by
  refine call_wp b23 rfl ?_
  rw [n23]
  unfold v23
  simp (maxSteps := 10000000) only [wW, reduceCtorEq, Nat.reduceEqDiff]
  refine box_rule hw.ent fun C s1 m1 => ?_
  refine box_rule m1.wf fun E s2 m2 => ?_
  have e1 := m1.eq
  have n1 := m1.n
  have e2 := m2.eq
  have n2 := m2.n
  have hn0 : (ent s).n = s.n := rfl
  have g02 := m1.grew.trans m2.grew
  have hC2 : s2.at C = some (.cells h.cells 23 false) := (m2.grew.same C (by omega)).trans m1.here
  have hE2 : s2.at E = some (.cells cs 39 false) := m2.here
  have hp0 : PfAt (ent s) W cs B (shR h).toNat h.q.toNat g := hp.keep (s' := ent s) (Nat.le_refl _) fun _ _ => rfl
  have hF2 : FieldsAt s2 := FieldsAt.grew (s := ent s) hF g02
  rw [wop_load, load_all ap_23 hC2 rfl, wopt_some, wop_load, load_all ap_39 hE2 hcl, wopt_some, wFits h hv (hp0.grew g02) hg m2.wf (by omega) hF2, hb]
  simp (maxSteps := 10000000) only [wW, reduceCtorEq, Nat.reduceEqDiff]
  rw [wop_load, load_all ap_23 hC2 rfl, wopt_some, wGSize h m2.wf (by omega) hF2, size_enc hv hb]
  have hsz := size_bound hv
  have hse := size_enc (g := g) hv hb
  rw [size_sum hv] at hse
  refine makeLC_rule se_32 ty_5 m2.wf (by decide) (by omega) (by omega) (by decide) fun A s3 m3 => ?_
  have e3 := m3.eq
  have n3 := m3.n
  rw [Int.toNat_natCast] at m3 ⊢
  refine alloc_rule ty_32 m3.wf fun X s4 m4 => ?_
  have e4 := m4.eq
  have n4 := m4.n
  refine store1_rule isz_32 m4.here m4.wf (by omega) (by decide) rfl fun s5 p5 => ?_
  have n5 := p5.n
  have g24 := m3.grew.trans m4.grew
  have g25 : Grew s2 s5 := p5.grew _ m2.wf g24 (by omega)
  have g05 := g02.trans g25
  have hC5 := (g25.same C (by omega)).trans hC2
  have hE5 := (g25.same E (by omega)).trans hE2
  have hA5 := (p5.rest A (by omega)).trans ((m4.grew.same A (by omega)).trans m3.here)
  have hX5 := p5.here
  rw [wop_load, load_all ap_23 hC5 rfl, wopt_some]
  refine wAllFn h p5.wf fun B9 s6 g6 hB9 hB9n => ?_
  have n6 := g6.n
  have w6 := p5.wf.grew g6
  have hB9l := St.at_lt hB9
  refine wrange (by omega) fun t ht => ?_
  have g7 : Grew s6 (s6.new (.defd (some []))) := .new _ _
  generalize hr0 : ({ state := .ready, pending := none, t := t, params := #[20].toList, assign := c23_1110100, body := c23_1110101, defers := s6.n } : Lp) = lp
  have g8 : Grew (s6.new (.defd (some []))) ((s6.new (.defd (some []))).new (.loop lp)) := .new _ _
  have hD8 : ((s6.new (.defd (some []))).new (.loop lp)).at s6.n = some (.defd (some [])) := (g8.same s6.n (Nat.lt_succ_self s6.n)).trans (at_newest _ _)
  have hL8 : ((s6.new (.defd (some []))).new (.loop lp)).at (s6.n + 1) = some (.loop lp) := at_newest (s6.new (.defd (some []))) _
  have w8 : Wf ((s6.new (.defd (some []))).new (.loop lp)) := (w6.new _).new _
  have n8 : ((s6.new (.defd (some []))).new (.loop lp)).n = s6.n + 2 := rfl
  have g68 := g7.trans g8
  have hlp : lp.state = .ready ∧ lp.pending = none ∧ lp.t = t ∧ lp.params = [20] ∧ lp.assign = c23_1110100 ∧ lp.body = c23_1110101 := by rw [← hr0]; exact ⟨rfl, rfl, rfl, rfl, rfl, rfl⟩
  clear hr0
  generalize (s6.new (.defd (some []))).new (.loop lp) = s8 at *
  have g58 := g6.trans g68
  have g08 := g05.trans g58
  have hlo8 : s8.lo = s.n := g08.lo
  refine wAllJ (h := h) lp (EcJ (ent s) h cs g C E A X (s6.n + 1) s6.n (encP g (partsAll h)).length lp) (fun _ => False) hv ((g68.same B9 hB9l).trans hB9) (by rw [hlp.2.2.2.1]; rfl) EcJ.cli (by omega) (by omega) (fun i M s' hi hJ => ?_) (M0 := [s6.n + 1, A, X]) ?_ ?_ (fun M s' hJ => ?_) (fun s' hS => hS.elim)
  · refine ecRound ht hlp ?_ ?_ hp0 hv hg (by omega) ⟨by omega, by omega, by omega, by omega, by omega, by omega⟩ ⟨by omega, by omega, by omega, by omega, by omega, by omega, by omega, by omega, by omega, by omega, by omega, by omega⟩ hi hJ
    · simp only [U, tset_eq, wW, reduceCtorEq, Nat.reduceEqDiff]
    · simp only [U, tset_eq, wW, reduceCtorEq, Nat.reduceEqDiff]
  · refine ⟨w8.ent, by show s.n ≤ s8.n; omega, fun A hA => g08.same A hA, by show s.n ≤ s8.n; omega, hL8, hD8, (g58.same C (by omega)).trans hC5, (g58.same E (by omega)).trans hE5, ⟨_, (g58.same A (by omega)).trans hA5, ?_, ?_, fun y hy => ?_⟩, (g58.same X (by omega)).trans hX5, rfl⟩
    · rw [zeroList_len]; exact Nat.mul_one _
    · simp [encP]
    · exact ⟨0, zeroU8 hy⟩
  · simp only [List.mem_cons, List.not_mem_nil, or_false, not_or]
    exact ⟨by omega, by omega, by omega⟩
  · refine ⟨lp, .normal, hJ.loop, .inl hlp.1, by rw [hlp.2.1]; rfl, ?_⟩
    have wf' : Wf ({ s' with lo := min s8.lo s'.lo } : St) := ⟨by show min s8.lo s'.lo ≤ s'.n; have := hJ.wf.lo; omega, hJ.wf.len⟩
    have pe := Put.mk' wf' (St.at_lt (s := ({ s' with lo := min s8.lo s'.lo } : St)) hJ.loop) (.loop { lp with state := .exhausted })
    generalize ({ s' with lo := min s8.lo s'.lo } : St).put (s6.n + 1) (.loop { lp with state := .exhausted }) = se at pe ⊢
    have hne := pe.n
    have hne' : se.n = s'.n := hne
    have hXe := (pe.rest X (by omega)).trans hJ.x
    have hDe : se.at s6.n = some (.defd (some [])) := (pe.rest _ (by omega)).trans hJ.dfr
    have hJn : s.n ≤ s'.n := hJ.n
    have hJlo : s.n ≤ s'.lo := hJ.lo
    obtain ⟨c, hA, hcl', hct, _⟩ := hJ.a
    rw [List.take_length] at hct hXe
    have hAe := (pe.rest A (by omega)).trans hA
    simp (maxSteps := 10000000) only [U, tset_eq, wW, reduceCtorEq, Nat.reduceEqDiff]
    rw [wop_load, load_one ap_32 hXe rfl, wopt_some]
    refine ⟨hDe, by omega, ?_⟩
    have pd := Put.mk' pe.wf (St.at_lt hDe) (.defd none)
    generalize se.put s6.n (.defd none) = sd at pd ⊢
    have nd := pd.n
    have hAd := (pd.rest A (by omega)).trans hAe
    have hlod : sd.lo = s.n := by
      rw [pd.lo, pe.lo]
      show min (min (min s8.lo s'.lo) (s6.n + 1)) s6.n = s.n
      omega
    rw [wdefers_nil]
    refine wfin_new hw ⟨by omega, hlod, fun A hA => ?_, fun _ => pd.wf.len⟩ rfl fun s9 g9 hn9 hat9 => hk A s9 g9 (by omega) ?_
    · have hA' : A < s.n := hA
      rw [pd.rest A (by omega), pe.rest A (by omega)]
      exact hJ.same A hA
    · refine ⟨_, _, rfl, by rw [List.length_map, Nat.mul_one], ⟨Nat.le_refl _, fun h => (by cases h), fun x hx => by cases hx; exact .inl rfl⟩, fun _ => ⟨A, 0, none, c, _, _, rfl, rfl, (hat9 A).trans hAd, ?_⟩⟩
      rw [List.drop_zero, Nat.mul_one]
      exact hct
end
end Go.VE
/- Bytes as a text; equality. -/
namespace Go.VE
open Go Go.Proofs
set_option maxRecDepth 20000
theorem wop_eql_of {P : Program} [Memo] {ro : Nat} {t r ty : TypeId} {xs ys : List Value} {c : Bool} (hx : flatL xs = true) (hy : flatL ys = true) (hg : P.eqGuardType P.depth t = false) (h : runPure P (Op.equal t (.agg (.mk xs)) (.agg (.mk ys))) = some c) {s : St} {K : Value → St → Prop} :
    wop P ro (.binOp .eql t (.const (.agg (.mk xs))) (.const (.agg (.mk ys))) r) ty s K = K (.bool c) s := by
  have e : apure P .e (mkO (.binOp .eql t (.const (.agg (.mk xs))) (.const (.agg (.mk ys))) r) ty) = some (.val (.bool c)) := by
    unfold apure
    have e2 : runPure P (execOp (aval .e) (mkO (.binOp .eql t (.const (.agg (.mk xs))) (.const (.agg (.mk ys))) r) ty)) = some (Next.value (.bool c)) := by
      show runPure P ((do eqGuard .eql t (.const (.agg (.mk xs))) (.const (.agg (.mk ys))) (.agg (.mk xs)) (.agg (.mk ys)); binOp .eql t (.agg (.mk xs)) (.agg (.mk ys))) >>= fun v => pure (Next.value v)) = _
      rw [rp_bind, rp_bind]
      have e3 : runPure P (eqGuard .eql t (.const (.agg (.mk xs))) (.const (.agg (.mk ys))) (.agg (.mk xs)) (.agg (.mk ys))) = some () := by
        show runPure P (if (!P.eqGuardType P.depth t) = true then pure () else _) = _
        rw [hg]; rfl
      rw [e3]
      simp only [Option.bind_some]
      show (runPure P (Op.equal t (.agg (.mk xs)) (.agg (.mk ys)) >>= fun b => pure (Value.bool b))).bind _ = _
      rw [rp_bind, h]
      rfl
    rw [e2]
    rfl
  have hf : ∀ l : List Value, flatL l = true → flat' (.agg (.mk l)) = true := fun l hl => by
    show (false || flatL l) = true
    rw [hl]; rfl
  show wfol P ro K (abin P .e (mkO (.binOp .eql t (.const (.agg (.mk xs))) (.const (.agg (.mk ys))) r) ty) s .eql t (.agg (.mk xs)) (.agg (.mk ys))) = _
  simp only [abin, hf xs hx, hf ys hy, Bool.and_self, cond_true, e]
  rfl
section
variable {ro : Nat} {s : St} {K : Value → St → Prop}
theorem unStr : P.underlying 9 = some .string := by kernel_rfl
theorem wop_eql_str (a b : ByteArray) (r ty : TypeId) : wop P ro (.binOp .eql 9 (.const (.string a)) (.const (.string b)) r) ty s K = K (.bool (a.toList == b.toList)) s := by
  have e : apure P .e (mkO (.binOp .eql 9 (.const (.string a)) (.const (.string b)) r) ty) = some (.val (.bool (a.toList == b.toList))) := rfl
  show wfol P ro K (abin P .e (mkO (.binOp .eql 9 (.const (.string a)) (.const (.string b)) r) ty) s .eql 9 (.string a) (.string b)) = _
  have hf : ∀ b : ByteArray, flat' (.string b) = true := fun _ => rfl
  simp only [abin, hf, Bool.and_self, cond_true, e]
  rfl
theorem u8s_map : ∀ l : List Int, u8s (l.map (.int .u8)) = some l
  | [] => rfl
  | x :: l => by
    show (u8s (l.map (.int .u8))).map (x :: ·) = _
    rw [u8s_map l]; rfl
theorem conv_str {A o n c : Nat} {sp : Option Nat} {l : List Int} (h : Bys s (.slice (some ⟨A, o, sp⟩) n c) l) (ty : TypeId) : wop P ro (.convert 32 9 (.const (.slice (some ⟨A, o, sp⟩) n c))) ty s K = K (strOf l) s := by
  have hn : n = l.length := by
    obtain ⟨a, c', e, _⟩ := h
    cases e; rfl
  subst hn
  obtain ⟨_, hf⟩ := Sl.first h
  have u1 : P.underlying 32 = some (.slice 5) := un_32
  have u2 : isU8 P 5 = true := by kernel_rfl
  show wfol P ro K (aconv P .e (mkO (.convert 32 9 (.const (.slice (some ⟨A, o, sp⟩) l.length c))) ty) s 32 9 (.slice (some ⟨A, o, sp⟩) l.length c)) = _
  simp only [aconv, u1, unStr, u2, cond_true]
  rw [wfol_with]
  unfold astr
  rw [hf, Option.bind_some, u8s_map]
  rfl
theorem eql_bytes (l : List Int) (r ty : TypeId) : wop P ro (.binOp .eql 9 (.const (strOf l)) (.const (strOf l)) r) ty s K = K (.bool true) s := by
  unfold strOf
  rw [wop_eql_str]
  have : ∀ l : List UInt8, (l == l) = true := fun l => beq_self_eq_true l
  rw [this]
end
end Go.VE
/- The example that every law of proofs looks at: attestorlaw17.awake. -/
namespace Go.VE
open Go Go.Proofs
set_option maxRecDepth 20000
def tinyS : Shp := ⟨0, 2, 1, 1, 2, 0, 1, 0, 1⟩
def tinyB (i : Nat) (x : Int) : List Int := (List.replicate 176 (0 : Int)).set i x
theorem tiny_v : shV tinyS = true := by decide +kernel
theorem tiny_17 : (partsR tinyS).length = 17 := by decide +kernel
theorem tiny_p0 : (partsR tinyS)[0]? = some ⟨1, 0, 0, 4⟩ := by kernel_rfl
theorem tiny_p3 : (partsR tinyS)[3]? = some ⟨6, 0, 0, 4⟩ := by kernel_rfl
theorem tiny_p8 : (partsR tinyS)[8]? = some ⟨9, 0, 1, 4⟩ := by kernel_rfl
theorem tiny_size : sizeM tinyS = 176 := by decide +kernel
noncomputable def tinyG : Nat → Nat → Nat → List Int := (goneG (tinyB 4 7) (partsR tinyS)).2
theorem tiny_dec : decE (tinyB 4 7) (fP 0) (goneG (tinyB 4 7) (partsR tinyS)).1 = (0, 0) := by decide +kernel
theorem tiny_fits : fitsB tinyS tinyG = true := by decide +kernel
theorem tiny_enc : encP tinyG (partsAll tinyS) = tinyB 4 7 := by decide +kernel
theorem tiny_dig : tinyG 1 0 0 = [0, 7, 0, 0] := by decide +kernel
theorem tinyB_ok (i : Nat) {x : Int} (hx : 0 ≤ x ∧ x < 256) : ∀ y ∈ tinyB i x, 0 ≤ y ∧ y < 256 := fun y hy => by
  rcases List.mem_or_eq_of_mem_set hy with h | rfl
  · rw [List.eq_of_mem_replicate h]; decide
  · exact hx
theorem tinyB_len (i : Nat) (x : Int) : (tinyB i x).length = 176 := by unfold tinyB; rw [List.length_set, List.length_replicate]
theorem goneG_len {b : List Int} {l : List Prt} (h : ∀ x ∈ l, x.n.toNat < 2 ^ 20) (k q i : Nat) : ((goneG b l).2 k q i).length < 2 ^ 20 := by
  have main : ∀ (l : List Prt) (kg : Nat × (Nat → Nat → Nat → List Int)), (∀ x ∈ l, x.n.toNat < 2 ^ 20) → (∀ k q i, (kg.2 k q i).length < 2 ^ 20) → ∀ k q i, ((l.foldl (stepG b) kg).2 k q i).length < 2 ^ 20 := by
    intro l
    induction l with
    | nil => intro kg _ h; exact h
    | cons x l ih =>
      intro kg hx hk
      refine ih _ (fun y hy => hx y (List.mem_cons_of_mem _ hy)) fun k q i => ?_
      show (updG kg.2 x.k.toNat x.q.toNat x.i.toNat (numsB b kg.1 x.n.toNat) k q i).length < _
      unfold updG
      split
      · rw [numsB_len]; exact hx x List.mem_cons_self
      · exact hk k q i
  refine main l (0, g0) h (fun k q i => ?_) k q i
  show (g0 k q i).length < _
  unfold g0
  split
  · decide
  · split <;> simp
theorem PrtZ.n1 {R Q : Nat} {x : Prt} (h : PrtZ R Q x) : x.n.toNat < 2 ^ 20 := by
  obtain ⟨k, q, i, n, rfl, _, h, _⟩ := h
  show (n : Int).toNat < _
  omega
theorem gone_len {h : Shp} (hv : shV h = true) (b : List Int) (k q i : Nat) : ((goneG b (partsR h)).2 k q i).length < 2 ^ 20 := goneG_len (fun x hx => (partsR_ok hv x hx).n1) k q i
theorem PfAt.list {s : St} {W : Nat → Prop} {cs : List Value} {B : PfB} {R Q : Nat} {g : Nat → Nat → Nat → List Int} (h : PfAt s W cs B R Q g) :
    ∃ v0 v1 v2 v5 x3 x6, cs = [v0, v1, v2, .int .u64 x3, .slice (some ⟨B.rb, 0, none⟩) R R, v5, .int .u64 x6, .slice (some ⟨B.ob, 0, none⟩) Q Q] ∧ SlV s W 2 v0 (g 1 0 0) ∧ SlV s W 2 v1 (g 3 0 0) ∧ SlV s W 2 v2 (g 4 0 0) ∧ g 2 0 0 = [x3] ∧ SlV s W 1 v5 (g 6 0 0) ∧ g 7 0 0 = [x6] := by
  have hc : ∀ {k : Nat} (hk : k = 1 ∨ k = 2 ∨ k = 3 ∨ k = 4 ∨ k = 6 ∨ k = 7), SlotC s W k cs (slotA B k 0 0).2 (g k 0 0) := fun {k} hk => by
    obtain ⟨c, hc, hS⟩ := h.sl k 0 0 (.top k hk)
    have e0 : (slotA B k 0 0).1 = none := by rcases hk with rfl | rfl | rfl | rfl | rfl | rfl <;> rfl
    rw [e0] at hc
    simp only [cellsAt, Option.some.injEq] at hc
    rw [hc]
    exact hS
  have hs : ∀ {k : Nat} (_ : k = 1 ∨ k = 3 ∨ k = 4 ∨ k = 6), ∃ v, cs[(slotA B k 0 0).2]? = some v ∧ SlV s W (if k = 6 ∨ k = 8 then 1 else 2) v (g k 0 0) := fun {k} hk => by
    have hS := hc (k := k) (by omega)
    unfold SlotC at hS
    rw [if_neg (by omega), if_neg (by omega)] at hS
    exact hS
  have hn : ∀ {k : Nat} (_ : k = 2 ∨ k = 7), ∃ x, g k 0 0 = [x] ∧ cs[(slotA B k 0 0).2]? = some (.int .u64 x) := fun {k} hk => by
    have hS := hc (k := k) (by omega)
    unfold SlotC at hS
    rw [if_pos hk] at hS
    exact hS
  obtain ⟨v0, a0, b0⟩ := hs (k := 1) (by omega)
  obtain ⟨v1, a1, b1⟩ := hs (k := 3) (by omega)
  obtain ⟨v2, a2, b2⟩ := hs (k := 4) (by omega)
  obtain ⟨v5, a5, b5⟩ := hs (k := 6) (by omega)
  obtain ⟨x3, b3, a3⟩ := hn (k := 2) (by omega)
  obtain ⟨x6, b6, a6⟩ := hn (k := 7) (by omega)
  have h4 := h.c4
  have h7 := h.c7
  have hl := h.cl
  refine ⟨v0, v1, v2, v5, x3, x6, ?_, b0, b1, b2, b3, b5, b6⟩
  simp only [slotA] at a0 a1 a2 a3 a5 a6
  match cs, hl with
  | [y0, y1, y2, y3, y4, y5, y6, y7], _ =>
    simp only [List.getElem?_cons_zero, List.getElem?_cons_succ, Option.some.injEq] at a0 a1 a2 a3 a5 a6 h4 h7
    rw [a0, a1, a2, a3, a5, a6, h4, h7]
theorem Sl.dig {s : St} {v : Value} {m : Nat} {l : List Int} (h : Sl s v 2 m (l.map (.int .u64))) (hl : l.length = m * 2) {i : Nat} (hi : i < m) : ∃ p, aindexAddr P 33 v (.int .i64 (i : Int)) = some p ∧ aload P s 55 p = some (.agg (.mk (((l.drop (i * 2)).take 2).map (.int .u64)))) := by
  obtain ⟨A, o, h1, h2, h3⟩ := Sl.ix h (by decide) (show (0 : Int) ≤ i by omega) (show (i : Int) < m by omega)
  refine ⟨_, h1 se_33 isz_55, ?_⟩
  rw [loadN ap_55]
  have := h3 0 2 (by decide) (by decide)
  rw [Nat.add_zero, Nat.add_zero, Int.toNat_natCast] at this
  rw [this, cut_eq (by rw [List.length_map]; omega), ← List.map_drop, ← List.map_take]
  rfl
theorem veq_sl {v : Value} {s : St} {W : Nat → Prop} {sz : Nat} {l : List Int} (h : SlV s W sz v l) : veq v v = true := by
  obtain ⟨m, _, ⟨a, c, rfl, _⟩, _⟩ := h
  simp [veq]
theorem PfAt.veq {s : St} {W : Nat → Prop} {cs : List Value} {B : PfB} {R Q : Nat} {g : Nat → Nat → Nat → List Int} (h : PfAt s W cs B R Q g) : veq (.agg (.mk cs)) (.agg (.mk cs)) = true := by
  obtain ⟨v0, v1, v2, v5, x3, x6, rfl, h0, h1, h2, h3, h5, h6⟩ := h.list
  simp only [VE.veq, veqA, veqL, veq_sl h0, veq_sl h1, veq_sl h2, veq_sl h5, Bool.and_true, Bool.true_and]
  simp
theorem spliceSet {cs : List Value} {i : Nat} {v : Value} (h : i < cs.length) : splice cs i [v] = cs.set i v := by
  rw [List.set_eq_take_append_cons_drop, if_pos h]
  rfl
section
variable {ro : Nat} {s : St} {K : Value → St → Prop}
theorem bldTiny : abuild P 23 (partVals .e [(1, .const (.int .i64 2)), (2, .const (.int .i64 1)), (3, .const (.int .i64 1)), (4, .const (.int .i64 2)), (6, .const (.int .i64 1)), (8, .const (.int .i64 1))]) = some (.agg (.mk tinyS.cells)) := by kernel_rfl
theorem bldP1 : abuild P 30 (partVals .e [(0, .const (.int .u8 1)), (3, .const (.int .i64 4))]) = some (.agg (.mk (Prt.cells ⟨1, 0, 0, 4⟩))) := by kernel_rfl
theorem bldP9 : abuild P 30 (partVals .e [(0, .const (.int .u8 9)), (2, .const (.int .i64 1)), (3, .const (.int .i64 4))]) = some (.agg (.mk (Prt.cells ⟨9, 0, 1, 4⟩))) := by kernel_rfl
theorem bldD7 : abuild P 55 (partVals .e [(0, .const (.int .u64 0)), (1, .const (.int .u64 7))]) = some (.agg (.mk (([0, 7] : List Int).map (.int .u64)))) := by kernel_rfl
theorem eqlDig (xs ys : List Int) (hx : xs.length = 2) (hy : ys.length = 2) {ty r : TypeId} : wop P ro (.binOp .eql 55 (.const (.agg (.mk (xs.map (.int .u64))))) (.const (.agg (.mk (ys.map (.int .u64))))) r) ty s K = K (.bool (decide (xs = ys))) s :=
  wop_eql_of (flat_u64s _) (flat_u64s _) (by kernel_rfl) (eqArr (n := 2) (e := 34) (by kernel_rfl) unU64 isz_34 partU64 xs ys hx hy)
theorem wTiny (hw : Wf s) (hro : ro ≤ s.n) : CallWP P ro 25 [] s K = K (.agg (.mk tinyS.cells)) s := by
  refine callEq (call_wp b25 rfl ?_) K
  rw [n25]
  unfold v25
  simp (maxSteps := 10000000) only [wW, reduceCtorEq, Nat.reduceEqDiff]
  refine alloc_rule ty_23 hw.ent fun C s1 m1 => ?_
  have e1 := m1.eq
  have hn0 : (ent s).n = s.n := rfl
  rw [bldTiny, wopt_some]
  refine storeAll_rule isz_23 m1.here (l := tinyS.cells) rfl (by decide) m1.wf (by omega) rfl rfl fun s2 p2 => ?_
  rw [wop_load, load_all ap_23 p2.here rfl, wopt_some]
  exact fin_flat rfl (p2.grew _ hw.ent m1.grew (by omega)) ⟨rfl, rfl⟩
theorem tinyS_bytes (A : Nat) {s : St} {i : Nat} {x : Int} (hA : s.at A = some (.cells (splice (zeroList (Value.int .u8 0).cells (Int.toNat 176 * 1)) i [.int .u8 x]) 5 false)) (hi : i < 176) : Bys s (.slice (some ⟨A, 0, none⟩) 176 176) (tinyB i x) := by
  have hlen := tinyB_len i x
  unfold Bys
  rw [hlen]
  refine ⟨_, _, rfl, by rw [List.length_map, hlen], ⟨Nat.le_refl _, fun h => (by cases h), fun x hx => by cases hx; exact .inl rfl⟩, fun _ => ⟨A, 0, none, _, _, _, rfl, rfl, hA, ?_⟩⟩
  have hz : zeroList (Value.int .u8 0).cells (Int.toNat 176 * 1) = (List.replicate 176 (0 : Int)).map (.int .u8) := by kernel_rfl
  rw [List.drop_zero, hz, spliceSet (by rw [List.length_map, List.length_replicate]; exact hi)]
  unfold tinyB
  rw [List.map_set]
  exact List.take_of_length_le (by rw [List.length_set, List.length_map, List.length_replicate]; decide)
end
end Go.VE
/- attestorlaw17.awake. -/
namespace Go.VE
open Go Go.Proofs
set_option maxRecDepth 20000
section
variable {ro : Nat} {s : St} {K : Value → St → Prop}
theorem wAwake (hw : Wf s) (hro : ro ≤ s.n) (hF : FieldsAt s) : CallWP P ro 16 [] s K = K (.bool true) s := by
  refine callEq (call_wp b16 rfl ?_) K
  rw [n16]
  unfold v16
  simp (maxSteps := 10000000) only [wW, reduceCtorEq, Nat.reduceEqDiff]
  have hFe : FieldsAt (ent s) := hF
  have hn0 : (ent s).n = s.n := rfl
  have hroe : ro ≤ (ent s).n := hro
  have h0n : 0 < s.n := hF.lt
  have hv := tiny_v
  rw [wTiny hw.ent hroe]
  refine wGParts tinyS hw.ent hroe hFe (fun h => by rw [hv] at h; cases h) fun _ v s1 g1 hP hPA => ?_
  have n1 := g1.n
  have w1 := hw.ent.grew g1
  have hF1 := hFe.grew g1
  have h17 := tiny_17
  rw [Sl.wlen hP se_24, h17]
  simp (maxSteps := 10000000) only [wW, reduceCtorEq, Nat.reduceEqDiff]
  have hget : ∀ (i : Nat) (p : Prt) (_ : i < 17), (partsR tinyS)[i]? = some p → ∃ A o, aindexAddr P 24 v (.int .i64 (i : Int)) = some (.pointer (some ⟨A, o, none⟩)) ∧ aload P s1 30 (.pointer (some ⟨A, o, none⟩)) = some (.agg (.mk p.cells)) := fun i p h hp => by
    have hi : i < (partsR tinyS).length := by omega
    obtain ⟨A, o, q1, q2⟩ := hP.ix hi
    rw [List.getElem?_eq_getElem hi] at hp
    cases hp
    exact ⟨A, o, q1, q2⟩
  have hget3 : ∀ (i : Nat) (p : Prt) (_ : i < 17), (partsR tinyS)[i]? = some p → ∃ A o, aindexAddr P 24 v (.int .i64 (i : Int)) = some (.pointer (some ⟨A, o, none⟩)) ∧ (∀ k, k < 4 → (acells (s1.at A)).bind (fun c => c[o + k]?) = p.cells[k]?) := fun i p h hp => by
    have hi : i < (partsR tinyS).length := by omega
    obtain ⟨A, o, h1, h2, h3⟩ := Sl.ix hP (by decide) (show (0 : Int) ≤ i by omega) (show (i : Int) < (partsR tinyS).length by omega)
    refine ⟨A, o, h1 se_24 isz_30, fun k hk => ?_⟩
    rw [h2 k hk, Int.toNat_natCast, prts_get _ hp hk]
  obtain ⟨A0, o0, q0, r0⟩ := hget 0 _ (by decide) tiny_p0
  obtain ⟨A3, o3, q3, r3⟩ := hget3 3 _ (by decide) tiny_p3
  obtain ⟨A8, o8, q8, r8⟩ := hget 8 _ (by decide) tiny_p8
  have r30 : aload P s1 28 (.pointer (some ⟨A3, o3 + 0, none⟩)) = some (.int .u8 6) := by rw [load1 ap_28]; exact r3 0 (by decide)
  have r33 : aload P s1 3 (.pointer (some ⟨A3, o3 + 3, none⟩)) = some (.int .i64 4) := by rw [load1 ap_3]; exact r3 3 (by decide)
  have q0' : aindexAddr P 24 v (.int .i64 0) = some (.pointer (some ⟨A0, o0, none⟩)) := q0
  have q3' : aindexAddr P 24 v (.int .i64 3) = some (.pointer (some ⟨A3, o3, none⟩)) := q3
  have q8' : aindexAddr P 24 v (.int .i64 8) = some (.pointer (some ⟨A8, o8, none⟩)) := q8
  rw [wop_indexAddr, q0', wopt_some, wop_load, r0, wopt_some, bldP1, wopt_some, neqPart_same, wdec_false, wop_indexAddr, q3', wopt_some, fa_30_0, wopt_some, wop_load, r30, wopt_some]
  simp (maxSteps := 10000000) only [wW, reduceCtorEq, Nat.reduceEqDiff]
  rw [if_neg (by decide), wop_indexAddr, q3', wopt_some, fa_30_3, wopt_some, wop_load, r33, wopt_some]
  simp (maxSteps := 10000000) only [wW, reduceCtorEq, Nat.reduceEqDiff]
  rw [if_neg (by decide), wop_indexAddr, q8', wopt_some, wop_load, r8, wopt_some, bldP9, wopt_some, neqPart_same, wdec_false, wTiny w1 (by omega), wGSize tinyS w1 (by omega) hF1, tiny_size]
  simp (maxSteps := 10000000) only [wW, reduceCtorEq, Nat.reduceEqDiff]
  rw [if_neg (by decide)]
  refine makeLC_rule se_32 ty_5 w1 (by decide) (by decide) (by decide) (by decide) fun A s2 m2 => ?_
  have e2 := m2.eq
  have n2 := m2.n
  have hix : aindexAddr P 32 (.slice (some ⟨A, 0, none⟩) (Int.toNat 176) (Int.toNat 176)) (.int .i64 4) = some (.pointer (some ⟨A, 4, none⟩)) := by
    simp only [aindexAddr, un_32, isz_5, Option.bind_some, aplace]
    rfl
  rw [wop_indexAddr, hix, wopt_some]
  refine store1_rule isz_5 m2.here m2.wf (by omega) (by rw [zeroList_len]; decide) rfl fun s3 p3 => ?_
  have n3 := p3.n
  have g3 : Grew s1 s3 := p3.grew _ w1 m2.grew (by omega)
  have g03 := g1.trans g3
  have hF3 := hF1.grew g3
  have hA3 := p3.here
  have hb3 : Bys s3 (.slice (some ⟨A, 0, none⟩) 176 176) (tinyB 4 7) := tinyS_bytes A hA3 (by decide)
  have hAl := St.at_lt hA3
  rw [wTiny p3.wf (by omega)]
  refine wDecode tinyS (tinyB_ok 4 (by decide)) (by rw [tinyB_len]; decide) hb3 (fun A' o sp n c e => by cases e; exact hAl) p3.wf (by omega) hF3 (fun h => by rw [hv] at h; cases h) (fun _ h => absurd (by rw [show tinyS.f = 0 from rfl, tiny_dec]) h) fun _ _ _ cs B s4 W g4 _ hW hWB hp => ?_
  have n4 := g4.n
  have w4 := p3.wf.grew g4
  have hcl : cs.length = 8 := hp.cl
  simp (maxSteps := 10000000) only [wW, reduceCtorEq, Nat.reduceEqDiff, List.getElem?_cons_zero, List.getElem?_cons_succ]
  refine alloc_rule ty_39 w4 fun Z s5 m5 => ?_
  have e5 := m5.eq
  have n5 := m5.n
  refine storeAll_rule isz_39 m5.here (l := cs) hcl (by decide) m5.wf (by omega) rfl hp.one fun s6 p6 => ?_
  have n6 := p6.n
  have g46 : Grew s4 s6 := p6.grew _ w4 m5.grew (by omega)
  have g36 := g4.trans g46
  have hF6 := hF3.grew g36
  have hp6 := hp.grew g46
  rw [wop_load, load_all ap_39 p6.here hcl, wopt_some]
  refine ⟨hp.veq, ?_⟩
  rw [wTiny p6.wf (by omega)]
  refine ⟨.refl _, ?_⟩
  refine wEncOk (h := tinyS) (g := tinyG) hv hp6 hcl (gone_len hv _) tiny_fits p6.wf (by omega) hF6 fun A7 s7 g7 hA7 hb7 => ?_
  rw [tiny_enc, tinyB_len] at hb7 ⊢
  have n7 := g7.n
  have g37 := g36.trans g7
  simp (maxSteps := 10000000) only [wW, reduceCtorEq, Nat.reduceEqDiff, List.getElem?_cons_zero, List.getElem?_cons_succ]
  obtain ⟨v0, v1, v2, v5, x3, x6, hcs, hV, _⟩ := (hp6.grew g7).list
  have hZ7 : s7.at Z = some (.cells cs 39 false) := (g7.same Z (St.at_lt p6.here)).trans p6.here
  have hv0 : cs[0]? = some v0 := by rw [hcs]; rfl
  have hld0 : aload P s7 33 (.pointer (some ⟨Z, 0, none⟩)) = some v0 := by rw [load1 ap_33, acells_some hZ7]; exact hv0
  have hdig : (goneG (tinyB 4 7) (partsR tinyS)).2 1 0 0 = [0, 7, 0, 0] := tiny_dig
  rw [hdig] at hV
  obtain ⟨m, hm, hSl, _⟩ := hV
  have hm2 : m = 2 := by simp at hm; omega
  subst hm2
  obtain ⟨pd, i1, i2⟩ := hSl.dig (i := 0) rfl (by decide)
  have i1' : aindexAddr P 33 v0 (.int .i64 0) = some pd := i1
  rw [fa_39_0, wopt_some, wop_load, hld0, wopt_some, Sl.wlen hSl se_33]
  simp (maxSteps := 10000000) only [wW, reduceCtorEq, Nat.reduceEqDiff]
  rw [if_pos (by decide), wop_load, hld0, wopt_some, wop_indexAddr, i1', wopt_some, wop_load, i2, wopt_some, bldD7, wopt_some]
  have hb3' : Bys s7 (.slice (some ⟨A, 0, none⟩) 176 176) (tinyB 4 7) := Sl.grew hb3 g37.same
  show wop P ro (.binOp .eql 55 (.const (.agg (.mk (([0, 7] : List Int).map (.int .u64))))) (.const (.agg (.mk (([0, 7] : List Int).map (.int .u64))))) _) _ _ _
  rw [eqlDig _ _ rfl rfl, decide_eq_true rfl]
  simp (maxSteps := 10000000) only [wW, reduceCtorEq, Nat.reduceEqDiff]
  rw [show Int.toNat 176 = 176 from rfl, conv_str hb3', conv_str hb7, eql_bytes]
  exact fin_flat rfl (g03.trans g37) ⟨rfl, rfl⟩
end
end Go.VE
/- ProofKnown: what is looked at, the last part. -/
namespace Go.VE
open Go Go.Proofs
set_option maxRecDepth 20000
def sumTo (f : Nat → Nat) : Nat → Nat
  | 0 => 0
  | n + 1 => sumTo f n + f n
theorem sumN_app : ∀ a b : List Prt, sumN (a ++ b) = sumN a + sumN b
  | [], b => by simp [sumN]
  | x :: a, b => by
    have := sumN_app a b
    simp only [List.cons_append, sumN]
    omega
theorem sumN_it {g : Nat → List Prt → List Prt} {f : Nat → Nat} (hg : ∀ i l, sumN (g i l) = sumN l + f i) : ∀ (n : Nat) (l : List Prt), sumN (it g n l) = sumN l + sumTo f n
  | 0, l => rfl
  | n + 1, l => by
    have ih := sumN_it hg n l
    show sumN (g n (it g n l)) = _
    rw [hg, ih]
    simp only [sumTo]
    omega
theorem sumTo_const (c : Nat) : ∀ n, sumTo (fun _ => c) n = n * c
  | 0 => by simp [sumTo]
  | n + 1 => by
    simp only [sumTo, sumTo_const c n, Nat.add_mul, Nat.one_mul]
def perQ (h : Shp) : Nat := sumTo (fun i => sumN (al8 h 0 i [])) 6 + sumTo (fun i => sumN (al9 h 0 i [])) 6 + sumTo (fun i => sumN (alB h 0 i [])) (shR h).toNat
theorem sumN_alQ (h : Shp) (j : Nat) (l : List Prt) : sumN (alQ h j l) = sumN l + perQ h := by
  unfold alQ perQ
  rw [sumN_it (f := fun i => sumN (alB h 0 i [])) (fun i l => by simp only [alB, sumN_app, sumN]; omega), sumN_it (f := fun i => sumN (al9 h 0 i [])) (fun i l => by simp only [al9, sumN_app, sumN]; omega), sumN_it (f := fun i => sumN (al8 h 0 i [])) (fun i l => by simp only [al8, sumN_app, sumN]; omega)]
  omega
theorem sumN_all (h : Shp) : sumN (partsAll h) = sumN (midA h) + h.q.toNat * perQ h := by
  unfold partsAll
  rw [sumN_it (f := fun _ => perQ h) (sumN_alQ h), sumTo_const]
theorem size_all {h : Shp} (hv : shV h = true) : sizeM h = 4 * (sumN (midA h) + h.q.toNat * perQ h : Nat) := by
  rw [size_sum hv, ← partsAll_keep hv, sumN_keep, sumN_all]
end Go.VE
/- ProofKnown. -/
namespace Go.VE
open Go Go.Proofs
set_option maxRecDepth 20000
section
variable {ro : Nat} {s : St} {K : Value → St → Prop}
end
end Go.VE
/- The parts of a proof in bytes: what is read is what was written (plain law). -/
namespace Go.VE
open Go Go.Proofs
set_option maxRecDepth 20000
def keyP (x : Prt) : Nat × Nat × Nat := (x.k.toNat, x.q.toNat, x.i.toNat)
def rkP : Nat × Nat × Nat → Nat
  | (k, q, i) => if k ≤ 7 then k * 1000 + i else 10000 * (q + 1) + (if k = 8 then i else if k = 9 then 10 + i else if k = 10 then 100 + 2 * i else 101 + 2 * i)
def Srt (l : List Prt) (m : Nat) : Prop := l.Pairwise (fun x y => rkP (keyP x) < rkP (keyP y)) ∧ ∀ x ∈ l, rkP (keyP x) < m
theorem Srt.le {l : List Prt} {m m' : Nat} (h : Srt l m) (hm : m ≤ m') : Srt l m' := ⟨h.1, fun x hx => Nat.lt_of_lt_of_le (h.2 x hx) hm⟩
theorem Srt.snoc {l : List Prt} {m m' : Nat} {x : Prt} (h : Srt l m) (h1 : m ≤ rkP (keyP x)) (h2 : rkP (keyP x) < m') : Srt (l ++ [x]) m' := by
  refine ⟨List.pairwise_append.2 ⟨h.1, List.pairwise_singleton _ _, fun a ha b hb => ?_⟩, fun y hy => ?_⟩
  · simp only [List.mem_cons, List.not_mem_nil, or_false] at hb
    subst hb
    exact Nat.lt_of_lt_of_le (h.2 a ha) h1
  · rcases List.mem_append.1 hy with hy | hy
    · have := h.2 y hy; omega
    · simp only [List.mem_cons, List.not_mem_nil, or_false] at hy
      subst hy; exact h2
theorem it_srt {g : Nat → List Prt → List Prt} {f : Nat → Nat} : ∀ (n : Nat) {l : List Prt}, Srt l (f 0) → (∀ i, i < n → ∀ l, Srt l (f i) → Srt (g i l) (f (i + 1))) → Srt (it g n l) (f n)
  | 0, _, h, _ => h
  | n + 1, l, h, hg => hg n (by omega) _ (it_srt n h fun i hi => hg i (by omega))
theorem partsAll_srt {h : Shp} (hv : shV h = true) : ∃ m, Srt (partsAll h) m := by
  unfold shV inR at hv
  simp only [Bool.and_eq_true, decide_eq_true_eq] at hv
  have hR : (shR h).toNat ≤ 4 := by unfold shR; omega
  have hpre : Srt (preA h) 5000 := by
    have h0 : Srt [] 0 := ⟨List.Pairwise.nil, fun x hx => by cases hx⟩
    have h1 := h0.snoc (x := ⟨1, 0, 0, 2 * shC h (h.a + h.b)⟩) (m' := 1001) (Nat.zero_le _) (by decide : rkP (1, 0, 0) < 1001)
    have h2 := h1.snoc (x := ⟨2, 0, 0, 1⟩) (m' := 2001) (by decide : 1001 ≤ rkP (2, 0, 0)) (by decide : rkP (2, 0, 0) < 2001)
    have h3 := h2.snoc (x := ⟨3, 0, 0, if h.w = 0 then 0 else 2 * shC h (h.a + h.b)⟩) (m' := 3001) (by decide : 2001 ≤ rkP (3, 0, 0)) (by decide : rkP (3, 0, 0) < 3001)
    exact h3.snoc (x := ⟨4, 0, 0, 2 * shC h (h.a + h.b)⟩) (m' := 5000) (by decide : 3001 ≤ rkP (4, 0, 0)) (by decide : rkP (4, 0, 0) < 5000)
  have hA : Srt (it (alA h) (shR h).toNat (preA h)) (5000 + (shR h).toNat) := it_srt (f := fun i => 5000 + i) _ hpre fun i hi l hl => by
    have e : rkP (keyP ⟨5, 0, (i : Nat), 2 * shC h (shH h i)⟩) = 5000 + i := rfl
    exact hl.snoc (by rw [e]; exact Nat.le_refl _) (by rw [e]; exact Nat.lt_succ_self _)
  have hmid : Srt (midA h) 10000 := by
    have h6 := hA.snoc (x := ⟨6, 0, 0, 2 ^ (h.a - 3 * shR h).toNat⟩) (m' := 6001) (by show 5000 + (shR h).toNat ≤ 6000; omega) (by decide : rkP (6, 0, 0) < 6001)
    have h7 := h6.snoc (x := ⟨7, 0, 0, 1⟩) (m' := 10000) (by decide : 6001 ≤ rkP (7, 0, 0)) (by decide : rkP (7, 0, 0) < 10000)
    unfold midA
    rw [List.append_assoc] at h7
    exact h7
  refine ⟨_, it_srt (f := fun j => 10000 * (j + 1)) h.q.toNat hmid fun j hj l hl => ?_⟩
  have h8 : Srt (it (al8 h j) 6 l) (10000 * (j + 1) + 6) := it_srt (f := fun i => 10000 * (j + 1) + i) _ hl fun i hi l hl => by
    have e : rkP (keyP ⟨8, j, (i : Nat), colAt h i⟩) = 10000 * (j + 1) + i := rfl
    exact hl.snoc (by rw [e]; exact Nat.le_refl _) (by rw [e]; exact Nat.lt_succ_self _)
  have h9 : Srt (it (al9 h j) 6 (it (al8 h j) 6 l)) (10000 * (j + 1) + (10 + 6)) := it_srt (f := fun i => 10000 * (j + 1) + (10 + i)) _ (h8.le (by omega)) fun i hi l hl => by
    have e : rkP (keyP ⟨9, j, (i : Nat), if colAt h i = 0 then 0 else 2 * shP h (h.a + h.b)⟩) = 10000 * (j + 1) + (10 + i) := rfl
    exact hl.snoc (by rw [e]; exact Nat.le_refl _) (by rw [e]; omega)
  have hB : Srt (alQ h j l) (10000 * (j + 1) + (100 + 2 * (shR h).toNat)) := it_srt (f := fun i => 10000 * (j + 1) + (100 + 2 * i)) _ (h9.le (by omega)) fun i hi l hl => by
    have e : rkP (keyP ⟨10, j, (i : Nat), 8⟩) = 10000 * (j + 1) + (100 + 2 * i) := rfl
    have e2 : rkP (keyP ⟨11, j, (i : Nat), 2 * shP h (shH h i)⟩) = 10000 * (j + 1) + (101 + 2 * i) := rfl
    have h1 := hl.snoc (x := ⟨10, j, (i : Nat), 8⟩) (m' := 10000 * (j + 1) + (101 + 2 * i)) (by rw [e]; exact Nat.le_refl _) (by rw [e]; omega)
    have h2 := h1.snoc (x := ⟨11, j, (i : Nat), 2 * shP h (shH h i)⟩) (m' := 10000 * (j + 1) + (100 + 2 * (i + 1))) (by rw [e2]; exact Nat.le_refl _) (by rw [e2]; omega)
    rw [List.append_assoc] at h2
    exact h2
  exact hB.le (by omega)
theorem goneG_at {b : List Int} {l : List Prt} (hs : l.Pairwise fun x y => rkP (keyP x) < rkP (keyP y)) : ∀ n, n ≤ l.length →
    (goneG b (l.take n)).1 = sumN (l.take n) ∧ (∀ j (hj : j < n) (hl : j < l.length), (goneG b (l.take n)).2 l[j].k.toNat l[j].q.toNat l[j].i.toNat = numsB b (sumN (l.take j)) l[j].n.toNat) ∧
      (∀ k q i, (∀ x ∈ l.take n, keyP x ≠ (k, q, i)) → (goneG b (l.take n)).2 k q i = g0 k q i)
  | 0, _ => ⟨rfl, fun j hj => by omega, fun k q i _ => rfl⟩
  | n + 1, hn => by
    obtain ⟨h1, h2, h3⟩ := goneG_at hs n (by omega)
    have hlt : n < l.length := by omega
    have ht := take_succ_eq (List.getElem?_eq_getElem hlt)
    have e1 : (goneG b (l.take (n + 1))).1 = (goneG b (l.take n)).1 + l[n].n.toNat := by rw [ht, goneG_snoc]; rfl
    have e2 : (goneG b (l.take (n + 1))).2 = updG (goneG b (l.take n)).2 l[n].k.toNat l[n].q.toNat l[n].i.toNat (numsB b (goneG b (l.take n)).1 l[n].n.toNat) := by rw [ht, goneG_snoc]; rfl
    refine ⟨?_, fun j hj hl => ?_, fun k q i hne => ?_⟩
    · rw [e1, h1, ht, sumN_app]; rfl
    · rw [e2]
      by_cases hjn : j = n
      · subst hjn
        unfold updG
        rw [if_pos ⟨rfl, rfl, rfl⟩, h1]
      · unfold updG
        rw [if_neg ?_]
        · exact h2 j (by omega) hl
        · rintro ⟨a, b', c⟩
          have hp := List.pairwise_iff_getElem.1 hs j n hl hlt (by omega)
          have hk : keyP l[j] = keyP l[n] := by unfold keyP; rw [a, b', c]
          rw [hk] at hp
          omega
    · rw [e2]
      unfold updG
      rw [if_neg ?_]
      · exact h3 k q i fun x hx => hne x (by rw [ht]; exact List.mem_append_left _ hx)
      · rintro ⟨rfl, rfl, rfl⟩
        exact hne l[n] (by rw [ht]; exact List.mem_append_right _ List.mem_cons_self) rfl
theorem goneG_1 (b : List Int) : ∀ (l : List Prt), (goneG b l).1 = sumN l := fun l => by
  have main : ∀ (l : List Prt) (kg : Nat × (Nat → Nat → Nat → List Int)), (l.foldl (stepG b) kg).1 = kg.1 + sumN l := by
    intro l
    induction l with
    | nil => intro kg; rfl
    | cons x l ih =>
      intro kg
      rw [List.foldl_cons, ih]
      show kg.1 + x.n.toNat + sumN l = kg.1 + (x.n.toNat + sumN l)
      omega
  unfold goneG
  rw [main]
  show 0 + _ = _
  omega
theorem leB_eq (x : Int) (j : Nat) (hj : j < 8) : leB x j = x / 2 ^ (8 * j) % 256 := by
  unfold leB
  rw [wrap_u8_mod, show min (8 * j) 64 = 8 * j by omega, Int.fdiv_eq_ediv_of_nonneg _ (Int.le_of_lt (Int.pow_pos (by decide)))]
theorem leB_sum {x : Int} (h0 : 0 ≤ x) (h1 : x < 2 ^ 32) : leB x 0 + leB x 1 * 2 ^ 8 + leB x 2 * 2 ^ 16 + leB x 3 * 2 ^ 24 = x := by
  rw [leB_eq _ _ (by decide), leB_eq _ _ (by decide), leB_eq _ _ (by decide), leB_eq _ _ (by decide)]
  simp only [Nat.mul_zero, Nat.reduceMul, Int.reducePow]
  omega
theorem leB_ok (x : Int) (j : Nat) : 0 ≤ leB x j ∧ leB x j < 256 := by
  unfold leB
  rw [wrap_u8_mod]
  omega
theorem encL_ok (l : List Int) : ∀ y ∈ encL l, 0 ≤ y ∧ y < 256 := fun y hy => by
  unfold encL leN at hy
  obtain ⟨x, _, hy⟩ := List.mem_flatMap.1 hy
  obtain ⟨j, _, rfl⟩ := List.mem_map.1 hy
  exact leB_ok x j
theorem encL_get : ∀ (l : List Int) {k i : Nat} (hk : k < l.length) (_ : i < 4), (encL l)[4 * k + i]? = some (leB l[k] i)
  | [], k, i, hk, _ => by simp at hk
  | x :: l, 0, i, _, hi => by
    show (leN x 4 ++ encL l)[4 * 0 + i]? = _
    rw [List.getElem?_append_left (by rw [leN_len]; omega)]
    unfold leN
    rw [List.getElem?_map, List.getElem?_range (by omega), Option.map_some]
    simp
  | x :: l, k + 1, i, hk, hi => by
    show (leN x 4 ++ encL l)[4 * (k + 1) + i]? = _
    rw [List.getElem?_append_right (by rw [leN_len]; omega), leN_len, show 4 * (k + 1) + i - 4 = 4 * k + i by omega]
    exact encL_get l (by simpa using hk) hi
theorem numAt_enc {ys : List Int} {k : Nat} (hk : k < ys.length) (h0 : 0 ≤ ys[k]) (h1 : ys[k] < 2 ^ 32) : numAt (encL ys) k = ys[k] := by
  have hb : ∀ i, i < 4 → byt (encL ys) (4 * k + i) = leB ys[k] i := fun i hi => by
    unfold byt
    rw [encL_get ys hk hi]; rfl
  unfold numAt
  simp only [accB]
  rw [hb 0 (by decide), hb 1 (by decide), hb 2 (by decide), hb 3 (by decide)]
  have := leB_sum h0 h1
  simp only [Nat.mul_zero, Nat.reduceMul, Int.reducePow] at this ⊢
  omega
theorem dec_enc {ys : List Int} {p : Int} (hp : p ≤ 2 ^ 32) (h : ∀ y ∈ ys, 0 ≤ y ∧ y < p) : decE (encL ys) p ys.length = (0, 0) := by
  have hn : errF (encL ys) p ys.length 0 = none := errF_none fun j _ hj => by
    have hj : j < ys.length := by omega
    have hy := h ys[j] (List.getElem_mem hj)
    unfold rdE
    rw [encL_len, if_neg (by omega), numAt_enc hj hy.1 (by omega), if_neg (by omega)]
  unfold decE
  rw [hn]
  simp only
  rw [encL_len, if_neg (by omega)]
end Go.VE
/- What is read fits, and is written as it was (plain law). -/
namespace Go.VE
open Go Go.Proofs
set_option maxRecDepth 20000
section
variable {h : Shp}
theorem partsR_srt (hv : shV h = true) : (partsR h).Pairwise fun x y => rkP (keyP x) < rkP (keyP y) := by
  obtain ⟨m, hs, _⟩ := partsAll_srt hv
  rw [← partsAll_keep hv]
  exact hs.filter _
theorem partsAll_key (hv : shV h = true) {x y : Prt} (hx : x ∈ partsAll h) (hy : y ∈ partsAll h) (he : keyP x = keyP y) : x = y := by
  obtain ⟨m, hs, _⟩ := partsAll_srt hv
  obtain ⟨i, hi, rfl⟩ := List.getElem_of_mem hx
  obtain ⟨j, hj, rfl⟩ := List.getElem_of_mem hy
  have hp := List.pairwise_iff_getElem.1 hs
  by_cases h1 : i < j
  · have := hp i j hi hj h1
    rw [he] at this
    omega
  · by_cases h2 : j < i
    · have := hp j i hj hi h2
      rw [he] at this
      omega
    · have e : i = j := by omega
      subst e
      rfl
theorem gone_part (hv : shV h = true) (b : List Int) : (∀ j (hj : j < (partsR h).length), gOf (goneG b (partsR h)).2 (partsR h)[j] = numsB b (sumN ((partsR h).take j)) (partsR h)[j].n.toNat) ∧ (∀ x ∈ partsAll h, x.n = 0 → gOf (goneG b (partsR h)).2 x = []) := by
  obtain ⟨_, h2, h3⟩ := goneG_at (b := b) (partsR_srt hv) _ (Nat.le_refl _)
  rw [List.take_length] at h2 h3
  refine ⟨fun j hj => h2 j hj hj, fun x hx h0 => ?_⟩
  obtain ⟨k, q, i, n, hxe, ok, _, hln⟩ := partsAll_ok hv x hx
  have hne : ∀ y ∈ partsR h, keyP y ≠ (x.k.toNat, x.q.toNat, x.i.toNat) := fun y hy he => by
    rw [← partsAll_keep hv] at hy
    obtain ⟨hy1, hy2⟩ := List.mem_filter.1 hy
    have := partsAll_key hv hy1 hx he
    subst this
    simp [h0] at hy2
  show (goneG b (partsR h)).2 x.k.toNat x.q.toNat x.i.toNat = []
  rw [h3 _ _ _ hne]
  have hk : x.k.toNat = k := by rw [hxe]; rfl
  have hn : n = 0 := by
    rw [hxe] at h0
    have : (n : Int) = 0 := h0
    omega
  subst hn
  rw [hk]
  unfold lenN at hln
  unfold g0
  by_cases h27 : k = 2 ∨ k = 7
  · rw [if_pos h27] at hln; omega
  · by_cases h10 : k = 10
    · rw [if_neg h27, if_pos h10] at hln; omega
    · rw [if_neg h27, if_neg h10]
theorem sumN_mem : ∀ {l : List Prt} {x : Prt}, x ∈ l → x.n.toNat ≤ sumN l
  | [], x, h => by cases h
  | y :: l, x, h => by
    simp only [sumN]
    rcases List.mem_cons.1 h with rfl | h
    · omega
    · have := sumN_mem h; omega
theorem size_pos (hv : shV h = true) : 0 < sumN (partsR h) := by
  have h1 : (⟨2, 0, 0, 1⟩ : Prt) ∈ partsAll h := by
    unfold partsAll midA
    refine it_mem (fun i l hl => ?_) (List.mem_append_left _ (it_mem (fun i l hl => List.mem_append_left _ hl) (by simp [preA]) _)) _
    unfold alQ
    exact it_mem (fun i l hl => List.mem_append_left _ hl) (it_mem (fun i l hl => List.mem_append_left _ hl) (it_mem (fun i l hl => List.mem_append_left _ hl) hl _) _) _
  have h2 : (⟨2, 0, 0, 1⟩ : Prt) ∈ partsR h := by
    rw [← partsAll_keep hv]
    exact List.mem_filter.2 ⟨h1, by decide⟩
  have := sumN_mem h2
  have e : (⟨2, 0, 0, 1⟩ : Prt).n.toNat = 1 := rfl
  omega
end
end Go.VE
/- attestorlaw17.bytes. -/
namespace Go.VE
open Go Go.Proofs
set_option maxRecDepth 20000
def sdN (x : Int) : Nat → Int
  | 0 => x
  | i + 1 => IntKind.u64.wrap (IntKind.u64.wrap (sdN x i * 6364136223846793005) + 1442695040888963407)
def rndN (p x : Int) (i : Nat) : Int := ((sdN x (i + 1)).fdiv (2 ^ min 33 64)).tmod p
def rnds (p x : Int) (n : Nat) : List Int := (List.range n).map (rndN p x)
theorem rnds_len (p x : Int) (n : Nat) : (rnds p x n).length = n := by unfold rnds; simp
theorem rnds_succ (p x : Int) (n : Nat) : rnds p x (n + 1) = rnds p x n ++ [rndN p x n] := by unfold rnds; rw [List.range_succ, List.map_append]; rfl
theorem rnds_ok {p : Int} (hp : 0 < p) (x : Int) (n : Nat) : ∀ y ∈ rnds p x n, 0 ≤ y ∧ y < p := fun y hy => by
  unfold rnds at hy
  obtain ⟨i, _, rfl⟩ := List.mem_map.1 hy
  have h0 : 0 ≤ sdN x (i + 1) := by
    show 0 ≤ IntKind.u64.wrap _
    rw [wrap_u64_mod]
    omega
  have h1 : 0 ≤ (sdN x (i + 1)).fdiv (2 ^ min 33 64) := by
    rw [Int.fdiv_eq_ediv_of_nonneg _ (by decide)]
    exact Int.ediv_nonneg h0 (by decide)
  unfold rndN
  exact ⟨Int.tmod_nonneg _ h1, Int.tmod_lt_of_pos _ hp⟩
section
variable {ro : Nat} {s : St} {K : Value → St → Prop}
theorem append_inBN {A m c n : Nat} {cs : List Value} {x : Value} {ys : List Value} (hA : s.at A = some (.cells cs 5 false)) (hw : Wf s) (hro : ro ≤ A) (hx : Sl s x 1 n ys) (hn : 0 < n) (h1 : ys.all (·.oneCell') = true) (hm : m + n ≤ c) (hc : cs.length = c) {ty : TypeId}
    (hk : ∀ s', Put s A (.cells (splice cs m ys) 5 false) s' → K (.slice (some ⟨A, 0, none⟩) (m + n) c) s') : wop P ro (.call ⟨.builtin .append, ⟨[.const (.slice (some ⟨A, 0, none⟩) m c), .const x]⟩, #[32, 32]⟩) ty s K := by
  obtain ⟨i, hi, his, hib, hz, hf, hzs⟩ := tyOk_spec ty_5
  obtain ⟨ha, hfst⟩ := hx.first
  have hyl := hx.len
  rw [wop_append]
  have e1 : aappend P ro s #[32, 32] [.slice (some ⟨A, 0, none⟩) m c, x] = some (.slice (some ⟨A, 0, none⟩) (m + n) c, s.put A (.cells (splice cs m ys) 5 false)) := by
    have hni : notInt P 32 = true := by kernel_rfl
    simp only [aappend, se_32, hni, hi, ha, his, hfst, Option.bind_some, aappendTo]
    rw [if_pos hm, Nat.zero_add, Nat.mul_one, awrite_some hA hro (by omega) (by omega) h1]
    rfl
  rw [e1]
  exact hk _ (.mk' hw (St.at_lt hA) _)
theorem wBytes {n N : Nat} (hn : n = 4 * N) (hn2 : n ≤ 2 ^ 36) {p x : Int} (hp : 0 < p) (hw : Wf s) (hro : ro ≤ s.n)
    (hk : ∀ A s', Grew s s' → s.n ≤ A → s'.at A = some (.cells ((encL (rnds p x N)).map (.int .u8)) 5 false) → K (.slice (some ⟨A, 0, none⟩) n n) s') :
    CallWP P ro 20 [.int .i64 n, .int .u64 p, .int .u64 x] s K := by
  refine call_wp b20 rfl ?_
  rw [n20]
  unfold v20
  simp (maxSteps := 10000000) only [wW, reduceCtorEq, Nat.reduceEqDiff]
  have hn0 : (ent s).n = s.n := rfl
  refine makeLC_rule se_32 ty_5 hw.ent (by decide) (by omega) (by omega) (by decide) fun A s1 m1 => ?_
  have e1 := m1.eq
  have n1 := m1.n
  rw [Int.toNat_natCast] at m1 ⊢
  refine wloop l20_11000 m20_11000 (fun (i : Nat) τ ds s' => i ≤ N ∧ τ 0 = .int .i64 n ∧ τ 1 = .int .u64 p ∧ τ 2 = .int .u64 (sdN x i) ∧ τ 7 = .slice (some ⟨A, 0, none⟩) (4 * i) n ∧ ds = [] ∧ Wf s' ∧ Grew (ent s) s' ∧ ∃ c, s'.at A = some (.cells c 5 false) ∧ c.length = n ∧ c.take (4 * i) = (encL (rnds p x i)).map (.int .u8)) (fun i => N - i) ?_ 0 ⟨by omega, ?_, ?_, ?_, ?_, rfl, m1.wf, m1.grew, _, m1.here, by rw [zeroList_len, Nat.mul_one], by simp [rnds, encL]⟩
  · rintro i τ ds s' ⟨hi, t0, t1, t2, t7, rfl, w', g', c, hA, hcl, hct⟩
    rw [n20_11000]
    unfold v20_11000
    have hAl := St.at_lt hA
    have gn := g'.n
    simp (maxSteps := 10000000) only [wW, reduceCtorEq, Nat.reduceEqDiff, t0, t1, t2, t7, wop_len se_32]
    rw [wrap_i64 (by omega) (by omega)]
    by_cases hlt : i < N
    · rw [if_pos (by omega)]
      have hsh : ∀ (y : Int) (k : Nat), k ≤ 64 → abinInt P .shr .u64 y .u64 (k : Int) = some (.int .u64 (y.fdiv (2 ^ min k 64))) := fun y k _ => by
        rw [int_shr _ _ _ _ (by omega), Int.toNat_natCast]; rfl
      have h33 : ∀ y : Int, abinInt P .shr .u64 y .u64 33 = some (.int .u64 (y.fdiv (2 ^ min 33 64))) := fun y => hsh y 33 (by decide)
      have h8 : ∀ y : Int, abinInt P .shr .u64 y .u64 8 = some (.int .u64 (y.fdiv (2 ^ min (8 * 1) 64))) := fun y => hsh y 8 (by decide)
      have h16 : ∀ y : Int, abinInt P .shr .u64 y .u64 16 = some (.int .u64 (y.fdiv (2 ^ min (8 * 2) 64))) := fun y => hsh y 16 (by decide)
      have h24 : ∀ y : Int, abinInt P .shr .u64 y .u64 24 = some (.int .u64 (y.fdiv (2 ^ min (8 * 3) 64))) := fun y => hsh y 24 (by decide)
      have hr : ((IntKind.u64.wrap (IntKind.u64.wrap (sdN x i * 6364136223846793005) + 1442695040888963407)).fdiv (2 ^ min 33 64)).tmod p = rndN p x i := rfl
      have hl0 : IntKind.u8.wrap (rndN p x i) = leB (rndN p x i) 0 := by
        unfold leB
        rw [show (2 : Int) ^ min (8 * 0) 64 = 1 from rfl, Int.fdiv_one]
      have hl : ∀ j, IntKind.u8.wrap ((rndN p x i).fdiv (2 ^ min (8 * j) 64)) = leB (rndN p x i) j := fun j => rfl
      rw [h33, wopt_some, wop_int, int_rem keq_u64 _ _ (by omega), wopt_some, hr, conv_u64_u8, wop_int, h8, wopt_some, conv_u64_u8, wop_int, h16, wopt_some, conv_u64_u8, wop_int, h24, wopt_some, conv_u64_u8, hl0, hl, hl, hl]
      refine buildSlice_rule se_32 ty_5 w' ((leN (rndN p x i) 4).map (.int .u8)) rfl rfl (by decide) (fun v hv => by
        obtain ⟨z, _, rfl⟩ := List.mem_map.1 hv
        rfl) fun A6 s6 m6 => ?_
      have n6 := m6.n
      have e6 := m6.eq
      have x6 : Sl s6 (.slice (some ⟨A6, 0, none⟩) 4 4) 1 4 ((leN (rndN p x i) 4).map (.int .u8)) := m6.sl rfl
      refine append_inBN ((m6.grew.same A hAl).trans hA) m6.wf (by omega) x6 (by decide) rfl (by omega) hcl fun s7 p7 => ?_
      have hst : encL (rnds p x (i + 1)) = encL (rnds p x i) ++ leN (rndN p x i) 4 := by rw [rnds_succ, encL_snoc]
      refine ⟨i + 1, by omega, by omega, ?_, ?_, ?_, ?_, by first | trivial | rfl, p7.wf, p7.grew _ hw.ent (g'.trans m6.grew) (by omega), _, p7.here, ?_, ?_⟩
      · simp only [U, tset_eq, wW, reduceCtorEq, Nat.reduceEqDiff, t0]
      · simp only [U, tset_eq, wW, reduceCtorEq, Nat.reduceEqDiff, t1]
      · simp only [U, tset_eq, wW, reduceCtorEq, Nat.reduceEqDiff]; rfl
      · simp only [U, tset_eq, wW, reduceCtorEq, Nat.reduceEqDiff]
        rw [Nat.mul_succ]
      · rw [splice_length (by rw [List.length_map, leN_len]; omega)]; exact hcl
      · have := splice_front (c := c) (l := (leN (rndN p x i) 4).map (.int .u8)) (m := 4 * i) (by rw [List.length_map, leN_len]; omega)
        rw [List.length_map, leN_len, hct, ← List.map_append, ← hst] at this
        exact this
    · obtain rfl : i = N := by omega
      rw [if_neg (by omega)]
      have hc : c = (encL (rnds p x i)).map (.int .u8) := by
        rw [← hct, List.take_of_length_le (by omega)]
      subst hc
      simp (maxSteps := 10000000) only [U, tset_eq, wW, reduceCtorEq, Nat.reduceEqDiff, t7]
      refine wfin_new hw g' rfl fun s9 g9 hn9 hat9 => ?_
      rw [← hn]
      exact hk A s9 g9 (by omega) ((hat9 A).trans hA)
  · simp only [U, tset_eq, wW, reduceCtorEq, Nat.reduceEqDiff]
  · simp only [U, tset_eq, wW, reduceCtorEq, Nat.reduceEqDiff]
  · simp only [U, tset_eq, wW, reduceCtorEq, Nat.reduceEqDiff]; rfl
  · simp only [U, tset_eq, wW, reduceCtorEq, Nat.reduceEqDiff]; rfl
end
end Go.VE
/- ProofRound. -/
namespace Go.VE
open Go Go.Proofs
set_option maxRecDepth 20000
theorem fP_bd (f : Int) : 0 ≤ fP f ∧ fP f ≤ 2 ^ 32 := by
  unfold fP
  repeat' split
  all_goals decide
theorem shV_f {h : Shp} (hv : shV h = true) : fV h.f = true := by
  unfold shV at hv
  simp only [Bool.and_eq_true] at hv
  exact hv.1.1.1.1.1.1.1.1.1
section
variable {ro : Nat} {s : St} {K : Value → St → Prop} {h : Shp}
theorem bys_of {A : Nat} {l : List Int} (hA : s.at A = some (.cells (l.map (.int .u8)) 5 false)) {n : Nat} (hn : l.length = n) : Bys s (.slice (some ⟨A, 0, none⟩) n n) l := by
  unfold Bys
  rw [hn]
  refine ⟨_, _, rfl, by rw [List.length_map, hn, Nat.mul_one], ⟨Nat.le_refl _, fun h => (by cases h), fun x hx => by cases hx; exact .inl rfl⟩, fun _ => ⟨A, 0, none, _, _, _, rfl, rfl, hA, ?_⟩⟩
  rw [List.drop_zero]
  exact List.take_of_length_le (by rw [List.length_map]; omega)
theorem wDecodeY (hv : shV h = true) {ys : List Int} {u : Value} (hN : ys.length = sumN (partsR h)) (hy : ∀ y ∈ ys, 0 ≤ y ∧ y < fP h.f) (hu : Bys s u (encL ys)) (huA : ∀ A o sp n c, u = .slice (some ⟨A, o, sp⟩) n c → A < s.n) (hw : Wf s) (hro : ro ≤ s.n) (hF : FieldsAt s)
    (hk : ∀ cs B s' W, Grew s s' → (∀ A, W A → A < s'.n) → (∀ A, A < s.n → W A) → (s.n ≤ B.rb ∧ s.n ≤ B.ob ∧ ∀ j, j < h.q.toNat → s.n ≤ B.fb j) → PfAt s' W cs B (shR h).toNat h.q.toNat (goneG (encL ys) (partsR h)).2 → K (.tuple (.mk [.agg (.mk cs), .int .i64 0, .int .i64 0])) s') :
    CallWP P ro 17 [.agg (.mk h.cells), u] s K := by
  have hb := size_bound hv
  have hd : decE (encL ys) (fP h.f) (goneG (encL ys) (partsR h)).1 = (0, 0) := by
    rw [goneG_1, ← hN]
    exact dec_enc (fP_bd h.f).2 hy
  refine wDecode h (encL_ok ys) (by rw [encL_len]; omega) hu huA hw hro hF (fun h => by rw [hv] at h; cases h) (fun _ h => absurd (by rw [hd]) h) fun _ _ _ cs B s' W g1 hW1 hW2 hWB hp => hk cs B s' W g1 hW1 hW2 hWB hp
end
end Go.VE
/- ProofRound at every start. -/
namespace Go.VE
open Go Go.Proofs
set_option maxRecDepth 20000
theorem pr_args {al : List Value} {s : St} (h : Args P 8 [23, 34] al s) : ∃ (h : Shp) (x : Int), al = [.agg (.mk h.cells), .int .u64 x] := by
  obtain ⟨v1, r1, a1, rfl, hv1, hm1, v2, r2, a2, rfl, hv2, hm2, rfl⟩ := h
  rw [av_23] at hv1
  subst hv1
  obtain ⟨h, rfl⟩ := shape_of hm1
  rw [me_34] at hm2
  obtain ⟨x, rfl, _⟩ := hm2
  rw [av_34] at hv2
  cases hv2
  exact ⟨h, x, rfl⟩
end Go.VE
/- attestorlaw17.number; where parts stand among all. -/
namespace Go.VE
open Go Go.Proofs
set_option maxRecDepth 20000
section
variable {ro : Nat} {s : St} {K : Value → St → Prop}
theorem wNumber {u : Value} {b : List Int} (hb : ∀ x ∈ b, 0 ≤ x ∧ x < 256) (hbl : b.length < 2 ^ 40) (hu : Bys s u b) (hw : Wf s) {k : Nat} (hk : 4 * k + 4 ≤ b.length) : CallWP P ro 24 [u, .int .i64 ((4 * k : Nat) : Int)] s K = K (.int .u64 (numAt b k)) s := by
  refine callEq (call_wp b24 rfl ?_) K
  rw [n24]
  unfold v24
  have hu' : Bys (ent s) u b := Sl.ent hu
  have hlen : ∀ (K : Value → St → Prop) ty, wop P ro (.call ⟨.builtin .len, ⟨[.const u]⟩, #[32]⟩) ty (ent s) K = K (.int .i64 b.length) (ent s) := fun K ty => Sl.wlen hu' se_32 ty K
  simp (maxSteps := 10000000) only [wW, reduceCtorEq, Nat.reduceEqDiff]
  rw [if_neg (by omega), hlen, wrap_i64 (n := ((4 * k : Nat) : Int) + 1) (by omega) (by omega), wrap_i64 (n := ((4 * k : Nat) : Int) + 2) (by omega) (by omega), wrap_i64 (n := ((4 * k : Nat) : Int) + 3) (by omega) (by omega)]
  simp (maxSteps := 10000000) only [wW, reduceCtorEq, Nat.reduceEqDiff]
  rw [wrap_i64 (by omega) (by omega), if_neg (by omega)]
  have hrd : ∀ i : Nat, i < 4 → ∃ p, aindexAddr P 32 u (.int .i64 (((4 * k : Nat) : Int) + (i : Int))) = some p ∧ aload P (ent s) 5 p = some (.int .u8 (byt b (4 * k + i))) := fun i hi => by
    obtain ⟨p, h1, h2⟩ := hu'.ix (i := ((4 * k : Nat) : Int) + (i : Int)) (by omega) (by omega)
    refine ⟨p, h1, ?_⟩
    rw [h2, show (((4 * k : Nat) : Int) + (i : Int)).toNat = 4 * k + i by omega]
  obtain ⟨p0, a0, l0⟩ := hrd 0 (by decide)
  obtain ⟨p1, a1, l1⟩ := hrd 1 (by decide)
  obtain ⟨p2, a2, l2⟩ := hrd 2 (by decide)
  obtain ⟨p3, a3, l3⟩ := hrd 3 (by decide)
  have a0' : aindexAddr P 32 u (.int .i64 ((4 * k : Nat) : Int)) = some p0 := by rw [← a0]; congr 2
  have b0 := byt_bounds hb (4 * k + 0)
  have b1 := byt_bounds hb (4 * k + 1)
  have b2 := byt_bounds hb (4 * k + 2)
  have b3 := byt_bounds hb (4 * k + 3)
  rw [wop_indexAddr, a0', wopt_some, wop_load, l0, wopt_some, conv_u8_u64, wrap_u64 (by omega) (by omega)]
  refine ⟨rfl, ?_⟩
  have a1' : aindexAddr P 32 u (.int .i64 (((4 * k : Nat) : Int) + 1)) = some p1 := a1
  have a2' : aindexAddr P 32 u (.int .i64 (((4 * k : Nat) : Int) + 2)) = some p2 := a2
  have a3' : aindexAddr P 32 u (.int .i64 (((4 * k : Nat) : Int) + 3)) = some p3 := a3
  have hsh : ∀ (y : Int) (n : Nat), 0 ≤ y → y < 256 → n ≤ 24 → abinInt P .shl .u64 y .u64 (n : Int) = some (.int .u64 (y * 2 ^ n)) := fun y n h0 h1 hn => by
    rw [int_shl _ _ _ _ (by omega), Int.toNat_natCast, show min n IntKind.u64.bits = n by show min n 64 = n; omega]
    have hp : (2 : Int) ^ n ≤ 2 ^ 24 := by have := Nat.pow_le_pow_right (n := 2) (by decide) hn; exact_mod_cast this
    have hp0 : (0 : Int) < 2 ^ n := Int.pow_pos (by decide)
    rw [wrap_u64 (Int.mul_nonneg h0 (Int.le_of_lt hp0))]
    have : y * 2 ^ n ≤ 255 * 2 ^ 24 := Int.mul_le_mul (by omega) hp (by omega) (by decide)
    omega
  have s1 : ∀ y : Int, 0 ≤ y ∧ y < 256 → abinInt P .shl .u64 y .u64 8 = some (.int .u64 (y * 2 ^ 8)) := fun y hy => hsh y 8 hy.1 hy.2 (by decide)
  have s2 : ∀ y : Int, 0 ≤ y ∧ y < 256 → abinInt P .shl .u64 y .u64 16 = some (.int .u64 (y * 2 ^ 16)) := fun y hy => hsh y 16 hy.1 hy.2 (by decide)
  have s3 : ∀ y : Int, 0 ≤ y ∧ y < 256 → abinInt P .shl .u64 y .u64 24 = some (.int .u64 (y * 2 ^ 24)) := fun y hy => hsh y 24 hy.1 hy.2 (by decide)
  rw [wop_indexAddr, a1', wopt_some, wop_load, l1, wopt_some, conv_u8_u64, wrap_u64 (by omega) (by omega)]
  refine ⟨rfl, ?_⟩
  rw [wop_int, s1 _ b1, wopt_some, wop_int, or_sum (n := 8) ⟨by omega, by omega⟩ b1.1 (by omega), wopt_some, wop_indexAddr, a2', wopt_some, wop_load, l2, wopt_some, conv_u8_u64, wrap_u64 (by omega) (by omega)]
  refine ⟨rfl, ?_⟩
  rw [wop_int, s2 _ b2, wopt_some, wop_int, or_sum (n := 16) ⟨by omega, by omega⟩ b2.1 (by omega), wopt_some, wop_indexAddr, a3', wopt_some, wop_load, l3, wopt_some, conv_u8_u64, wrap_u64 (by omega) (by omega)]
  refine ⟨rfl, ?_⟩
  rw [wop_int, s3 _ b3, wopt_some, wop_int, or_sum (n := 24) ⟨by omega, by omega⟩ b3.1 (by omega), wopt_some]
  refine fin_flat rfl (.refl _) ⟨?_, rfl⟩
  unfold numAt
  simp only [accB]
  congr 1
  omega
end
theorem it_app {g : Nat → List Prt → List Prt} (hg : ∀ i l, ∃ r, g i l = l ++ r) : ∀ (n : Nat) (l : List Prt), ∃ r, it g n l = l ++ r
  | 0, l => ⟨[], by simp [it]⟩
  | n + 1, l => by
    obtain ⟨r, h⟩ := it_app hg n l
    obtain ⟨r', h'⟩ := hg n (it g n l)
    exact ⟨r ++ r', by show g n (it g n l) = _; rw [h', h, List.append_assoc]⟩
theorem it_from {g : Nat → List Prt → List Prt} (hg : ∀ i l, ∃ r, g i l = l ++ r) (m : Nat) (l : List Prt) : ∀ d, ∃ r, it g (m + d) l = it g m l ++ r
  | 0 => ⟨[], by simp⟩
  | d + 1 => by
    obtain ⟨r, h⟩ := it_from hg m l d
    obtain ⟨r', h'⟩ := hg (m + d) (it g (m + d) l)
    exact ⟨r ++ r', by show g (m + d) (it g (m + d) l) = _; rw [h', h, List.append_assoc]⟩
theorem al9_app (h : Shp) (j : Nat) : ∀ i l, ∃ r, al9 h j i l = l ++ r := fun _ _ => ⟨_, rfl⟩
theorem alB_app (h : Shp) (j : Nat) : ∀ i l, ∃ r, alB h j i l = l ++ r := fun _ _ => ⟨_, rfl⟩
theorem alQ_app (h : Shp) (j : Nat) (l : List Prt) : ∃ r, alQ h j l = l ++ [⟨8, j, 0, h.u⟩, ⟨8, j, 1, h.v⟩] ++ r := by
  obtain ⟨r1, h1⟩ := it_app (alB_app h j) (shR h).toNat (it (al9 h j) 6 (it (al8 h j) 6 l))
  obtain ⟨r2, h2⟩ := it_app (al9_app h j) 6 (it (al8 h j) 6 l)
  refine ⟨[⟨8, j, 2, colAt h 2⟩, ⟨8, j, 3, colAt h 3⟩, ⟨8, j, 4, colAt h 4⟩, ⟨8, j, 5, colAt h 5⟩] ++ r2 ++ r1, ?_⟩
  unfold alQ
  rw [h1, h2]
  simp only [it, al8, List.append_assoc]
  rfl
theorem alQ_app' (h : Shp) : ∀ j l, ∃ r, alQ h j l = l ++ r := fun j l => by
  obtain ⟨r, e⟩ := alQ_app h j l
  exact ⟨_, e.trans (List.append_assoc _ _ _)⟩
section
variable {h : Shp}
theorem at_query {j : Nat} (hj : j < h.q.toNat) : ∃ l1 r, partsAll h = l1 ++ [⟨8, j, 0, h.u⟩, ⟨8, j, 1, h.v⟩] ++ r ∧ sumN l1 = sumN (midA h) + j * perQ h := by
  obtain ⟨r1, e1⟩ := alQ_app h j (it (alQ h) j (midA h))
  obtain ⟨r2, e2⟩ := it_from (alQ_app' h) (j + 1) (midA h) (h.q.toNat - (j + 1))
  rw [show j + 1 + (h.q.toNat - (j + 1)) = h.q.toNat by omega] at e2
  refine ⟨it (alQ h) j (midA h), r1 ++ r2, ?_, ?_⟩
  · unfold partsAll
    rw [e2]
    show alQ h j (it (alQ h) j (midA h)) ++ r2 = _
    rw [e1, List.append_assoc]
  · rw [sumN_it (f := fun _ => perQ h) (sumN_alQ h), sumTo_const]
theorem at_caps : ∃ r, partsAll h = [⟨1, 0, 0, 2 * shC h (h.a + h.b)⟩, ⟨2, 0, 0, 1⟩] ++ r := by
  obtain ⟨r1, e1⟩ := it_app (alQ_app' h) h.q.toNat (midA h)
  obtain ⟨r2, e2⟩ := it_app (g := alA h) (fun _ _ => ⟨_, rfl⟩) (shR h).toNat (preA h)
  unfold partsAll
  rw [e1]
  unfold midA
  rw [e2]
  unfold preA
  exact ⟨_, by simp only [List.append_assoc]; rfl⟩
theorem part_at (hv : shV h = true) (b : List Int) {l1 l2 : List Prt} {x : Prt} (he : partsAll h = l1 ++ x :: l2) (hx : x.n ≠ 0) : gOf (goneG b (partsR h)).2 x = numsB b (sumN l1) x.n.toNat := by
  have hk : partsR h = keepP l1 ++ x :: keepP l2 := by
    rw [← partsAll_keep hv, he]
    unfold keepP
    rw [List.filter_append, List.filter_cons, if_pos (by simpa using hx)]
  have hj : (keepP l1).length < (partsR h).length := by rw [hk]; simp
  have hget : (partsR h)[(keepP l1).length] = x := by
    simp only [hk]
    rw [List.getElem_append_right (Nat.le_refl _)]
    simp
  have h1 := (gone_part hv b).1 _ hj
  rw [hget] at h1
  rw [h1]
  congr 1
  rw [hk, List.take_left, sumN_keep]
end
end Go.VE
/- An opening of a proof; ProofOrder's loop. -/
namespace Go.VE
open Go Go.Proofs
set_option maxRecDepth 20000
theorem PfAt.opn {s : St} {W : Nat → Prop} {cs : List Value} {B : PfB} {R Q : Nat} {g : Nat → Nat → Nat → List Int} (h : PfAt s W cs B R Q g) {j : Nat} (hj : j < Q) :
    ∃ oc l, s.at B.ob = some (.cells oc 59 false) ∧ cut oc (13 * j) 13 = some l ∧ l.length = 13 ∧ l.all (·.oneCell') = true ∧ (∀ i, i < 6 → ∃ v, l[i]? = some v ∧ SlV s W 1 v (g 8 j i)) ∧ (∀ i, i < 6 → ∃ v, l[6 + i]? = some v ∧ SlV s W 2 v (g 9 j i)) ∧ l[12]? = some (.slice (some ⟨B.fb j, 0, none⟩) R R) := by
  obtain ⟨oc, h1, h2, h3⟩ := h.ob
  have hcut : cut oc (13 * j) 13 = some ((oc.drop (13 * j)).take 13) := cut_eq (by omega)
  have hget : ∀ i, i < 13 → ((oc.drop (13 * j)).take 13)[i]? = oc[13 * j + i]? := fun i hi => by rw [List.getElem?_take, if_pos hi, List.getElem?_drop]
  have hl : ((oc.drop (13 * j)).take 13).length = 13 := by rw [List.length_take, List.length_drop]; omega
  have h8 : ∀ i, i < 6 → ∃ v, ((oc.drop (13 * j)).take 13)[i]? = some v ∧ SlV s W 1 v (g 8 j i) := fun i hi => by
    obtain ⟨c, hc, hS⟩ := h.sl 8 j i (.row j i hj hi)
    have hc : acells (s.at B.ob) = some c := hc
    rw [acells_some h1] at hc
    cases hc
    unfold SlotC at hS
    rw [if_neg (by decide), if_neg (by decide), if_pos (by decide)] at hS
    obtain ⟨v, e, hv⟩ := hS
    exact ⟨v, (hget i (by omega)).trans e, hv⟩
  have h9 : ∀ i, i < 6 → ∃ v, ((oc.drop (13 * j)).take 13)[6 + i]? = some v ∧ SlV s W 2 v (g 9 j i) := fun i hi => by
    obtain ⟨c, hc, hS⟩ := h.sl 9 j i (.path j i hj hi)
    have hc : acells (s.at B.ob) = some c := hc
    rw [acells_some h1] at hc
    cases hc
    unfold SlotC at hS
    rw [if_neg (by decide), if_neg (by decide), if_neg (by decide)] at hS
    obtain ⟨v, e, hv⟩ := hS
    refine ⟨v, (hget (6 + i) (by omega)).trans ?_, hv⟩
    rw [← e]
    congr 1
    show 13 * j + (6 + i) = 13 * j + 6 + i
    omega
  have h12 : ((oc.drop (13 * j)).take 13)[12]? = some (.slice (some ⟨B.fb j, 0, none⟩) R R) := (hget 12 (by decide)).trans (h3 j hj)
  refine ⟨oc, _, h1, hcut, hl, List.all_eq_true.2 fun v hv => ?_, h8, h9, h12⟩
  obtain ⟨i, hi⟩ := List.getElem?_of_mem hv
  have hlt := (List.getElem?_eq_some_iff.1 hi).1
  by_cases hi6 : i < 6
  · obtain ⟨w, e, hw⟩ := h8 i hi6
    rw [hi] at e; cases e
    exact hw.one.1
  · by_cases hi12 : i < 12
    · obtain ⟨w, e, hw⟩ := h9 (i - 6) (by omega)
      rw [show 6 + (i - 6) = i by omega, hi] at e
      cases e
      exact hw.one.1
    · have : i = 12 := by omega
      subst this
      rw [hi] at h12; cases h12
      rfl
section
variable {ro : Nat} {s : St} {h : Shp}
theorem SlV.u64s {W : Nat → Prop} {v : Value} {l : List Int} (hv : SlV s W 1 v l) : U64s s v l := by
  obtain ⟨m, hm, hS, _⟩ := hv
  unfold U64s
  rw [show l.length = m by omega]
  exact hS
theorem U64s.atN {v : Value} {l : List Int} (hv : U64s s v l) {i : Nat} {x : Int} (hx : l[i]? = some x) : ∃ A o, aindexAddr P 36 v (.int .i64 (i : Int)) = some (.pointer (some ⟨A, o, none⟩)) ∧ aload P s 34 (.pointer (some ⟨A, o, none⟩)) = some (.int .u64 x) := by
  have hl := (List.getElem?_eq_some_iff.1 hx).1
  obtain ⟨A5, o5, q1, q2, _⟩ := Sl.ix hv (by decide) (show (0 : Int) ≤ i by omega) (show (i : Int) < l.length by omega)
  have q2' := q2 0 (by decide)
  rw [Nat.add_zero, Nat.add_zero, Nat.mul_one, Int.toNat_natCast, List.getElem?_map, hx] at q2'
  exact ⟨_, _, q1 se_36 isz_34, by rw [load1 ap_34]; exact q2'⟩
theorem numsB_get (b : List Int) (k : Nat) {n i : Nat} (hi : i < n) : (numsB b k n)[i]? = some (numAt b (k + i)) := by
  unfold numsB
  rw [List.getElem?_map, List.getElem?_range hi]; rfl
theorem orCut {b l : List Int} {u v : Value} {kk j : Nat} (hb : ∀ x ∈ b, 0 ≤ x ∧ x < 256) (hbl : b.length < 2 ^ 40) (hw : Wf s) (hu : Bys s u b) (hv : U64s s v l) (hl0 : l[0]? = some (numAt b kk)) (hkk : 4 * kk + 4 ≤ b.length) (hj : j < 2 ^ 20)
    {τ : Tau} {ds : List Deferred} {Q : Ex → WK} (t15 : τ 15 = v) (t14 : τ 14 = .int .i64 (4 * kk : Nat)) (t6 : τ 6 = u) (t12 : τ 12 = .int .i64 j)
    (hk : ∀ τ2 : Tau, τ2 2 = τ 2 → τ2 5 = τ 5 → τ2 6 = u → τ2 7 = τ 7 → τ2 11 = τ 11 → τ2 12 = .int .i64 (j + 1 : Nat) → Q .normal τ2 ds s) :
    xp (prims P ro) none 177 k7_1111111111110100 c7_11111111111101001001111 [1, 1, 1, 1, 0, 0, 1] τ [] ds s (blkX 1 (sX (prims P ro) none 177 k7_1111111111110100 c7_111111111111010011 [1, 1] (lift Q))) := by
  rw [n7_11111111111101001001111]
  unfold v7_11111111111101001001111
  rw [t15, t14, t6]
  have hlen : 0 < l.length := (List.getElem?_eq_some_iff.1 hl0).1
  obtain ⟨A, o, i1, i2⟩ := hv.atN hl0
  have i1' : aindexAddr P 36 v (.int .i64 0) = some (.pointer (some ⟨A, o, none⟩)) := i1
  rw [pr_wop, Sl.wlen hv se_36, wop_int, int_eql keq_i64, wopt_some, decide_eq_false (by omega), wdec_false, wop_indexAddr, i1', wopt_some, wop_load, i2, wopt_some]
  refine ⟨by simp [veq], ?_⟩
  rw [pr_call, wNumber hb hbl hu hw hkk]
  refine ⟨.refl _, ?_⟩
  rw [wop_int, int_neq keq_u64, wopt_some, decide_eq_true rfl, Bool.not_true, wdec_false]
  rw [blkX_n, sX_n (QOk.lift _), n7_111111111111010011]
  unfold v7_111111111111010011
  have c12 : U τ [(175, .bool false), (175, .bool false), (167, .bool false), (174, .bool false), (167, .bool false), (173, .int .u64 (numAt b kk)), (167, .bool false), (172, .int .i64 (4 * kk : Nat)), (167, .bool false), (171, u), (167, .bool false), (170, .int .u64 (numAt b kk)), (167, .bool false), (169, .pointer (some ⟨A, o, none⟩)), (167, .bool false), (168, v), (167, .bool false), (167, .bool false), (166, .bool false), (165, .int .i64 l.length), (164, v)] 12 = .int .i64 j := by simp only [U, tset_eq, wW, reduceCtorEq, Nat.reduceEqDiff, t12]
  rw [pr_wop, c12, wop_int, int_add keq_i64, wopt_some, wrap_i64 (by omega) (by omega)]
  refine hk _ ?_ ?_ ?_ ?_ ?_ ?_
  · simp only [U, tset_eq, wW, reduceCtorEq, Nat.reduceEqDiff]
  · simp only [U, tset_eq, wW, reduceCtorEq, Nat.reduceEqDiff]
  · simp only [U, tset_eq, wW, reduceCtorEq, Nat.reduceEqDiff, t6]
  · simp only [U, tset_eq, wW, reduceCtorEq, Nat.reduceEqDiff]
  · simp only [U, tset_eq, wW, reduceCtorEq, Nat.reduceEqDiff]
  · simp only [U, tset_eq, wW, reduceCtorEq, Nat.reduceEqDiff]; rfl
theorem orLoop {s0 : St} {C Z A : Nat} {W : Nat → Prop} {cs : List Value} {B : PfB} {b : List Int} (hv : shV h = true) (hb : ∀ x ∈ b, 0 ≤ x ∧ x < 256) (hbl : b.length = 4 * sumN (partsR h)) (hw : Wf s) (hro : ro ≤ s.n) (hF : FieldsAt s)
    (hC : s.at C = some (.cells h.cells 23 false)) (hZ : s.at Z = some (.cells cs 39 false)) (hp : PfAt s W cs B (shR h).toNat h.q.toNat (goneG b (partsR h)).2) {u : Value} (hu : Bys s u b)
    {τ : Tau} {ds : List Deferred} {Kx k0 : WK} (t2 : τ 2 = ptr C) (t5 : τ 5 = .int .i64 (4 * sumN (partsR h) : Nat)) (t6 : τ 6 = u) (t7 : τ 7 = ptr Z) (t11 : τ 11 = .int .i64 (4 * perQ h : Nat)) (t12 : τ 12 = .int .i64 0)
    (hk : ∀ τ' s', Wf s' → Grew s s' → k0 τ' ds s') :
    WLoop P ro 177 none c7_1111111111110100 τ ds s Kx [(0, k0)] := by
  have hbd := shV_bd hv
  have hsz := size_bound hv
  have hsum : sumN (partsR h) = sumN (midA h) + h.q.toNat * perQ h := by rw [← sumN_all, ← partsAll_keep hv, sumN_keep]
  have hV : 1 ≤ h.v ∧ 0 ≤ h.u ∧ h.u ≤ 64 ∧ h.v ≤ 64 := by
    have hv' := hv
    unfold shV inR at hv'
    simp only [Bool.and_eq_true, decide_eq_true_eq] at hv'
    omega
  refine wloop l7_1111111111110100 m7_1111111111110100 (fun (j : Nat) τ' ds' s' => j ≤ h.q.toNat ∧ τ' 2 = ptr C ∧ τ' 5 = .int .i64 (4 * sumN (partsR h) : Nat) ∧ τ' 6 = u ∧ τ' 7 = ptr Z ∧ τ' 11 = .int .i64 (4 * perQ h : Nat) ∧ τ' 12 = .int .i64 j ∧ ds' = ds ∧ Wf s' ∧ Grew s s') (fun j => h.q.toNat - j) ?_ 0 ⟨by omega, t2, t5, t6, t7, t11, t12, rfl, hw, .refl _⟩
  rintro j τ' ds' s' ⟨hj, a2, a5, a6, a7, a11, a12, rfl, w', g'⟩
  rw [n7_1111111111110100]
  unfold v7_1111111111110100
  have gn := g'.n
  have hCl := St.at_lt hC
  have hC' := (g'.same C hCl).trans hC
  have hZ' := (g'.same Z (St.at_lt hZ)).trans hZ
  have hp' := hp.grew g'
  have hu' : Bys s' u b := Sl.grew hu g'.same
  have hc4 : h.cells[4]? = some (.int .i64 h.q) := rfl
  have hc5 : h.cells[5]? = some (.int .i64 h.u) := rfl
  rw [a2, a7, a12, a11, a5]
  simp (maxSteps := 10000000) only [wW, reduceCtorEq, Nat.reduceEqDiff]
  rw [fa_23_4, wopt_some, wop_load, load1 ap_3, acells_some hC', Option.bind_some, Nat.zero_add, hc4, wopt_some]
  simp (maxSteps := 10000000) only [wW, reduceCtorEq, Nat.reduceEqDiff]
  by_cases hlt : j < h.q.toNat
  · rw [if_pos (by omega)]
    obtain ⟨oc, l, ho, hcut, hl13, hone, h8, _, _⟩ := hp'.opn hlt
    rw [fa_39_7, wopt_some, wop_load, load1 ap_37, acells_some hZ', Option.bind_some, Nat.zero_add, hp.c7, wopt_some, wop_indexAddr, ixOp (by omega) (by omega), wopt_some, Int.toNat_natCast, wop_load, load_part ap_59 ho hcut, wopt_some]
    refine alloc_rule ty_59 w' fun E s1 m1 => ?_
    have e1 := m1.eq
    have n1 := m1.n
    refine storeAll_rule isz_59 m1.here (l := l) hl13 (by decide) m1.wf (by omega) rfl hone fun s2 p2 => ?_
    have n2 := p2.n
    have g2 : Grew s' s2 := p2.grew _ w' m1.grew (by omega)
    have hC2 := (g2.same C (by omega)).trans hC'
    have hE2 := p2.here
    obtain ⟨v0, x0, hv0⟩ := h8 0 (by decide)
    obtain ⟨v1, x1, hv1⟩ := h8 1 (by decide)
    obtain ⟨l1, r, hpa, hs1⟩ := at_query (h := h) hlt
    have hper : j * perQ h + perQ h ≤ h.q.toNat * perQ h := by rw [← Nat.succ_mul]; exact Nat.mul_le_mul_right _ hlt
    have e14 : (4 * perQ h : Nat) * ((h.q.toNat - j : Nat) : Int) = ((4 * (h.q.toNat * perQ h - j * perQ h) : Nat) : Int) := by
      rw [← Nat.sub_mul]
      push_cast
      rw [Int.mul_assoc, Int.mul_comm (perQ h : Int)]
    have hq : h.q - (j : Int) = ((h.q.toNat - j : Nat) : Int) := by omega
    rw [wop_load, load1 ap_3, acells_some hC2, Option.bind_some, hc4, wopt_some, wop_int, int_sub keq_i64, wopt_some, wrap_i64 (by omega) (by omega), hq, wop_int, int_mul keq_i64, wopt_some, e14, wrap_i64 (by omega) (by omega), wop_int, int_sub keq_i64, wopt_some, wrap_i64 (by omega) (by omega)]
    have hkk : ((4 * sumN (partsR h) : Nat) : Int) - ((4 * (h.q.toNat * perQ h - j * perQ h) : Nat) : Int) = ((4 * (sumN (midA h) + j * perQ h) : Nat) : Int) := by omega
    rw [hkk, fa_59_1, wopt_some, wop_load, load1 ap_36, acells_some hE2, Option.bind_some, Nat.zero_add, x1, wopt_some, fa_23_5, wopt_some, wop_load, load1 ap_3, acells_some hC2, Option.bind_some, Nat.zero_add, hc5, wopt_some]
    simp (maxSteps := 10000000) only [wW, reduceCtorEq, Nat.reduceEqDiff]
    have hw2 := p2.wf
    have hu2 : Bys s2 u b := Sl.grew hu' g2.same
    have hle : sumN (midA h) + j * perQ h + 1 ≤ sumN (partsR h) ∧ 1 ≤ perQ h := by
      have hp1 : 1 ≤ perQ h := by
        unfold perQ
        have : sumTo (fun i => sumN (al8 h 0 i [])) 2 ≤ sumTo (fun i => sumN (al8 h 0 i [])) 6 := by simp only [sumTo]; omega
        have h2 : sumTo (fun i => sumN (al8 h 0 i [])) 2 = h.u.toNat + h.v.toNat := by simp [sumTo, al8, sumN, colAt]
        omega
      omega
    have hkeep : ∀ {l : List Int} {v : Value}, SlV s' W 1 v l → U64s s2 v l := fun hv => Sl.grew hv.u64s g2.same
    by_cases hu0 : h.u > 0
    · rw [if_pos hu0, fa_59_0, wopt_some, wop_load, load1 ap_36, acells_some hE2, Option.bind_some, Nat.zero_add, x0, wopt_some]
      have hg : (goneG b (partsR h)).2 8 j 0 = numsB b (sumN l1) h.u.toNat := part_at hv b (x := ⟨8, j, 0, h.u⟩) (by rw [hpa]; simp only [List.append_assoc]; rfl) (by show h.u ≠ 0; omega)
      rw [hg] at hv0
      refine orCut hb (by omega) hw2 hu2 (hkeep hv0) (by rw [numsB_get _ _ (by omega), hs1, Nat.add_zero]) (by omega) (by omega) ?_ ?_ ?_ ?_ fun τ2 c2 c5 c6 c7 c11 c12 => ⟨j + 1, by omega, by omega, ?_, ?_, c6, ?_, ?_, c12, by first | trivial | rfl, hw2, g'.trans g2⟩
      · simp only [U, tset_eq, wW, reduceCtorEq, Nat.reduceEqDiff]
      · simp only [U, tset_eq, wW, reduceCtorEq, Nat.reduceEqDiff]
      · simp only [U, tset_eq, wW, reduceCtorEq, Nat.reduceEqDiff, a6]
      · simp only [U, tset_eq, wW, reduceCtorEq, Nat.reduceEqDiff, a12]
      · rw [c2]; simp only [U, tset_eq, wW, reduceCtorEq, Nat.reduceEqDiff, a2]
      · rw [c5]; simp only [U, tset_eq, wW, reduceCtorEq, Nat.reduceEqDiff, a5]
      · rw [c7]; simp only [U, tset_eq, wW, reduceCtorEq, Nat.reduceEqDiff, a7]
      · rw [c11]; simp only [U, tset_eq, wW, reduceCtorEq, Nat.reduceEqDiff, a11]
    · rw [if_neg hu0]
      have hu0' : h.u = 0 := by omega
      have hg : (goneG b (partsR h)).2 8 j 1 = numsB b (sumN l1) h.v.toNat := by
        have := part_at hv b (l1 := l1 ++ [⟨8, j, 0, h.u⟩]) (x := ⟨8, j, 1, h.v⟩) (by rw [hpa]; simp only [List.append_assoc]; rfl) (by show h.v ≠ 0; omega)
        rw [sumN_app] at this
        have e0 : sumN [⟨8, (j : Int), 0, h.u⟩] = 0 := by simp [sumN, hu0']
        rw [e0, Nat.add_zero] at this
        exact this
      rw [hg] at hv1
      refine orCut hb (by omega) hw2 hu2 (hkeep hv1) (by rw [numsB_get _ _ (by omega), hs1, Nat.add_zero]) (by omega) (by omega) ?_ ?_ ?_ ?_ fun τ2 c2 c5 c6 c7 c11 c12 => ⟨j + 1, by omega, by omega, ?_, ?_, c6, ?_, ?_, c12, by first | trivial | rfl, hw2, g'.trans g2⟩
      · simp only [U, tset_eq, wW, reduceCtorEq, Nat.reduceEqDiff]
      · simp only [U, tset_eq, wW, reduceCtorEq, Nat.reduceEqDiff]
      · simp only [U, tset_eq, wW, reduceCtorEq, Nat.reduceEqDiff, a6]
      · simp only [U, tset_eq, wW, reduceCtorEq, Nat.reduceEqDiff, a12]
      · rw [c2]; simp only [U, tset_eq, wW, reduceCtorEq, Nat.reduceEqDiff, a2]
      · rw [c5]; simp only [U, tset_eq, wW, reduceCtorEq, Nat.reduceEqDiff, a5]
      · rw [c7]; simp only [U, tset_eq, wW, reduceCtorEq, Nat.reduceEqDiff, a7]
      · rw [c11]; simp only [U, tset_eq, wW, reduceCtorEq, Nat.reduceEqDiff, a11]
  · obtain rfl : j = h.q.toNat := by omega
    rw [if_neg (by omega)]
    exact hk _ s' w' g'
end
end Go.VE
/- ProofOrder. -/
namespace Go.VE
open Go Go.Proofs
set_option maxRecDepth 20000
section
variable {ro : Nat} {s : St} {h : Shp}
theorem ixD0 (A o : Nat) : aindexAddr P 55 (.pointer (some ⟨A, o, none⟩)) (.int .i64 0) = some (.pointer (some ⟨A, o + 0 * 1, none⟩)) := by kernel_rfl
theorem ixD1 (A o : Nat) : aindexAddr P 55 (.pointer (some ⟨A, o, none⟩)) (.int .i64 1) = some (.pointer (some ⟨A, o + 1 * 1, none⟩)) := by kernel_rfl
theorem Sl.digN {v : Value} {m : Nat} {l : List Int} (h : Sl s v 2 m (l.map (.int .u64))) {i : Nat} (hi : i < m) : ∃ A o, aindexAddr P 33 v (.int .i64 (i : Int)) = some (.pointer (some ⟨A, o, none⟩)) ∧ ∀ k x, k < 2 → l[2 * i + k]? = some x → aload P s 34 (.pointer (some ⟨A, o + k * 1, none⟩)) = some (.int .u64 x) := by
  obtain ⟨A, o, h1, h2, _⟩ := Sl.ix h (by decide) (show (0 : Int) ≤ i by omega) (show (i : Int) < m by omega)
  refine ⟨A, o, h1 se_33 isz_55, fun k x hk hx => ?_⟩
  rw [load1 ap_34, Nat.mul_one, h2 k hk, Int.toNat_natCast, List.getElem?_map, Nat.mul_comm i 2, hx]
  rfl
theorem caps_n (h : Shp) : ∃ c : Nat, 0 < c ∧ 2 * shC h (h.a + h.b) = ((2 * c : Nat) : Int) := by
  refine ⟨2 ^ (minI h.c (h.a + h.b)).toNat, Nat.pow_pos (by decide), ?_⟩
  unfold shC
  push_cast; rfl
theorem shV_q (hv : shV h = true) : shV { h with q := 1 } = true := by
  have hq : inR h.q 1 64 = true := by
    unfold shV at hv
    simp only [Bool.and_eq_true] at hv
    exact hv.1.1.1.1.2
  have e : shV { h with q := 1 } = shV h := by
    unfold shV
    show (fV h.f && inR h.a 1 13 && inR h.b 1 5 && decide (h.a + h.b ≤ fTwo h.f) && inR h.c 0 8 && inR 1 1 64 && inR h.u 0 64 && inR h.v 1 64 && inR h.w 0 16 && inR h.x 1 16) = _
    rw [hq, show inR 1 1 64 = true from rfl]
  rw [e]; exact hv
theorem size_q1 (hv : shV h = true) : sizeM { h with q := 1 } = ((4 * (sumN (midA h) + perQ h) : Nat) : Int) := by
  rw [size_all (shV_q hv)]
  show 4 * ((sumN (midA h) + 1 * perQ h : Nat) : Int) = _
  rw [Nat.one_mul]
  push_cast; rfl
theorem wOrder (h : Shp) (x : Int) (hw : Wf s) (hro : ro ≤ s.n) (hF : FieldsAt s) : CallWP P ro 7 [.agg (.mk h.cells), .int .u64 x] s fun v _ => v = .bool true := by
  refine call_wp b7 rfl ?_
  rw [n7]
  unfold v7
  simp (maxSteps := 10000000) only [wW, reduceCtorEq, Nat.reduceEqDiff]
  refine box_rule hw.ent fun C s1 m1 => ?_
  have e1 := m1.eq
  have n1 := m1.n
  have hn0 : (ent s).n = s.n := rfl
  have hC1 : s1.at C = some (.cells h.cells 23 false) := m1.here
  have hF1 : FieldsAt s1 := FieldsAt.grew (s := ent s) hF m1.grew
  rw [wop_load, load_all ap_23 hC1 rfl, wopt_some, wGSize h m1.wf (by omega) hF1]
  simp (maxSteps := 10000000) only [wW, reduceCtorEq, Nat.reduceEqDiff]
  by_cases hz : sizeM h ≤ 0
  · rw [if_pos hz, wAwake m1.wf (by omega) hF1]
    exact fin_K fun _ => rfl
  rw [if_neg hz]
  by_cases hbig : sizeM h > 100000
  · rw [if_pos hbig, wAwake m1.wf (by omega) hF1]
    exact fin_K fun _ => rfl
  have hv : shV h = true := by
    cases hv : shV h with
    | true => rfl
    | false =>
      have : sizeM h = 0 := by unfold sizeM; rw [if_neg (by simp [hv])]
      omega
  have hbd := shV_bd hv
  have hsum := size_sum hv
  have hpos := size_pos hv
  have hfp := fP_pos (shV_f hv)
  have hfb := fP_bd h.f
  have hc0 : h.cells[0]? = some (.int .i64 h.f) := rfl
  have hc4 : h.cells[4]? = some (.int .i64 h.q) := rfl
  have hall : sumN (partsR h) = sumN (midA h) + h.q.toNat * perQ h := by rw [← sumN_all, ← partsAll_keep hv, sumN_keep]
  obtain ⟨c, hc, hcn⟩ := caps_n h
  obtain ⟨r, hpa⟩ := at_caps (h := h)
  rw [hcn] at hpa
  have hsR : sumN (partsR h) = 2 * c + 1 + sumN r := by
    have hsum2 : sumN (partsR h) = sumN (partsAll h) := by rw [← partsAll_keep hv, sumN_keep]
    rw [hsum2, hpa, sumN_app]
    simp only [sumN, Int.toNat_natCast]
    have : (1 : Int).toNat = 1 := rfl
    omega
  rw [if_neg hbig, fa_23_0, wopt_some, wop_load, load1 ap_3, acells_some hC1, Option.bind_some, Nat.zero_add, hc0, wopt_some, wrP]
  have hcast : (4 * (sumN (partsR h) : Int)) = ((4 * sumN (partsR h) : Nat) : Int) := by push_cast; rfl
  rw [hsum, hcast]
  refine wBytes (n := 4 * sumN (partsR h)) (N := sumN (partsR h)) rfl (by omega) hfp m1.wf (by omega) fun A s2 g2 hA2 hA => ?_
  have n2 := g2.n
  have w2 := m1.wf.grew g2
  have hC2 := (g2.same C (by omega)).trans hC1
  have hF2 := hF1.grew g2
  have hAl := St.at_lt hA
  have hy := rnds_ok hfp x (sumN (partsR h))
  have hylen := rnds_len (fP h.f) x (sumN (partsR h))
  generalize rnds (fP h.f) x (sumN (partsR h)) = ys at hA hy hylen
  have hb2 : Bys s2 (.slice (some ⟨A, 0, none⟩) (4 * sumN (partsR h)) (4 * sumN (partsR h))) (encL ys) := bys_of hA (by rw [encL_len, hylen])
  have hbl : (encL ys).length = 4 * sumN (partsR h) := by rw [encL_len, hylen]
  have hbok := encL_ok ys
  rw [wop_load, load_all ap_23 hC2 rfl, wopt_some]
  refine wDecodeY hv hylen hy hb2 (fun A' o sp n c e => by cases e; exact hAl) w2 (by omega) hF2 fun cs B s3 W g3 _ hW hWB hp => ?_
  generalize encL ys = b at hp hb2 hbl hbok
  have n3 := g3.n
  have w3 := w2.grew g3
  simp (maxSteps := 10000000) only [wW, reduceCtorEq, Nat.reduceEqDiff, List.getElem?_cons_zero, List.getElem?_cons_succ]
  refine alloc_rule ty_39 w3 fun Z s4 m4 => ?_
  have e4 := m4.eq
  have n4 := m4.n
  refine storeAll_rule isz_39 m4.here (l := cs) hp.cl (by decide) m4.wf (by omega) rfl hp.one fun s5 p5 => ?_
  have n5 := p5.n
  have g35 : Grew s3 s5 := p5.grew _ w3 m4.grew (by omega)
  have g25 := g3.trans g35
  have hp5 := hp.grew g35
  have hF5 := hF2.grew g25
  have hC5 := (g25.same C (by omega)).trans hC2
  have hZ5 := p5.here
  have w5 := p5.wf
  have hb5 : Bys s5 (.slice (some ⟨A, 0, none⟩) (4 * sumN (partsR h)) (4 * sumN (partsR h))) b := Sl.grew hb2 g25.same
  obtain ⟨v0, v1, v2, v5, x3, x6, hcs, hV0, _, _, hx3, _, _⟩ := hp5.list
  have h0g : (goneG b (partsR h)).2 1 0 0 = numsB b 0 (2 * c) := part_at hv b (l1 := []) (x := ⟨1, 0, 0, (2 * c : Nat)⟩) (by rw [hpa]; rfl) (by show ((2 * c : Nat) : Int) ≠ 0; omega)
  have h2g : (goneG b (partsR h)).2 2 0 0 = numsB b (2 * c) 1 := by
    have := part_at hv b (l1 := [⟨1, 0, 0, (2 * c : Nat)⟩]) (x := ⟨2, 0, 0, 1⟩) (l2 := r) (by rw [hpa]; rfl) (by decide)
    exact this
  have hx3' : x3 = numAt b (2 * c) := by
    rw [h2g] at hx3
    simpa [numsB] using hx3.symm
  rw [h0g] at hV0
  obtain ⟨m, hm, hSl, _⟩ := hV0
  rw [numsB_len] at hm
  have hmc : m = c := by omega
  subst hmc
  have hv0 : cs[0]? = some v0 := by rw [hcs]; rfl
  have hv3 : cs[3]? = some (.int .u64 x3) := by rw [hcs]; rfl
  have hld0 : aload P s5 33 (.pointer (some ⟨Z, 0, none⟩)) = some v0 := by rw [load1 ap_33, acells_some hZ5]; exact hv0
  have hveq0 : veq v0 v0 = true := by
    obtain ⟨a, cc, e, _⟩ := hSl
    rw [e]; simp [veq]
  have hlen0 : ∀ (K : Value → St → Prop) ty, wop P ro (.call ⟨.builtin .len, ⟨[.const v0]⟩, #[33]⟩) ty s5 K = K (.int .i64 m) s5 := fun K ty => Sl.wlen hSl se_33 ty K
  have hx3l : aload P s5 34 (.pointer (some ⟨Z, 3, none⟩)) = some (.int .u64 (numAt b (2 * m))) := by rw [load1 ap_34, acells_some hZ5, ← hx3']; exact hv3
  have hq5 : aload P s5 3 (.pointer (some ⟨C, 4, none⟩)) = some (.int .i64 h.q) := by rw [load1 ap_3, acells_some hC5]; exact hc4
  have ho5 : aload P s5 37 (.pointer (some ⟨Z, 7, none⟩)) = some (.slice (some ⟨B.ob, 0, none⟩) h.q.toNat h.q.toNat) := by rw [load1 ap_37, acells_some hZ5]; exact hp5.c7
  obtain ⟨A0, o0, i0, j0⟩ := hSl.digN (i := 0) hc
  obtain ⟨A1, o1, i1, j1⟩ := hSl.digN (i := m - 1) (by omega)
  have i0' : aindexAddr P 33 v0 (.int .i64 0) = some (.pointer (some ⟨A0, o0, none⟩)) := i0
  have i1' : aindexAddr P 33 v0 (.int .i64 ((m : Int) - 1)) = some (.pointer (some ⟨A1, o1, none⟩)) := by rw [← i1]; congr 2; omega
  have j0' := j0 0 (numAt b (0 + (2 * 0 + 0))) (by decide) (numsB_get b 0 (by omega))
  have j1' := j1 1 (numAt b (0 + (2 * (m - 1) + 1))) (by decide) (numsB_get b 0 (by omega))
  have hml : m ≤ 2 ^ 34 := by omega
  have nb0 : ∀ (K : Value → St → Prop), CallWP P ro 24 [.slice (some ⟨A, 0, none⟩) (4 * sumN (partsR h)) (4 * sumN (partsR h)), .int .i64 0] s5 K = K (.int .u64 (numAt b (0 + (2 * 0 + 0)))) s5 := fun K => wNumber (k := 0) hbok (by omega) hb5 w5 (by omega)
  have nb1 : ∀ (K : Value → St → Prop), CallWP P ro 24 [.slice (some ⟨A, 0, none⟩) (4 * sumN (partsR h)) (4 * sumN (partsR h)), .int .i64 (8 * (m : Int) - 4)] s5 K = K (.int .u64 (numAt b (0 + (2 * (m - 1) + 1)))) s5 := fun K => by
    have e : (8 * (m : Int) - 4) = ((4 * (0 + (2 * (m - 1) + 1)) : Nat) : Int) := by omega
    rw [e, wNumber hbok (by omega) hb5 w5 (by omega)]
  have nb2 : ∀ (K : Value → St → Prop), CallWP P ro 24 [.slice (some ⟨A, 0, none⟩) (4 * sumN (partsR h)) (4 * sumN (partsR h)), .int .i64 (8 * (m : Int))] s5 K = K (.int .u64 (numAt b (2 * m))) s5 := fun K => by
    have e : (8 * (m : Int)) = ((4 * (2 * m) : Nat) : Int) := by omega
    rw [e, wNumber hbok (by omega) hb5 w5 (by omega)]
  have vi : ∀ k z, veq (.int k z) (.int k z) = true := fun k z => by simp [veq]
  rw [if_neg (fun h => h trivial)]
  simp (maxSteps := 10000000) only [wW, reduceCtorEq, Nat.reduceEqDiff, fa_39_0, fa_39_3, fa_39_7, fa_23_4]
  rw [wop_load, hld0, wopt_some, hlen0]
  simp (maxSteps := 10000000) only [wW, reduceCtorEq, Nat.reduceEqDiff]
  rw [if_neg (by omega), wop_load, ho5, wopt_some, wop_len se_37, wop_load, hq5, wopt_some]
  simp (maxSteps := 10000000) only [wW, reduceCtorEq, Nat.reduceEqDiff]
  rw [if_neg (by omega), wop_load, hq5, wopt_some]
  simp (maxSteps := 10000000) only [wW, reduceCtorEq, Nat.reduceEqDiff]
  rw [if_neg (by omega), wop_len se_32]
  simp (maxSteps := 10000000) only [wW, reduceCtorEq, Nat.reduceEqDiff]
  rw [if_neg (fun h => h trivial), wop_load, hld0, wopt_some]
  refine ⟨hveq0, ?_⟩
  rw [wop_indexAddr, i0', wopt_some, wop_indexAddr, ixD0, wopt_some, wop_load, j0', wopt_some]
  refine ⟨vi _ _, ?_⟩
  rw [nb0]
  refine ⟨.refl _, ?_⟩
  simp (maxSteps := 10000000) only [wW, reduceCtorEq, Nat.reduceEqDiff]
  rw [if_neg (fun h => h trivial), wop_load, hld0, wopt_some]
  refine ⟨hveq0, ?_⟩
  rw [wop_load, hld0, wopt_some]
  refine ⟨hveq0, ?_⟩
  rw [hlen0]
  simp (maxSteps := 10000000) only [wW, reduceCtorEq, Nat.reduceEqDiff]
  rw [wrap_i64 (by omega) (by omega), wop_indexAddr, i1', wopt_some, wop_indexAddr, ixD1, wopt_some, wop_load, j1', wopt_some]
  refine ⟨vi _ _, ?_⟩
  rw [wop_load, hld0, wopt_some]
  refine ⟨hveq0, ?_⟩
  rw [hlen0]
  simp (maxSteps := 10000000) only [wW, reduceCtorEq, Nat.reduceEqDiff]
  rw [wrap_i64 (n := 8 * (m : Int)) (by omega) (by omega), wrap_i64 (by omega) (by omega), nb1]
  refine ⟨.refl _, ?_⟩
  simp (maxSteps := 10000000) only [wW, reduceCtorEq, Nat.reduceEqDiff]
  rw [if_neg (fun h => h trivial), wop_load, hx3l, wopt_some]
  refine ⟨vi _ _, ?_⟩
  rw [wop_load, hld0, wopt_some]
  refine ⟨hveq0, ?_⟩
  rw [hlen0]
  simp (maxSteps := 10000000) only [wW, reduceCtorEq, Nat.reduceEqDiff]
  rw [wrap_i64 (by omega) (by omega), nb2]
  refine ⟨.refl _, ?_⟩
  simp (maxSteps := 10000000) only [wW, reduceCtorEq, Nat.reduceEqDiff]
  rw [if_neg (fun h => h trivial), wop_load, load_all ap_23 hC5 rfl, wopt_some]
  refine alloc_rule ty_23 w5 fun D s6 m6 => ?_
  have e6 := m6.eq
  have n6 := m6.n
  refine storeAll_rule isz_23 m6.here (l := h.cells) rfl (by decide) m6.wf (by omega) rfl rfl fun s7 p7 => ?_
  have n7 := p7.n
  rw [fa_23_4, wopt_some]
  refine store1_rule isz_3 p7.here p7.wf (by omega) (by show 4 < 9; decide) rfl fun s8 p8 => ?_
  have n8 := p8.n
  have g57 : Grew s5 s7 := p7.grew _ w5 m6.grew (by omega)
  have g58 : Grew s5 s8 := p8.grew _ w5 g57 (by omega)
  have hF8 := hF5.grew g58
  have hC8 := (g58.same C (by omega)).trans hC5
  have w8 := p8.wf
  have hD8 : s8.at D = some (.cells (Shp.cells { h with q := 1 }) 23 false) := p8.here
  have hq8 : aload P s8 3 (.pointer (some ⟨C, 4, none⟩)) = some (.int .i64 h.q) := by rw [load1 ap_3, acells_some hC8]; exact hc4
  rw [wop_load, load_all ap_23 hC8 rfl, wopt_some, wGSize h w8 (by omega) hF8, wop_load, hq8, wopt_some]
  simp (maxSteps := 10000000) only [wW, reduceCtorEq, Nat.reduceEqDiff]
  by_cases hq1 : h.q > 1
  · rw [if_pos hq1, wop_load, load_all ap_23 hD8 rfl, wopt_some]
    refine ⟨veqShp _, ?_⟩
    rw [wop_load, hq8, wopt_some]
    refine ⟨vi _ _, ?_⟩
    simp (maxSteps := 10000000) only [wW, reduceCtorEq, Nat.reduceEqDiff]
    obtain ⟨d, hd⟩ : ∃ d : Nat, h.q = (d : Int) + 1 ∧ 1 ≤ d := ⟨(h.q - 1).toNat, by omega, by omega⟩
    have hqd : h.q.toNat = d + 1 := by omega
    rw [hqd, Nat.succ_mul] at hall
    have hsub : ((4 * sumN (partsR h) : Nat) : Int) - ((4 * (sumN (midA h) + perQ h) : Nat) : Int) = (d : Int) * ((4 * perQ h : Nat) : Int) := by
      have e : (d : Int) * ((4 * perQ h : Nat) : Int) = ((4 * (d * perQ h) : Nat) : Int) := by push_cast; rw [Int.mul_left_comm]
      rw [e, hall]
      omega
    have hdp : (d : Int) * ((4 * perQ h : Nat) : Int) = ((4 * (d * perQ h) : Nat) : Int) := by push_cast; rw [Int.mul_left_comm]
    have hq1' : h.q - 1 = (d : Int) := by omega
    have hdne : (d : Int) ≠ 0 := by omega
    have hperP : 1 ≤ perQ h ∧ 1 ≤ sumN (midA h) := by
      have hV : 1 ≤ h.v := by
        have hv' := hv
        unfold shV inR at hv'
        simp only [Bool.and_eq_true, decide_eq_true_eq] at hv'
        omega
      have hp1 : 1 ≤ perQ h := by
        unfold perQ
        have : sumTo (fun i => sumN (al8 h 0 i [])) 2 ≤ sumTo (fun i => sumN (al8 h 0 i [])) 6 := by simp only [sumTo]; omega
        have h2 : sumTo (fun i => sumN (al8 h 0 i [])) 2 = h.u.toNat + h.v.toNat := by simp [sumTo, al8, sumN, colAt]
        omega
      refine ⟨hp1, ?_⟩
      unfold midA
      rw [sumN_app]
      simp only [sumN]
      have : (1 : Int).toNat = 1 := rfl
      omega
    rw [wrap_i64 (by omega) (by omega), wGSize _ w8 (by omega) hF8, size_q1 hv, hq1']
    refine ⟨.refl _, ?_⟩
    rw [wop_int, int_sub keq_i64, wopt_some, hsub, wrap_i64 (by omega) (by omega), wop_int, int_rem keq_i64 _ _ hdne, wopt_some, Int.mul_tmod_right]
    simp (maxSteps := 10000000) only [wW, reduceCtorEq, Nat.reduceEqDiff]
    rw [if_neg (fun h => h trivial), wop_load, load_all ap_23 hD8 rfl, wopt_some]
    refine ⟨veqShp _, ?_⟩
    rw [wop_load, hq8, wopt_some]
    refine ⟨vi _ _, ?_⟩
    simp (maxSteps := 10000000) only [wW, reduceCtorEq, Nat.reduceEqDiff]
    have e4 : ((4 * perQ h : Nat) : Int) * h.q = ((4 * (d * perQ h + perQ h) : Nat) : Int) := by
      rw [hd.1]
      push_cast
      rw [Int.mul_add, Int.mul_one, Int.mul_assoc, Int.mul_comm (perQ h : Int)]
      omega
    rw [wrap_i64 (by omega) (by omega), hq1', wGSize _ w8 (by omega) hF8, size_q1 hv]
    refine ⟨.refl _, ?_⟩
    rw [wop_int, int_sub keq_i64, wopt_some, hsub, wrap_i64 (by omega) (by omega), wop_int, int_quo keq_i64 _ _ hdne, wopt_some, Int.mul_tdiv_cancel_left _ hdne, wrap_i64 (by omega) (by omega)]
    simp (maxSteps := 10000000) only [wW, reduceCtorEq, Nat.reduceEqDiff]
    rw [if_neg (by omega), wop_load, hq8, wopt_some]
    simp (maxSteps := 10000000) only [wW, reduceCtorEq, Nat.reduceEqDiff]
    rw [e4, wrap_i64 (by omega) (by omega), if_neg (by omega)]
    have hZ8 := (g58.same Z (by omega)).trans hZ5
    have hp8 := hp5.grew g58
    have hb8 : Bys s8 (.slice (some ⟨A, 0, none⟩) (4 * sumN (partsR h)) (4 * sumN (partsR h))) b := Sl.grew hb5 g58.same
    refine orLoop (s0 := s) (A := A) hv hbok hbl w8 (by omega) hF8 hC8 hZ8 hp8 hb8 ?_ ?_ ?_ ?_ ?_ ?_ fun τ9 s9 w9 g9 => ?_
    · simp only [U, tset_eq, wW, reduceCtorEq, Nat.reduceEqDiff]
    · simp only [U, tset_eq, wW, reduceCtorEq, Nat.reduceEqDiff]
    · simp only [U, tset_eq, wW, reduceCtorEq, Nat.reduceEqDiff]
    · simp only [U, tset_eq, wW, reduceCtorEq, Nat.reduceEqDiff]
    · simp only [U, tset_eq, wW, reduceCtorEq, Nat.reduceEqDiff]
    · simp only [U, tset_eq, wW, reduceCtorEq, Nat.reduceEqDiff]
    · have n9 := g9.n
      rw [wAwake w9 (by omega) (hF8.grew g9)]
      simp (maxSteps := 10000000) only [wW, reduceCtorEq, Nat.reduceEqDiff]
      exact fin_K fun _ => rfl
  · rw [if_neg hq1, wAwake w8 (by omega) hF8]
    exact fin_K fun _ => rfl
end
end Go.VE
/- ProofOrder at every start. -/
namespace Go.VE
open Go Go.Proofs
set_option maxRecDepth 20000
theorem po_runs (laid : List (String × DataW Unit)) (h : startB laid = true) : LawRuns P 30 8 7 [23, 34] laid :=
  law_runs' h fun s al hw hF h0 ha => by
    obtain ⟨h, x, rfl⟩ := pr_args ha
    exact wOrder h x hw (Nat.le_refl _) hF
end Go.VE
