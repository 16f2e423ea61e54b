/-
  What the functions compute.
-/
import Derived.Test.YtonfahekhieobaaDoorWk2
set_option linter.unusedSimpArgs false
set_option linter.unusedVariables false
/- proof.Encode. -/
namespace Go.VE
open Go Go.Proofs
set_option maxRecDepth 20000
theorem zeroU8 {y : Value} {n : Nat} (h : y ∈ zeroList (Value.int .u8 0).cells n) : y = .int .u8 0 := by
  unfold zeroList at h
  obtain ⟨i, _, rfl⟩ := List.mem_map.1 h
  show ([Value.int .u8 0] : List Value).getD (i % 1) default = _
  rw [Nat.mod_one]; rfl
section
variable {ro : Nat} {s : St} {K : Value → St → Prop} {W : Nat → Prop} {cs : List Value} {B : PfB} {g : Nat → Nat → Nat → List Int} {h : Shp}
theorem wEncOk (hv : shV h = true) (hp : PfAt s W cs B (shR h).toNat h.q.toNat g) (hcl : cs.length = 8) (hg : ∀ k q i, (g k q i).length < 2 ^ 20) (hb : fitsB h g = true) (hw : Wf s) (hro : ro ≤ s.n) (hF : FieldsAt s)
    (hk : ∀ A s', Grew s s' → s.n ≤ A → Bys s' (.slice (some ⟨A, 0, none⟩) (encP g (partsAll h)).length (encP g (partsAll h)).length) (encP g (partsAll h)) → K (.tuple (.mk [.slice (some ⟨A, 0, none⟩) (encP g (partsAll h)).length (encP g (partsAll h)).length, .int .i64 0])) s') :
    CallWP P ro 23 [.agg (.mk h.cells), .agg (.mk cs)] s K := by
  refine call_wp b23 rfl ?_
  rw [n23]
  unfold v23
  simp (maxSteps := 10000000) only [wW, reduceCtorEq, Nat.reduceEqDiff]
  refine box_rule hw.ent fun C s1 m1 => ?_
  refine box_rule m1.wf fun E s2 m2 => ?_
  have e1 := m1.eq
  have n1 := m1.n
  have e2 := m2.eq
  have n2 := m2.n
  have hn0 : (ent s).n = s.n := rfl
  have g02 := m1.grew.trans m2.grew
  have hC2 : s2.at C = some (.cells h.cells 23 false) := (m2.grew.same C (by omega)).trans m1.here
  have hE2 : s2.at E = some (.cells cs 39 false) := m2.here
  have hp0 : PfAt (ent s) W cs B (shR h).toNat h.q.toNat g := hp.keep (s' := ent s) (Nat.le_refl _) fun _ _ => rfl
  have hF2 : FieldsAt s2 := FieldsAt.grew (s := ent s) hF g02
  rw [wop_load, load_all ap_23 hC2 rfl, wopt_some, wop_load, load_all ap_39 hE2 hcl, wopt_some, wFits h hv (hp0.grew g02) hg m2.wf (by omega) hF2, hb]
  simp (maxSteps := 10000000) only [wW, reduceCtorEq, Nat.reduceEqDiff]
  rw [wop_load, load_all ap_23 hC2 rfl, wopt_some, wGSize h m2.wf (by omega) hF2, size_enc hv hb]
  have hsz := size_bound hv
  have hse := size_enc (g := g) hv hb
  rw [size_sum hv] at hse
  refine makeLC_rule se_32 ty_5 m2.wf (by decide) (by omega) (by omega) (by decide) fun A s3 m3 => ?_
  have e3 := m3.eq
  have n3 := m3.n
  rw [Int.toNat_natCast] at m3 ⊢
  refine alloc_rule ty_32 m3.wf fun X s4 m4 => ?_
  have e4 := m4.eq
  have n4 := m4.n
  refine store1_rule isz_32 m4.here m4.wf (by omega) (by decide) rfl fun s5 p5 => ?_
  have n5 := p5.n
  have g24 := m3.grew.trans m4.grew
  have g25 : Grew s2 s5 := p5.grew _ m2.wf g24 (by omega)
  have g05 := g02.trans g25
  have hC5 := (g25.same C (by omega)).trans hC2
  have hE5 := (g25.same E (by omega)).trans hE2
  have hA5 := (p5.rest A (by omega)).trans ((m4.grew.same A (by omega)).trans m3.here)
  have hX5 := p5.here
  rw [wop_load, load_all ap_23 hC5 rfl, wopt_some]
  refine wAllFn h p5.wf fun B9 s6 g6 hB9 hB9n => ?_
  have n6 := g6.n
  have w6 := p5.wf.grew g6
  have hB9l := St.at_lt hB9
  refine wrange (by omega) fun t ht => ?_
  have g7 : Grew s6 (s6.new (.defd (some []))) := .new _ _
  generalize hr0 : ({ state := .ready, pending := none, t := t, params := #[20].toList, assign := c23_1110100, body := c23_1110101, defers := s6.n } : Lp) = lp
  have g8 : Grew (s6.new (.defd (some []))) ((s6.new (.defd (some []))).new (.loop lp)) := .new _ _
  have hD8 : ((s6.new (.defd (some []))).new (.loop lp)).at s6.n = some (.defd (some [])) := (g8.same s6.n (Nat.lt_succ_self s6.n)).trans (at_newest _ _)
  have hL8 : ((s6.new (.defd (some []))).new (.loop lp)).at (s6.n + 1) = some (.loop lp) := at_newest (s6.new (.defd (some []))) _
  have w8 : Wf ((s6.new (.defd (some []))).new (.loop lp)) := (w6.new _).new _
  have n8 : ((s6.new (.defd (some []))).new (.loop lp)).n = s6.n + 2 := rfl
  have g68 := g7.trans g8
  have hlp : lp.state = .ready ∧ lp.pending = none ∧ lp.t = t ∧ lp.params = [20] ∧ lp.assign = c23_1110100 ∧ lp.body = c23_1110101 := by rw [← hr0]; exact ⟨rfl, rfl, rfl, rfl, rfl, rfl⟩
  clear hr0
  generalize (s6.new (.defd (some []))).new (.loop lp) = s8 at *
  have g58 := g6.trans g68
  have g08 := g05.trans g58
  have hlo8 : s8.lo = s.n := g08.lo
  refine wAllJ (h := h) lp (EcJ (ent s) h cs g C E A X (s6.n + 1) s6.n (encP g (partsAll h)).length lp) (fun _ => False) hv ((g68.same B9 hB9l).trans hB9) (by rw [hlp.2.2.2.1]; rfl) EcJ.cli (by omega) (by omega) (fun i M s' hi hJ => ?_) (M0 := [s6.n + 1, A, X]) ?_ ?_ (fun M s' hJ => ?_) (fun s' hS => hS.elim)
  · refine ecRound ht hlp ?_ ?_ hp0 hv hg (by omega) ⟨by omega, by omega, by omega, by omega, by omega, by omega⟩ ⟨by omega, by omega, by omega, by omega, by omega, by omega, by omega, by omega, by omega, by omega, by omega, by omega⟩ hi hJ
    · simp only [U, tset_eq, wW, reduceCtorEq, Nat.reduceEqDiff]
    · simp only [U, tset_eq, wW, reduceCtorEq, Nat.reduceEqDiff]
  · refine ⟨w8.ent, by show s.n ≤ s8.n; omega, fun A hA => g08.same A hA, by show s.n ≤ s8.n; omega, hL8, hD8, (g58.same C (by omega)).trans hC5, (g58.same E (by omega)).trans hE5, ⟨_, (g58.same A (by omega)).trans hA5, ?_, ?_, fun y hy => ?_⟩, (g58.same X (by omega)).trans hX5, rfl⟩
    · rw [zeroList_len]; exact Nat.mul_one _
    · simp [encP]
    · exact ⟨0, zeroU8 hy⟩
  · simp only [List.mem_cons, List.not_mem_nil, or_false, not_or]
    exact ⟨by omega, by omega, by omega⟩
  · refine ⟨lp, .normal, hJ.loop, .inl hlp.1, by rw [hlp.2.1]; rfl, ?_⟩
    have wf' : Wf ({ s' with lo := min s8.lo s'.lo } : St) := ⟨by show min s8.lo s'.lo ≤ s'.n; have := hJ.wf.lo; omega, hJ.wf.len⟩
    have pe := Put.mk' wf' (St.at_lt (s := ({ s' with lo := min s8.lo s'.lo } : St)) hJ.loop) (.loop { lp with state := .exhausted })
    generalize ({ s' with lo := min s8.lo s'.lo } : St).put (s6.n + 1) (.loop { lp with state := .exhausted }) = se at pe ⊢
    have hne := pe.n
    have hne' : se.n = s'.n := hne
    have hXe := (pe.rest X (by omega)).trans hJ.x
    have hDe : se.at s6.n = some (.defd (some [])) := (pe.rest _ (by omega)).trans hJ.dfr
    have hJn : s.n ≤ s'.n := hJ.n
    have hJlo : s.n ≤ s'.lo := hJ.lo
    obtain ⟨c, hA, hcl', hct, _⟩ := hJ.a
    rw [List.take_length] at hct hXe
    have hAe := (pe.rest A (by omega)).trans hA
    simp (maxSteps := 10000000) only [U, tset_eq, wW, reduceCtorEq, Nat.reduceEqDiff]
    rw [wop_load, load_one ap_32 hXe rfl, wopt_some]
    refine ⟨hDe, by omega, ?_⟩
    have pd := Put.mk' pe.wf (St.at_lt hDe) (.defd none)
    generalize se.put s6.n (.defd none) = sd at pd ⊢
    have nd := pd.n
    have hAd := (pd.rest A (by omega)).trans hAe
    have hlod : sd.lo = s.n := by
      rw [pd.lo, pe.lo]
      show min (min (min s8.lo s'.lo) (s6.n + 1)) s6.n = s.n
      omega
    rw [wdefers_nil]
    refine wfin_new hw ⟨by omega, hlod, fun A hA => ?_, fun _ => pd.wf.len⟩ rfl fun s9 g9 hn9 hat9 => hk A s9 g9 (by omega) ?_
    · have hA' : A < s.n := hA
      rw [pd.rest A (by omega), pe.rest A (by omega)]
      exact hJ.same A hA
    · refine ⟨_, _, rfl, by rw [List.length_map, Nat.mul_one], ⟨Nat.le_refl _, fun h => (by cases h), fun x hx => by cases hx; exact .inl rfl⟩, fun _ => ⟨A, 0, none, c, _, _, rfl, rfl, (hat9 A).trans hAd, ?_⟩⟩
      rw [List.drop_zero, Nat.mul_one]
      exact hct
end
end Go.VE
/- Bytes as a text; equality. -/
namespace Go.VE
open Go Go.Proofs
set_option maxRecDepth 20000
theorem wop_eql_of {P : Program} [Memo] {ro : Nat} {t r ty : TypeId} {xs ys : List Value} {c : Bool} (hx : flatL xs = true) (hy : flatL ys = true) (hg : P.eqGuardType P.depth t = false) (h : runPure P (Op.equal t (.agg (.mk xs)) (.agg (.mk ys))) = some c) {s : St} {K : Value → St → Prop} :
    wop P ro (.binOp .eql t (.const (.agg (.mk xs))) (.const (.agg (.mk ys))) r) ty s K = K (.bool c) s := by
  have e : apure P .e (mkO (.binOp .eql t (.const (.agg (.mk xs))) (.const (.agg (.mk ys))) r) ty) = some (.val (.bool c)) := by
    unfold apure
    have e2 : runPure P (execOp (aval .e) (mkO (.binOp .eql t (.const (.agg (.mk xs))) (.const (.agg (.mk ys))) r) ty)) = some (Next.value (.bool c)) := by
      show runPure P ((do eqGuard .eql t (.const (.agg (.mk xs))) (.const (.agg (.mk ys))) (.agg (.mk xs)) (.agg (.mk ys)); binOp .eql t (.agg (.mk xs)) (.agg (.mk ys))) >>= fun v => pure (Next.value v)) = _
      rw [rp_bind, rp_bind]
      have e3 : runPure P (eqGuard .eql t (.const (.agg (.mk xs))) (.const (.agg (.mk ys))) (.agg (.mk xs)) (.agg (.mk ys))) = some () := by
        show runPure P (if (!P.eqGuardType P.depth t) = true then pure () else _) = _
        rw [hg]; rfl
      rw [e3]
      simp only [Option.bind_some]
      show (runPure P (Op.equal t (.agg (.mk xs)) (.agg (.mk ys)) >>= fun b => pure (Value.bool b))).bind _ = _
      rw [rp_bind, h]
      rfl
    rw [e2]
    rfl
  have hf : ∀ l : List Value, flatL l = true → flat' (.agg (.mk l)) = true := fun l hl => by
    show (false || flatL l) = true
    rw [hl]; rfl
  show wfol P ro K (abin P .e (mkO (.binOp .eql t (.const (.agg (.mk xs))) (.const (.agg (.mk ys))) r) ty) s .eql t (.agg (.mk xs)) (.agg (.mk ys))) = _
  simp only [abin, hf xs hx, hf ys hy, Bool.and_self, cond_true, e]
  rfl
section
variable {ro : Nat} {s : St} {K : Value → St → Prop}
theorem unStr : P.underlying 9 = some .string := by kernel_rfl
theorem wop_eql_str (a b : ByteArray) (r ty : TypeId) : wop P ro (.binOp .eql 9 (.const (.string a)) (.const (.string b)) r) ty s K = K (.bool (a.toList == b.toList)) s := by
  have e : apure P .e (mkO (.binOp .eql 9 (.const (.string a)) (.const (.string b)) r) ty) = some (.val (.bool (a.toList == b.toList))) := rfl
  show wfol P ro K (abin P .e (mkO (.binOp .eql 9 (.const (.string a)) (.const (.string b)) r) ty) s .eql 9 (.string a) (.string b)) = _
  have hf : ∀ b : ByteArray, flat' (.string b) = true := fun _ => rfl
  simp only [abin, hf, Bool.and_self, cond_true, e]
  rfl
theorem u8s_map : ∀ l : List Int, u8s (l.map (.int .u8)) = some l
  | [] => rfl
  | x :: l => by
    show (u8s (l.map (.int .u8))).map (x :: ·) = _
    rw [u8s_map l]; rfl
theorem conv_str {A o n c : Nat} {sp : Option Nat} {l : List Int} (h : Bys s (.slice (some ⟨A, o, sp⟩) n c) l) (ty : TypeId) : wop P ro (.convert 32 9 (.const (.slice (some ⟨A, o, sp⟩) n c))) ty s K = K (strOf l) s := by
  have hn : n = l.length := by
    obtain ⟨a, c', e, _⟩ := h
    cases e; rfl
  subst hn
  obtain ⟨_, hf⟩ := Sl.first h
  have u1 : P.underlying 32 = some (.slice 5) := un_32
  have u2 : isU8 P 5 = true := by kernel_rfl
  show wfol P ro K (aconv P .e (mkO (.convert 32 9 (.const (.slice (some ⟨A, o, sp⟩) l.length c))) ty) s 32 9 (.slice (some ⟨A, o, sp⟩) l.length c)) = _
  simp only [aconv, u1, unStr, u2, cond_true]
  rw [wfol_with]
  unfold astr
  rw [hf, Option.bind_some, u8s_map]
  rfl
theorem eql_bytes (l : List Int) (r ty : TypeId) : wop P ro (.binOp .eql 9 (.const (strOf l)) (.const (strOf l)) r) ty s K = K (.bool true) s := by
  unfold strOf
  rw [wop_eql_str]
  have : ∀ l : List UInt8, (l == l) = true := fun l => beq_self_eq_true l
  rw [this]
end
end Go.VE
/- The example that every law of proofs looks at: attestorlaw17.awake. -/
namespace Go.VE
open Go Go.Proofs
set_option maxRecDepth 20000
def tinyS : Shp := ⟨0, 2, 1, 1, 2, 0, 1, 0, 1⟩
def tinyB (i : Nat) (x : Int) : List Int := (List.replicate 176 (0 : Int)).set i x
theorem tiny_v : shV tinyS = true := by decide +kernel
theorem tiny_17 : (partsR tinyS).length = 17 := by decide +kernel
theorem tiny_p0 : (partsR tinyS)[0]? = some ⟨1, 0, 0, 4⟩ := by kernel_rfl
theorem tiny_p3 : (partsR tinyS)[3]? = some ⟨6, 0, 0, 4⟩ := by kernel_rfl
theorem tiny_p8 : (partsR tinyS)[8]? = some ⟨9, 0, 1, 4⟩ := by kernel_rfl
theorem tiny_size : sizeM tinyS = 176 := by decide +kernel
noncomputable def tinyG : Nat → Nat → Nat → List Int := (goneG (tinyB 4 7) (partsR tinyS)).2
theorem tiny_dec : decE (tinyB 4 7) (fP 0) (goneG (tinyB 4 7) (partsR tinyS)).1 = (0, 0) := by decide +kernel
theorem tiny_fits : fitsB tinyS tinyG = true := by decide +kernel
theorem tiny_enc : encP tinyG (partsAll tinyS) = tinyB 4 7 := by decide +kernel
theorem tiny_dig : tinyG 1 0 0 = [0, 7, 0, 0] := by decide +kernel
theorem tinyB_ok (i : Nat) {x : Int} (hx : 0 ≤ x ∧ x < 256) : ∀ y ∈ tinyB i x, 0 ≤ y ∧ y < 256 := fun y hy => by
  rcases List.mem_or_eq_of_mem_set hy with h | rfl
  · rw [List.eq_of_mem_replicate h]; decide
  · exact hx
theorem tinyB_len (i : Nat) (x : Int) : (tinyB i x).length = 176 := by unfold tinyB; rw [List.length_set, List.length_replicate]
theorem goneG_len {b : List Int} {l : List Prt} (h : ∀ x ∈ l, x.n.toNat < 2 ^ 20) (k q i : Nat) : ((goneG b l).2 k q i).length < 2 ^ 20 := by
  have main : ∀ (l : List Prt) (kg : Nat × (Nat → Nat → Nat → List Int)), (∀ x ∈ l, x.n.toNat < 2 ^ 20) → (∀ k q i, (kg.2 k q i).length < 2 ^ 20) → ∀ k q i, ((l.foldl (stepG b) kg).2 k q i).length < 2 ^ 20 := by
    intro l
    induction l with
    | nil => intro kg _ h; exact h
    | cons x l ih =>
      intro kg hx hk
      refine ih _ (fun y hy => hx y (List.mem_cons_of_mem _ hy)) fun k q i => ?_
      show (updG kg.2 x.k.toNat x.q.toNat x.i.toNat (numsB b kg.1 x.n.toNat) k q i).length < _
      unfold updG
      split
      · rw [numsB_len]; exact hx x List.mem_cons_self
      · exact hk k q i
  refine main l (0, g0) h (fun k q i => ?_) k q i
  show (g0 k q i).length < _
  unfold g0
  split
  · decide
  · split <;> simp
theorem PrtZ.n1 {R Q : Nat} {x : Prt} (h : PrtZ R Q x) : x.n.toNat < 2 ^ 20 := by
  obtain ⟨k, q, i, n, rfl, _, h, _⟩ := h
  show (n : Int).toNat < _
  omega
theorem gone_len {h : Shp} (hv : shV h = true) (b : List Int) (k q i : Nat) : ((goneG b (partsR h)).2 k q i).length < 2 ^ 20 := goneG_len (fun x hx => (partsR_ok hv x hx).n1) k q i
theorem PfAt.list {s : St} {W : Nat → Prop} {cs : List Value} {B : PfB} {R Q : Nat} {g : Nat → Nat → Nat → List Int} (h : PfAt s W cs B R Q g) :
    ∃ v0 v1 v2 v5 x3 x6, cs = [v0, v1, v2, .int .u64 x3, .slice (some ⟨B.rb, 0, none⟩) R R, v5, .int .u64 x6, .slice (some ⟨B.ob, 0, none⟩) Q Q] ∧ SlV s W 2 v0 (g 1 0 0) ∧ SlV s W 2 v1 (g 3 0 0) ∧ SlV s W 2 v2 (g 4 0 0) ∧ g 2 0 0 = [x3] ∧ SlV s W 1 v5 (g 6 0 0) ∧ g 7 0 0 = [x6] := by
  have hc : ∀ {k : Nat} (hk : k = 1 ∨ k = 2 ∨ k = 3 ∨ k = 4 ∨ k = 6 ∨ k = 7), SlotC s W k cs (slotA B k 0 0).2 (g k 0 0) := fun {k} hk => by
    obtain ⟨c, hc, hS⟩ := h.sl k 0 0 (.top k hk)
    have e0 : (slotA B k 0 0).1 = none := by rcases hk with rfl | rfl | rfl | rfl | rfl | rfl <;> rfl
    rw [e0] at hc
    simp only [cellsAt, Option.some.injEq] at hc
    rw [hc]
    exact hS
  have hs : ∀ {k : Nat} (_ : k = 1 ∨ k = 3 ∨ k = 4 ∨ k = 6), ∃ v, cs[(slotA B k 0 0).2]? = some v ∧ SlV s W (if k = 6 ∨ k = 8 then 1 else 2) v (g k 0 0) := fun {k} hk => by
    have hS := hc (k := k) (by omega)
    unfold SlotC at hS
    rw [if_neg (by omega), if_neg (by omega)] at hS
    exact hS
  have hn : ∀ {k : Nat} (_ : k = 2 ∨ k = 7), ∃ x, g k 0 0 = [x] ∧ cs[(slotA B k 0 0).2]? = some (.int .u64 x) := fun {k} hk => by
    have hS := hc (k := k) (by omega)
    unfold SlotC at hS
    rw [if_pos hk] at hS
    exact hS
  obtain ⟨v0, a0, b0⟩ := hs (k := 1) (by omega)
  obtain ⟨v1, a1, b1⟩ := hs (k := 3) (by omega)
  obtain ⟨v2, a2, b2⟩ := hs (k := 4) (by omega)
  obtain ⟨v5, a5, b5⟩ := hs (k := 6) (by omega)
  obtain ⟨x3, b3, a3⟩ := hn (k := 2) (by omega)
  obtain ⟨x6, b6, a6⟩ := hn (k := 7) (by omega)
  have h4 := h.c4
  have h7 := h.c7
  have hl := h.cl
  refine ⟨v0, v1, v2, v5, x3, x6, ?_, b0, b1, b2, b3, b5, b6⟩
  simp only [slotA] at a0 a1 a2 a3 a5 a6
  match cs, hl with
  | [y0, y1, y2, y3, y4, y5, y6, y7], _ =>
    simp only [List.getElem?_cons_zero, List.getElem?_cons_succ, Option.some.injEq] at a0 a1 a2 a3 a5 a6 h4 h7
    rw [a0, a1, a2, a3, a5, a6, h4, h7]
theorem Sl.dig {s : St} {v : Value} {m : Nat} {l : List Int} (h : Sl s v 2 m (l.map (.int .u64))) (hl : l.length = m * 2) {i : Nat} (hi : i < m) : ∃ p, aindexAddr P 33 v (.int .i64 (i : Int)) = some p ∧ aload P s 55 p = some (.agg (.mk (((l.drop (i * 2)).take 2).map (.int .u64)))) := by
  obtain ⟨A, o, h1, h2, h3⟩ := Sl.ix h (by decide) (show (0 : Int) ≤ i by omega) (show (i : Int) < m by omega)
  refine ⟨_, h1 se_33 isz_55, ?_⟩
  rw [loadN ap_55]
  have := h3 0 2 (by decide) (by decide)
  rw [Nat.add_zero, Nat.add_zero, Int.toNat_natCast] at this
  rw [this, cut_eq (by rw [List.length_map]; omega), ← List.map_drop, ← List.map_take]
  rfl
theorem veq_sl {v : Value} {s : St} {W : Nat → Prop} {sz : Nat} {l : List Int} (h : SlV s W sz v l) : veq v v = true := by
  obtain ⟨m, _, ⟨a, c, rfl, _⟩, _⟩ := h
  simp [veq]
theorem PfAt.veq {s : St} {W : Nat → Prop} {cs : List Value} {B : PfB} {R Q : Nat} {g : Nat → Nat → Nat → List Int} (h : PfAt s W cs B R Q g) : veq (.agg (.mk cs)) (.agg (.mk cs)) = true := by
  obtain ⟨v0, v1, v2, v5, x3, x6, rfl, h0, h1, h2, h3, h5, h6⟩ := h.list
  simp only [VE.veq, veqA, veqL, veq_sl h0, veq_sl h1, veq_sl h2, veq_sl h5, Bool.and_true, Bool.true_and]
  simp
theorem spliceSet {cs : List Value} {i : Nat} {v : Value} (h : i < cs.length) : splice cs i [v] = cs.set i v := by
  rw [List.set_eq_take_append_cons_drop, if_pos h]
  rfl
section
variable {ro : Nat} {s : St} {K : Value → St → Prop}
theorem bldTiny : abuild P 23 (partVals .e [(1, .const (.int .i64 2)), (2, .const (.int .i64 1)), (3, .const (.int .i64 1)), (4, .const (.int .i64 2)), (6, .const (.int .i64 1)), (8, .const (.int .i64 1))]) = some (.agg (.mk tinyS.cells)) := by kernel_rfl
theorem bldP1 : abuild P 30 (partVals .e [(0, .const (.int .u8 1)), (3, .const (.int .i64 4))]) = some (.agg (.mk (Prt.cells ⟨1, 0, 0, 4⟩))) := by kernel_rfl
theorem bldP9 : abuild P 30 (partVals .e [(0, .const (.int .u8 9)), (2, .const (.int .i64 1)), (3, .const (.int .i64 4))]) = some (.agg (.mk (Prt.cells ⟨9, 0, 1, 4⟩))) := by kernel_rfl
theorem bldD7 : abuild P 55 (partVals .e [(0, .const (.int .u64 0)), (1, .const (.int .u64 7))]) = some (.agg (.mk (([0, 7] : List Int).map (.int .u64)))) := by kernel_rfl
theorem eqlDig (xs ys : List Int) (hx : xs.length = 2) (hy : ys.length = 2) {ty r : TypeId} : wop P ro (.binOp .eql 55 (.const (.agg (.mk (xs.map (.int .u64))))) (.const (.agg (.mk (ys.map (.int .u64))))) r) ty s K = K (.bool (decide (xs = ys))) s :=
  wop_eql_of (flat_u64s _) (flat_u64s _) (by kernel_rfl) (eqArr (n := 2) (e := 34) (by kernel_rfl) unU64 isz_34 partU64 xs ys hx hy)
theorem wTiny (hw : Wf s) (hro : ro ≤ s.n) : CallWP P ro 25 [] s K = K (.agg (.mk tinyS.cells)) s := by
  refine callEq (call_wp b25 rfl ?_) K
  rw [n25]
  unfold v25
  simp (maxSteps := 10000000) only [wW, reduceCtorEq, Nat.reduceEqDiff]
  refine alloc_rule ty_23 hw.ent fun C s1 m1 => ?_
  have e1 := m1.eq
  have hn0 : (ent s).n = s.n := rfl
  rw [bldTiny, wopt_some]
  refine storeAll_rule isz_23 m1.here (l := tinyS.cells) rfl (by decide) m1.wf (by omega) rfl rfl fun s2 p2 => ?_
  rw [wop_load, load_all ap_23 p2.here rfl, wopt_some]
  exact fin_flat rfl (p2.grew _ hw.ent m1.grew (by omega)) ⟨rfl, rfl⟩
theorem tinyS_bytes (A : Nat) {s : St} {i : Nat} {x : Int} (hA : s.at A = some (.cells (splice (zeroList (Value.int .u8 0).cells (Int.toNat 176 * 1)) i [.int .u8 x]) 5 false)) (hi : i < 176) : Bys s (.slice (some ⟨A, 0, none⟩) 176 176) (tinyB i x) := by
  have hlen := tinyB_len i x
  unfold Bys
  rw [hlen]
  refine ⟨_, _, rfl, by rw [List.length_map, hlen], ⟨Nat.le_refl _, fun h => (by cases h), fun x hx => by cases hx; exact .inl rfl⟩, fun _ => ⟨A, 0, none, _, _, _, rfl, rfl, hA, ?_⟩⟩
  have hz : zeroList (Value.int .u8 0).cells (Int.toNat 176 * 1) = (List.replicate 176 (0 : Int)).map (.int .u8) := by kernel_rfl
  rw [List.drop_zero, hz, spliceSet (by rw [List.length_map, List.length_replicate]; exact hi)]
  unfold tinyB
  rw [List.map_set]
  exact List.take_of_length_le (by rw [List.length_set, List.length_map, List.length_replicate]; decide)
end
end Go.VE
/- attestorlaw17.awake. -/
namespace Go.VE
open Go Go.Proofs
set_option maxRecDepth 20000
section
variable {ro : Nat} {s : St} {K : Value → St → Prop}
theorem wAwake (hw : Wf s) (hro : ro ≤ s.n) (hF : FieldsAt s) : CallWP P ro 16 [] s K = K (.bool true) s := by
  refine callEq (call_wp b16 rfl ?_) K
  rw [n16]
  unfold v16
  simp (maxSteps := 10000000) only [wW, reduceCtorEq, Nat.reduceEqDiff]
  have hFe : FieldsAt (ent s) := hF
  have hn0 : (ent s).n = s.n := rfl
  have hroe : ro ≤ (ent s).n := hro
  have h0n : 0 < s.n := hF.lt
  have hv := tiny_v
  rw [wTiny hw.ent hroe]
  refine wGParts tinyS hw.ent hroe hFe (fun h => by rw [hv] at h; cases h) fun _ v s1 g1 hP hPA => ?_
  have n1 := g1.n
  have w1 := hw.ent.grew g1
  have hF1 := hFe.grew g1
  have h17 := tiny_17
  rw [Sl.wlen hP se_24, h17]
  simp (maxSteps := 10000000) only [wW, reduceCtorEq, Nat.reduceEqDiff]
  have hget : ∀ (i : Nat) (p : Prt) (_ : i < 17), (partsR tinyS)[i]? = some p → ∃ A o, aindexAddr P 24 v (.int .i64 (i : Int)) = some (.pointer (some ⟨A, o, none⟩)) ∧ aload P s1 30 (.pointer (some ⟨A, o, none⟩)) = some (.agg (.mk p.cells)) := fun i p h hp => by
    have hi : i < (partsR tinyS).length := by omega
    obtain ⟨A, o, q1, q2⟩ := hP.ix hi
    rw [List.getElem?_eq_getElem hi] at hp
    cases hp
    exact ⟨A, o, q1, q2⟩
  have hget3 : ∀ (i : Nat) (p : Prt) (_ : i < 17), (partsR tinyS)[i]? = some p → ∃ A o, aindexAddr P 24 v (.int .i64 (i : Int)) = some (.pointer (some ⟨A, o, none⟩)) ∧ (∀ k, k < 4 → (acells (s1.at A)).bind (fun c => c[o + k]?) = p.cells[k]?) := fun i p h hp => by
    have hi : i < (partsR tinyS).length := by omega
    obtain ⟨A, o, h1, h2, h3⟩ := Sl.ix hP (by decide) (show (0 : Int) ≤ i by omega) (show (i : Int) < (partsR tinyS).length by omega)
    refine ⟨A, o, h1 se_24 isz_30, fun k hk => ?_⟩
    rw [h2 k hk, Int.toNat_natCast, prts_get _ hp hk]
  obtain ⟨A0, o0, q0, r0⟩ := hget 0 _ (by decide) tiny_p0
  obtain ⟨A3, o3, q3, r3⟩ := hget3 3 _ (by decide) tiny_p3
  obtain ⟨A8, o8, q8, r8⟩ := hget 8 _ (by decide) tiny_p8
  have r30 : aload P s1 28 (.pointer (some ⟨A3, o3 + 0, none⟩)) = some (.int .u8 6) := by rw [load1 ap_28]; exact r3 0 (by decide)
  have r33 : aload P s1 3 (.pointer (some ⟨A3, o3 + 3, none⟩)) = some (.int .i64 4) := by rw [load1 ap_3]; exact r3 3 (by decide)
  have q0' : aindexAddr P 24 v (.int .i64 0) = some (.pointer (some ⟨A0, o0, none⟩)) := q0
  have q3' : aindexAddr P 24 v (.int .i64 3) = some (.pointer (some ⟨A3, o3, none⟩)) := q3
  have q8' : aindexAddr P 24 v (.int .i64 8) = some (.pointer (some ⟨A8, o8, none⟩)) := q8
  rw [wop_indexAddr, q0', wopt_some, wop_load, r0, wopt_some, bldP1, wopt_some, neqPart_same, wdec_false, wop_indexAddr, q3', wopt_some, fa_30_0, wopt_some, wop_load, r30, wopt_some]
  simp (maxSteps := 10000000) only [wW, reduceCtorEq, Nat.reduceEqDiff]
  rw [if_neg (by decide), wop_indexAddr, q3', wopt_some, fa_30_3, wopt_some, wop_load, r33, wopt_some]
  simp (maxSteps := 10000000) only [wW, reduceCtorEq, Nat.reduceEqDiff]
  rw [if_neg (by decide), wop_indexAddr, q8', wopt_some, wop_load, r8, wopt_some, bldP9, wopt_some, neqPart_same, wdec_false, wTiny w1 (by omega), wGSize tinyS w1 (by omega) hF1, tiny_size]
  simp (maxSteps := 10000000) only [wW, reduceCtorEq, Nat.reduceEqDiff]
  rw [if_neg (by decide)]
  refine makeLC_rule se_32 ty_5 w1 (by decide) (by decide) (by decide) (by decide) fun A s2 m2 => ?_
  have e2 := m2.eq
  have n2 := m2.n
  have hix : aindexAddr P 32 (.slice (some ⟨A, 0, none⟩) (Int.toNat 176) (Int.toNat 176)) (.int .i64 4) = some (.pointer (some ⟨A, 4, none⟩)) := by
    simp only [aindexAddr, un_32, isz_5, Option.bind_some, aplace]
    rfl
  rw [wop_indexAddr, hix, wopt_some]
  refine store1_rule isz_5 m2.here m2.wf (by omega) (by rw [zeroList_len]; decide) rfl fun s3 p3 => ?_
  have n3 := p3.n
  have g3 : Grew s1 s3 := p3.grew _ w1 m2.grew (by omega)
  have g03 := g1.trans g3
  have hF3 := hF1.grew g3
  have hA3 := p3.here
  have hb3 : Bys s3 (.slice (some ⟨A, 0, none⟩) 176 176) (tinyB 4 7) := tinyS_bytes A hA3 (by decide)
  have hAl := St.at_lt hA3
  rw [wTiny p3.wf (by omega)]
  refine wDecode tinyS (tinyB_ok 4 (by decide)) (by rw [tinyB_len]; decide) hb3 (fun A' o sp n c e => by cases e; exact hAl) p3.wf (by omega) hF3 (fun h => by rw [hv] at h; cases h) (fun _ h => absurd (by rw [show tinyS.f = 0 from rfl, tiny_dec]) h) fun _ _ _ cs B s4 W g4 _ hW hWB hp => ?_
  have n4 := g4.n
  have w4 := p3.wf.grew g4
  have hcl : cs.length = 8 := hp.cl
  simp (maxSteps := 10000000) only [wW, reduceCtorEq, Nat.reduceEqDiff, List.getElem?_cons_zero, List.getElem?_cons_succ]
  refine alloc_rule ty_39 w4 fun Z s5 m5 => ?_
  have e5 := m5.eq
  have n5 := m5.n
  refine storeAll_rule isz_39 m5.here (l := cs) hcl (by decide) m5.wf (by omega) rfl hp.one fun s6 p6 => ?_
  have n6 := p6.n
  have g46 : Grew s4 s6 := p6.grew _ w4 m5.grew (by omega)
  have g36 := g4.trans g46
  have hF6 := hF3.grew g36
  have hp6 := hp.grew g46
  rw [wop_load, load_all ap_39 p6.here hcl, wopt_some]
  refine ⟨hp.veq, ?_⟩
  rw [wTiny p6.wf (by omega)]
  refine ⟨.refl _, ?_⟩
  refine wEncOk (h := tinyS) (g := tinyG) hv hp6 hcl (gone_len hv _) tiny_fits p6.wf (by omega) hF6 fun A7 s7 g7 hA7 hb7 => ?_
  rw [tiny_enc, tinyB_len] at hb7 ⊢
  have n7 := g7.n
  have g37 := g36.trans g7
  simp (maxSteps := 10000000) only [wW, reduceCtorEq, Nat.reduceEqDiff, List.getElem?_cons_zero, List.getElem?_cons_succ]
  obtain ⟨v0, v1, v2, v5, x3, x6, hcs, hV, _⟩ := (hp6.grew g7).list
  have hZ7 : s7.at Z = some (.cells cs 39 false) := (g7.same Z (St.at_lt p6.here)).trans p6.here
  have hv0 : cs[0]? = some v0 := by rw [hcs]; rfl
  have hld0 : aload P s7 33 (.pointer (some ⟨Z, 0, none⟩)) = some v0 := by rw [load1 ap_33, acells_some hZ7]; exact hv0
  have hdig : (goneG (tinyB 4 7) (partsR tinyS)).2 1 0 0 = [0, 7, 0, 0] := tiny_dig
  rw [hdig] at hV
  obtain ⟨m, hm, hSl, _⟩ := hV
  have hm2 : m = 2 := by simp at hm; omega
  subst hm2
  obtain ⟨pd, i1, i2⟩ := hSl.dig (i := 0) rfl (by decide)
  have i1' : aindexAddr P 33 v0 (.int .i64 0) = some pd := i1
  rw [fa_39_0, wopt_some, wop_load, hld0, wopt_some, Sl.wlen hSl se_33]
  simp (maxSteps := 10000000) only [wW, reduceCtorEq, Nat.reduceEqDiff]
  rw [if_pos (by decide), wop_load, hld0, wopt_some, wop_indexAddr, i1', wopt_some, wop_load, i2, wopt_some, bldD7, wopt_some]
  have hb3' : Bys s7 (.slice (some ⟨A, 0, none⟩) 176 176) (tinyB 4 7) := Sl.grew hb3 g37.same
  show wop P ro (.binOp .eql 55 (.const (.agg (.mk (([0, 7] : List Int).map (.int .u64))))) (.const (.agg (.mk (([0, 7] : List Int).map (.int .u64))))) _) _ _ _
  rw [eqlDig _ _ rfl rfl, decide_eq_true rfl]
  simp (maxSteps := 10000000) only [wW, reduceCtorEq, Nat.reduceEqDiff]
  rw [show Int.toNat 176 = 176 from rfl, conv_str hb3', conv_str hb7, eql_bytes]
  exact fin_flat rfl (g03.trans g37) ⟨rfl, rfl⟩
end
end Go.VE
/- ProofKnown: what is looked at, the last part. -/
namespace Go.VE
open Go Go.Proofs
set_option maxRecDepth 20000
theorem sumN_app : ∀ a b : List Prt, sumN (a ++ b) = sumN a + sumN b
  | [], b => by simp [sumN]
  | x :: a, b => by
    have := sumN_app a b
    simp only [List.cons_append, sumN]
    omega
end Go.VE
/- ProofKnown. -/
namespace Go.VE
open Go Go.Proofs
set_option maxRecDepth 20000
section
variable {ro : Nat} {s : St} {K : Value → St → Prop}
end
end Go.VE
/- The parts of a proof in bytes: what is read is what was written (plain law). -/
namespace Go.VE
open Go Go.Proofs
set_option maxRecDepth 20000
def keyP (x : Prt) : Nat × Nat × Nat := (x.k.toNat, x.q.toNat, x.i.toNat)
def rkP : Nat × Nat × Nat → Nat
  | (k, q, i) => if k ≤ 7 then k * 1000 + i else 10000 * (q + 1) + (if k = 8 then i else if k = 9 then 10 + i else if k = 10 then 100 + 2 * i else 101 + 2 * i)
def Srt (l : List Prt) (m : Nat) : Prop := l.Pairwise (fun x y => rkP (keyP x) < rkP (keyP y)) ∧ ∀ x ∈ l, rkP (keyP x) < m
theorem Srt.le {l : List Prt} {m m' : Nat} (h : Srt l m) (hm : m ≤ m') : Srt l m' := ⟨h.1, fun x hx => Nat.lt_of_lt_of_le (h.2 x hx) hm⟩
theorem Srt.snoc {l : List Prt} {m m' : Nat} {x : Prt} (h : Srt l m) (h1 : m ≤ rkP (keyP x)) (h2 : rkP (keyP x) < m') : Srt (l ++ [x]) m' := by
  refine ⟨List.pairwise_append.2 ⟨h.1, List.pairwise_singleton _ _, fun a ha b hb => ?_⟩, fun y hy => ?_⟩
  · simp only [List.mem_cons, List.not_mem_nil, or_false] at hb
    subst hb
    exact Nat.lt_of_lt_of_le (h.2 a ha) h1
  · rcases List.mem_append.1 hy with hy | hy
    · have := h.2 y hy; omega
    · simp only [List.mem_cons, List.not_mem_nil, or_false] at hy
      subst hy; exact h2
theorem it_srt {g : Nat → List Prt → List Prt} {f : Nat → Nat} : ∀ (n : Nat) {l : List Prt}, Srt l (f 0) → (∀ i, i < n → ∀ l, Srt l (f i) → Srt (g i l) (f (i + 1))) → Srt (it g n l) (f n)
  | 0, _, h, _ => h
  | n + 1, l, h, hg => hg n (by omega) _ (it_srt n h fun i hi => hg i (by omega))
theorem partsAll_srt {h : Shp} (hv : shV h = true) : ∃ m, Srt (partsAll h) m := by
  unfold shV inR at hv
  simp only [Bool.and_eq_true, decide_eq_true_eq] at hv
  have hR : (shR h).toNat ≤ 4 := by unfold shR; omega
  have hpre : Srt (preA h) 5000 := by
    have h0 : Srt [] 0 := ⟨List.Pairwise.nil, fun x hx => by cases hx⟩
    have h1 := h0.snoc (x := ⟨1, 0, 0, 2 * shC h (h.a + h.b)⟩) (m' := 1001) (Nat.zero_le _) (by decide : rkP (1, 0, 0) < 1001)
    have h2 := h1.snoc (x := ⟨2, 0, 0, 1⟩) (m' := 2001) (by decide : 1001 ≤ rkP (2, 0, 0)) (by decide : rkP (2, 0, 0) < 2001)
    have h3 := h2.snoc (x := ⟨3, 0, 0, if h.w = 0 then 0 else 2 * shC h (h.a + h.b)⟩) (m' := 3001) (by decide : 2001 ≤ rkP (3, 0, 0)) (by decide : rkP (3, 0, 0) < 3001)
    exact h3.snoc (x := ⟨4, 0, 0, 2 * shC h (h.a + h.b)⟩) (m' := 5000) (by decide : 3001 ≤ rkP (4, 0, 0)) (by decide : rkP (4, 0, 0) < 5000)
  have hA : Srt (it (alA h) (shR h).toNat (preA h)) (5000 + (shR h).toNat) := it_srt (f := fun i => 5000 + i) _ hpre fun i hi l hl => by
    have e : rkP (keyP ⟨5, 0, (i : Nat), 2 * shC h (shH h i)⟩) = 5000 + i := rfl
    exact hl.snoc (by rw [e]; exact Nat.le_refl _) (by rw [e]; exact Nat.lt_succ_self _)
  have hmid : Srt (midA h) 10000 := by
    have h6 := hA.snoc (x := ⟨6, 0, 0, 2 ^ (h.a - 3 * shR h).toNat⟩) (m' := 6001) (by show 5000 + (shR h).toNat ≤ 6000; omega) (by decide : rkP (6, 0, 0) < 6001)
    have h7 := h6.snoc (x := ⟨7, 0, 0, 1⟩) (m' := 10000) (by decide : 6001 ≤ rkP (7, 0, 0)) (by decide : rkP (7, 0, 0) < 10000)
    unfold midA
    rw [List.append_assoc] at h7
    exact h7
  refine ⟨_, it_srt (f := fun j => 10000 * (j + 1)) h.q.toNat hmid fun j hj l hl => ?_⟩
  have h8 : Srt (it (al8 h j) 6 l) (10000 * (j + 1) + 6) := it_srt (f := fun i => 10000 * (j + 1) + i) _ hl fun i hi l hl => by
    have e : rkP (keyP ⟨8, j, (i : Nat), colAt h i⟩) = 10000 * (j + 1) + i := rfl
    exact hl.snoc (by rw [e]; exact Nat.le_refl _) (by rw [e]; exact Nat.lt_succ_self _)
  have h9 : Srt (it (al9 h j) 6 (it (al8 h j) 6 l)) (10000 * (j + 1) + (10 + 6)) := it_srt (f := fun i => 10000 * (j + 1) + (10 + i)) _ (h8.le (by omega)) fun i hi l hl => by
    have e : rkP (keyP ⟨9, j, (i : Nat), if colAt h i = 0 then 0 else 2 * shP h (h.a + h.b)⟩) = 10000 * (j + 1) + (10 + i) := rfl
    exact hl.snoc (by rw [e]; exact Nat.le_refl _) (by rw [e]; omega)
  have hB : Srt (alQ h j l) (10000 * (j + 1) + (100 + 2 * (shR h).toNat)) := it_srt (f := fun i => 10000 * (j + 1) + (100 + 2 * i)) _ (h9.le (by omega)) fun i hi l hl => by
    have e : rkP (keyP ⟨10, j, (i : Nat), 8⟩) = 10000 * (j + 1) + (100 + 2 * i) := rfl
    have e2 : rkP (keyP ⟨11, j, (i : Nat), 2 * shP h (shH h i)⟩) = 10000 * (j + 1) + (101 + 2 * i) := rfl
    have h1 := hl.snoc (x := ⟨10, j, (i : Nat), 8⟩) (m' := 10000 * (j + 1) + (101 + 2 * i)) (by rw [e]; exact Nat.le_refl _) (by rw [e]; omega)
    have h2 := h1.snoc (x := ⟨11, j, (i : Nat), 2 * shP h (shH h i)⟩) (m' := 10000 * (j + 1) + (100 + 2 * (i + 1))) (by rw [e2]; exact Nat.le_refl _) (by rw [e2]; omega)
    rw [List.append_assoc] at h2
    exact h2
  exact hB.le (by omega)
theorem goneG_at {b : List Int} {l : List Prt} (hs : l.Pairwise fun x y => rkP (keyP x) < rkP (keyP y)) : ∀ n, n ≤ l.length →
    (goneG b (l.take n)).1 = sumN (l.take n) ∧ (∀ j (hj : j < n) (hl : j < l.length), (goneG b (l.take n)).2 l[j].k.toNat l[j].q.toNat l[j].i.toNat = numsB b (sumN (l.take j)) l[j].n.toNat) ∧
      (∀ k q i, (∀ x ∈ l.take n, keyP x ≠ (k, q, i)) → (goneG b (l.take n)).2 k q i = g0 k q i)
  | 0, _ => ⟨rfl, fun j hj => by omega, fun k q i _ => rfl⟩
  | n + 1, hn => by
    obtain ⟨h1, h2, h3⟩ := goneG_at hs n (by omega)
    have hlt : n < l.length := by omega
    have ht := take_succ_eq (List.getElem?_eq_getElem hlt)
    have e1 : (goneG b (l.take (n + 1))).1 = (goneG b (l.take n)).1 + l[n].n.toNat := by rw [ht, goneG_snoc]; rfl
    have e2 : (goneG b (l.take (n + 1))).2 = updG (goneG b (l.take n)).2 l[n].k.toNat l[n].q.toNat l[n].i.toNat (numsB b (goneG b (l.take n)).1 l[n].n.toNat) := by rw [ht, goneG_snoc]; rfl
    refine ⟨?_, fun j hj hl => ?_, fun k q i hne => ?_⟩
    · rw [e1, h1, ht, sumN_app]; rfl
    · rw [e2]
      by_cases hjn : j = n
      · subst hjn
        unfold updG
        rw [if_pos ⟨rfl, rfl, rfl⟩, h1]
      · unfold updG
        rw [if_neg ?_]
        · exact h2 j (by omega) hl
        · rintro ⟨a, b', c⟩
          have hp := List.pairwise_iff_getElem.1 hs j n hl hlt (by omega)
          have hk : keyP l[j] = keyP l[n] := by unfold keyP; rw [a, b', c]
          rw [hk] at hp
          omega
    · rw [e2]
      unfold updG
      rw [if_neg ?_]
      · exact h3 k q i fun x hx => hne x (by rw [ht]; exact List.mem_append_left _ hx)
      · rintro ⟨rfl, rfl, rfl⟩
        exact hne l[n] (by rw [ht]; exact List.mem_append_right _ List.mem_cons_self) rfl
theorem goneG_1 (b : List Int) : ∀ (l : List Prt), (goneG b l).1 = sumN l := fun l => by
  have main : ∀ (l : List Prt) (kg : Nat × (Nat → Nat → Nat → List Int)), (l.foldl (stepG b) kg).1 = kg.1 + sumN l := by
    intro l
    induction l with
    | nil => intro kg; rfl
    | cons x l ih =>
      intro kg
      rw [List.foldl_cons, ih]
      show kg.1 + x.n.toNat + sumN l = kg.1 + (x.n.toNat + sumN l)
      omega
  unfold goneG
  rw [main]
  show 0 + _ = _
  omega
theorem leB_eq (x : Int) (j : Nat) (hj : j < 8) : leB x j = x / 2 ^ (8 * j) % 256 := by
  unfold leB
  rw [wrap_u8_mod, show min (8 * j) 64 = 8 * j by omega, Int.fdiv_eq_ediv_of_nonneg _ (Int.le_of_lt (Int.pow_pos (by decide)))]
theorem leB_sum {x : Int} (h0 : 0 ≤ x) (h1 : x < 2 ^ 32) : leB x 0 + leB x 1 * 2 ^ 8 + leB x 2 * 2 ^ 16 + leB x 3 * 2 ^ 24 = x := by
  rw [leB_eq _ _ (by decide), leB_eq _ _ (by decide), leB_eq _ _ (by decide), leB_eq _ _ (by decide)]
  simp only [Nat.mul_zero, Nat.reduceMul, Int.reducePow]
  omega
theorem leB_ok (x : Int) (j : Nat) : 0 ≤ leB x j ∧ leB x j < 256 := by
  unfold leB
  rw [wrap_u8_mod]
  omega
theorem encL_ok (l : List Int) : ∀ y ∈ encL l, 0 ≤ y ∧ y < 256 := fun y hy => by
  unfold encL leN at hy
  obtain ⟨x, _, hy⟩ := List.mem_flatMap.1 hy
  obtain ⟨j, _, rfl⟩ := List.mem_map.1 hy
  exact leB_ok x j
theorem encL_get : ∀ (l : List Int) {k i : Nat} (hk : k < l.length) (_ : i < 4), (encL l)[4 * k + i]? = some (leB l[k] i)
  | [], k, i, hk, _ => by simp at hk
  | x :: l, 0, i, _, hi => by
    show (leN x 4 ++ encL l)[4 * 0 + i]? = _
    rw [List.getElem?_append_left (by rw [leN_len]; omega)]
    unfold leN
    rw [List.getElem?_map, List.getElem?_range (by omega), Option.map_some]
    simp
  | x :: l, k + 1, i, hk, hi => by
    show (leN x 4 ++ encL l)[4 * (k + 1) + i]? = _
    rw [List.getElem?_append_right (by rw [leN_len]; omega), leN_len, show 4 * (k + 1) + i - 4 = 4 * k + i by omega]
    exact encL_get l (by simpa using hk) hi
theorem numAt_enc {ys : List Int} {k : Nat} (hk : k < ys.length) (h0 : 0 ≤ ys[k]) (h1 : ys[k] < 2 ^ 32) : numAt (encL ys) k = ys[k] := by
  have hb : ∀ i, i < 4 → byt (encL ys) (4 * k + i) = leB ys[k] i := fun i hi => by
    unfold byt
    rw [encL_get ys hk hi]; rfl
  unfold numAt
  simp only [accB]
  rw [hb 0 (by decide), hb 1 (by decide), hb 2 (by decide), hb 3 (by decide)]
  have := leB_sum h0 h1
  simp only [Nat.mul_zero, Nat.reduceMul, Int.reducePow] at this ⊢
  omega
theorem numsB_enc {ys : List Int} (h : ∀ y ∈ ys, 0 ≤ y ∧ y < 2 ^ 32) {k n : Nat} (hkn : k + n ≤ ys.length) : numsB (encL ys) k n = (ys.drop k).take n := by
  refine List.ext_getElem? fun j => ?_
  unfold numsB
  rw [List.getElem?_map, List.getElem?_take]
  by_cases hj : j < n
  · have hk : k + j < ys.length := by omega
    rw [List.getElem?_range hj, if_pos hj, List.getElem?_drop, List.getElem?_eq_getElem hk, Option.map_some]
    have := h ys[k + j] (List.getElem_mem hk)
    rw [numAt_enc hk this.1 this.2]
  · rw [List.getElem?_eq_none (by simp; omega), if_neg hj]; rfl
theorem dec_enc {ys : List Int} {p : Int} (hp : p ≤ 2 ^ 32) (h : ∀ y ∈ ys, 0 ≤ y ∧ y < p) : decE (encL ys) p ys.length = (0, 0) := by
  have hn : errF (encL ys) p ys.length 0 = none := errF_none fun j _ hj => by
    have hj : j < ys.length := by omega
    have hy := h ys[j] (List.getElem_mem hj)
    unfold rdE
    rw [encL_len, if_neg (by omega), numAt_enc hj hy.1 (by omega), if_neg (by omega)]
  unfold decE
  rw [hn]
  simp only
  rw [encL_len, if_neg (by omega)]
end Go.VE
/- What is read fits, and is written as it was (plain law). -/
namespace Go.VE
open Go Go.Proofs
set_option maxRecDepth 20000
theorem encL_app (a b : List Int) : encL (a ++ b) = encL a ++ encL b := by unfold encL; rw [List.flatMap_append]
theorem encP_keep {g : Nat → Nat → Nat → List Int} : ∀ {l : List Prt}, (∀ x ∈ l, x.n = 0 → gOf g x = []) → encP g (keepP l) = encP g l
  | [], _ => rfl
  | x :: l, h => by
    have ih := encP_keep (g := g) (l := l) fun y hy => h y (List.mem_cons_of_mem _ hy)
    unfold keepP at ih ⊢
    rw [List.filter_cons]
    by_cases hx : x.n = 0
    · rw [if_neg (by simpa using hx), ih]
      unfold encP
      rw [List.flatMap_cons, h x List.mem_cons_self hx]
      rfl
    · rw [if_pos (by simpa using hx)]
      unfold encP at ih ⊢
      rw [List.flatMap_cons, List.flatMap_cons, ih]
theorem sumN_take (l : List Prt) (i : Nat) : sumN (l.take i) ≤ sumN l := by
  conv => rhs; rw [← List.take_append_drop i l]
  rw [sumN_app]
  omega
section
variable {h : Shp}
theorem partsR_srt (hv : shV h = true) : (partsR h).Pairwise fun x y => rkP (keyP x) < rkP (keyP y) := by
  obtain ⟨m, hs, _⟩ := partsAll_srt hv
  rw [← partsAll_keep hv]
  exact hs.filter _
theorem partsAll_key (hv : shV h = true) {x y : Prt} (hx : x ∈ partsAll h) (hy : y ∈ partsAll h) (he : keyP x = keyP y) : x = y := by
  obtain ⟨m, hs, _⟩ := partsAll_srt hv
  obtain ⟨i, hi, rfl⟩ := List.getElem_of_mem hx
  obtain ⟨j, hj, rfl⟩ := List.getElem_of_mem hy
  have hp := List.pairwise_iff_getElem.1 hs
  by_cases h1 : i < j
  · have := hp i j hi hj h1
    rw [he] at this
    omega
  · by_cases h2 : j < i
    · have := hp j i hj hi h2
      rw [he] at this
      omega
    · have e : i = j := by omega
      subst e
      rfl
theorem gone_part (hv : shV h = true) (b : List Int) : (∀ j (hj : j < (partsR h).length), gOf (goneG b (partsR h)).2 (partsR h)[j] = numsB b (sumN ((partsR h).take j)) (partsR h)[j].n.toNat) ∧ (∀ x ∈ partsAll h, x.n = 0 → gOf (goneG b (partsR h)).2 x = []) := by
  obtain ⟨_, h2, h3⟩ := goneG_at (b := b) (partsR_srt hv) _ (Nat.le_refl _)
  rw [List.take_length] at h2 h3
  refine ⟨fun j hj => h2 j hj hj, fun x hx h0 => ?_⟩
  obtain ⟨k, q, i, n, hxe, ok, _, hln⟩ := partsAll_ok hv x hx
  have hne : ∀ y ∈ partsR h, keyP y ≠ (x.k.toNat, x.q.toNat, x.i.toNat) := fun y hy he => by
    rw [← partsAll_keep hv] at hy
    obtain ⟨hy1, hy2⟩ := List.mem_filter.1 hy
    have := partsAll_key hv hy1 hx he
    subst this
    simp [h0] at hy2
  show (goneG b (partsR h)).2 x.k.toNat x.q.toNat x.i.toNat = []
  rw [h3 _ _ _ hne]
  have hk : x.k.toNat = k := by rw [hxe]; rfl
  have hn : n = 0 := by
    rw [hxe] at h0
    have : (n : Int) = 0 := h0
    omega
  subst hn
  rw [hk]
  unfold lenN at hln
  unfold g0
  by_cases h27 : k = 2 ∨ k = 7
  · rw [if_pos h27] at hln; omega
  · by_cases h10 : k = 10
    · rw [if_neg h27, if_pos h10] at hln; omega
    · rw [if_neg h27, if_neg h10]
theorem enc_take (hv : shV h = true) {ys : List Int} (hN : ys.length = sumN (partsR h)) (hy : ∀ y ∈ ys, 0 ≤ y ∧ y < 2 ^ 32) : ∀ n, n ≤ (partsR h).length → encP (goneG (encL ys) (partsR h)).2 ((partsR h).take n) = encL (ys.take (sumN ((partsR h).take n)))
  | 0, _ => rfl
  | n + 1, hn => by
    have hlt : n < (partsR h).length := by omega
    have ht := take_succ_eq (List.getElem?_eq_getElem hlt)
    have hle := sumN_take (partsR h) (n + 1)
    have hs : sumN ((partsR h).take (n + 1)) = sumN ((partsR h).take n) + (partsR h)[n].n.toNat := by rw [ht, sumN_app]; rfl
    rw [hs] at hle
    rw [hs, ht, encP_snoc, enc_take hv hN hy n (by omega), (gone_part hv _).1 n hlt, numsB_enc hy (by omega), List.take_add, encL_app]
theorem round_law (hv : shV h = true) {ys : List Int} (hN : ys.length = sumN (partsR h)) (hy : ∀ y ∈ ys, 0 ≤ y ∧ y < fP h.f) (hp : fP h.f ≤ 2 ^ 32) :
    fitsB h (goneG (encL ys) (partsR h)).2 = true ∧ encP (goneG (encL ys) (partsR h)).2 (partsAll h) = encL ys := by
  have hy2 : ∀ y ∈ ys, 0 ≤ y ∧ y < 2 ^ 32 := fun y h => ⟨(hy y h).1, by have := (hy y h).2; omega⟩
  obtain ⟨g1, g2⟩ := gone_part hv (encL ys)
  have hf : fV h.f = true := by
    unfold shV at hv
    simp only [Bool.and_eq_true] at hv
    exact hv.1.1.1.1.1.1.1.1.1
  refine ⟨?_, ?_⟩
  · unfold fitsB
    refine List.all_eq_true.2 fun x hx => ?_
    have hn0 := (partsAll_ok hv x hx).n0
    unfold fitX fIs
    rw [hf, Bool.and_true]
    by_cases h0 : x.n = 0
    · rw [g2 x hx h0, h0]
      simp
    · have hxr : x ∈ partsR h := by
        rw [← partsAll_keep hv]
        exact List.mem_filter.2 ⟨hx, by simpa using h0⟩
      obtain ⟨j, hj, rfl⟩ := List.getElem_of_mem hxr
      have hle := sumN_take (partsR h) (j + 1)
      have hs : sumN ((partsR h).take (j + 1)) = sumN ((partsR h).take j) + (partsR h)[j].n.toNat := by rw [take_succ_eq (List.getElem?_eq_getElem hj), sumN_app]; rfl
      rw [hs] at hle
      rw [g1 j hj, numsB_len, numsB_enc hy2 (by omega), Bool.and_eq_true, decide_eq_true_eq, decide_eq_true_eq]
      exact ⟨by omega, fun y h => (hy y (List.mem_of_mem_drop (List.mem_of_mem_take h))).2⟩
  · have := enc_take hv hN hy2 _ (Nat.le_refl _)
    rw [List.take_length, ← hN, List.take_length] at this
    rw [← encP_keep (l := partsAll h) g2, partsAll_keep hv]
    exact this
theorem sumN_mem : ∀ {l : List Prt} {x : Prt}, x ∈ l → x.n.toNat ≤ sumN l
  | [], x, h => by cases h
  | y :: l, x, h => by
    simp only [sumN]
    rcases List.mem_cons.1 h with rfl | h
    · omega
    · have := sumN_mem h; omega
theorem size_pos (hv : shV h = true) : 0 < sumN (partsR h) := by
  have h1 : (⟨2, 0, 0, 1⟩ : Prt) ∈ partsAll h := by
    unfold partsAll midA
    refine it_mem (fun i l hl => ?_) (List.mem_append_left _ (it_mem (fun i l hl => List.mem_append_left _ hl) (by simp [preA]) _)) _
    unfold alQ
    exact it_mem (fun i l hl => List.mem_append_left _ hl) (it_mem (fun i l hl => List.mem_append_left _ hl) (it_mem (fun i l hl => List.mem_append_left _ hl) hl _) _) _
  have h2 : (⟨2, 0, 0, 1⟩ : Prt) ∈ partsR h := by
    rw [← partsAll_keep hv]
    exact List.mem_filter.2 ⟨h1, by decide⟩
  have := sumN_mem h2
  have e : (⟨2, 0, 0, 1⟩ : Prt).n.toNat = 1 := rfl
  omega
end
end Go.VE
/- attestorlaw17.bytes. -/
namespace Go.VE
open Go Go.Proofs
set_option maxRecDepth 20000
def sdN (x : Int) : Nat → Int
  | 0 => x
  | i + 1 => IntKind.u64.wrap (IntKind.u64.wrap (sdN x i * 6364136223846793005) + 1442695040888963407)
def rndN (p x : Int) (i : Nat) : Int := ((sdN x (i + 1)).fdiv (2 ^ min 33 64)).tmod p
def rnds (p x : Int) (n : Nat) : List Int := (List.range n).map (rndN p x)
theorem rnds_len (p x : Int) (n : Nat) : (rnds p x n).length = n := by unfold rnds; simp
theorem rnds_succ (p x : Int) (n : Nat) : rnds p x (n + 1) = rnds p x n ++ [rndN p x n] := by unfold rnds; rw [List.range_succ, List.map_append]; rfl
theorem rnds_ok {p : Int} (hp : 0 < p) (x : Int) (n : Nat) : ∀ y ∈ rnds p x n, 0 ≤ y ∧ y < p := fun y hy => by
  unfold rnds at hy
  obtain ⟨i, _, rfl⟩ := List.mem_map.1 hy
  have h0 : 0 ≤ sdN x (i + 1) := by
    show 0 ≤ IntKind.u64.wrap _
    rw [wrap_u64_mod]
    omega
  have h1 : 0 ≤ (sdN x (i + 1)).fdiv (2 ^ min 33 64) := by
    rw [Int.fdiv_eq_ediv_of_nonneg _ (by decide)]
    exact Int.ediv_nonneg h0 (by decide)
  unfold rndN
  exact ⟨Int.tmod_nonneg _ h1, Int.tmod_lt_of_pos _ hp⟩
section
variable {ro : Nat} {s : St} {K : Value → St → Prop}
theorem append_inBN {A m c n : Nat} {cs : List Value} {x : Value} {ys : List Value} (hA : s.at A = some (.cells cs 5 false)) (hw : Wf s) (hro : ro ≤ A) (hx : Sl s x 1 n ys) (hn : 0 < n) (h1 : ys.all (·.oneCell') = true) (hm : m + n ≤ c) (hc : cs.length = c) {ty : TypeId}
    (hk : ∀ s', Put s A (.cells (splice cs m ys) 5 false) s' → K (.slice (some ⟨A, 0, none⟩) (m + n) c) s') : wop P ro (.call ⟨.builtin .append, ⟨[.const (.slice (some ⟨A, 0, none⟩) m c), .const x]⟩, #[32, 32]⟩) ty s K := by
  obtain ⟨i, hi, his, hib, hz, hf, hzs⟩ := tyOk_spec ty_5
  obtain ⟨ha, hfst⟩ := hx.first
  have hyl := hx.len
  rw [wop_append]
  have e1 : aappend P ro s #[32, 32] [.slice (some ⟨A, 0, none⟩) m c, x] = some (.slice (some ⟨A, 0, none⟩) (m + n) c, s.put A (.cells (splice cs m ys) 5 false)) := by
    have hni : notInt P 32 = true := by kernel_rfl
    simp only [aappend, se_32, hni, hi, ha, his, hfst, Option.bind_some, aappendTo]
    rw [if_pos hm, Nat.zero_add, Nat.mul_one, awrite_some hA hro (by omega) (by omega) h1]
    rfl
  rw [e1]
  exact hk _ (.mk' hw (St.at_lt hA) _)
theorem wBytes {n N : Nat} (hn : n = 4 * N) (hn2 : n ≤ 2 ^ 36) {p x : Int} (hp : 0 < p) (hw : Wf s) (hro : ro ≤ s.n)
    (hk : ∀ A s', Grew s s' → s.n ≤ A → s'.at A = some (.cells ((encL (rnds p x N)).map (.int .u8)) 5 false) → K (.slice (some ⟨A, 0, none⟩) n n) s') :
    CallWP P ro 20 [.int .i64 n, .int .u64 p, .int .u64 x] s K := by
  refine call_wp b20 rfl ?_
  rw [n20]
  unfold v20
  simp (maxSteps := 10000000) only [wW, reduceCtorEq, Nat.reduceEqDiff]
  have hn0 : (ent s).n = s.n := rfl
  refine makeLC_rule se_32 ty_5 hw.ent (by decide) (by omega) (by omega) (by decide) fun A s1 m1 => ?_
  have e1 := m1.eq
  have n1 := m1.n
  rw [Int.toNat_natCast] at m1 ⊢
  refine wloop l20_11000 m20_11000 (fun (i : Nat) τ ds s' => i ≤ N ∧ τ 0 = .int .i64 n ∧ τ 1 = .int .u64 p ∧ τ 2 = .int .u64 (sdN x i) ∧ τ 7 = .slice (some ⟨A, 0, none⟩) (4 * i) n ∧ ds = [] ∧ Wf s' ∧ Grew (ent s) s' ∧ ∃ c, s'.at A = some (.cells c 5 false) ∧ c.length = n ∧ c.take (4 * i) = (encL (rnds p x i)).map (.int .u8)) (fun i => N - i) ?_ 0 ⟨by omega, ?_, ?_, ?_, ?_, rfl, m1.wf, m1.grew, _, m1.here, by rw [zeroList_len, Nat.mul_one], by simp [rnds, encL]⟩
  · rintro i τ ds s' ⟨hi, t0, t1, t2, t7, rfl, w', g', c, hA, hcl, hct⟩
    rw [n20_11000]
    unfold v20_11000
    have hAl := St.at_lt hA
    have gn := g'.n
    simp (maxSteps := 10000000) only [wW, reduceCtorEq, Nat.reduceEqDiff, t0, t1, t2, t7, wop_len se_32]
    rw [wrap_i64 (by omega) (by omega)]
    by_cases hlt : i < N
    · rw [if_pos (by omega)]
      have hsh : ∀ (y : Int) (k : Nat), k ≤ 64 → abinInt P .shr .u64 y .u64 (k : Int) = some (.int .u64 (y.fdiv (2 ^ min k 64))) := fun y k _ => by
        rw [int_shr _ _ _ _ (by omega), Int.toNat_natCast]; rfl
      have h33 : ∀ y : Int, abinInt P .shr .u64 y .u64 33 = some (.int .u64 (y.fdiv (2 ^ min 33 64))) := fun y => hsh y 33 (by decide)
      have h8 : ∀ y : Int, abinInt P .shr .u64 y .u64 8 = some (.int .u64 (y.fdiv (2 ^ min (8 * 1) 64))) := fun y => hsh y 8 (by decide)
      have h16 : ∀ y : Int, abinInt P .shr .u64 y .u64 16 = some (.int .u64 (y.fdiv (2 ^ min (8 * 2) 64))) := fun y => hsh y 16 (by decide)
      have h24 : ∀ y : Int, abinInt P .shr .u64 y .u64 24 = some (.int .u64 (y.fdiv (2 ^ min (8 * 3) 64))) := fun y => hsh y 24 (by decide)
      have hr : ((IntKind.u64.wrap (IntKind.u64.wrap (sdN x i * 6364136223846793005) + 1442695040888963407)).fdiv (2 ^ min 33 64)).tmod p = rndN p x i := rfl
      have hl0 : IntKind.u8.wrap (rndN p x i) = leB (rndN p x i) 0 := by
        unfold leB
        rw [show (2 : Int) ^ min (8 * 0) 64 = 1 from rfl, Int.fdiv_one]
      have hl : ∀ j, IntKind.u8.wrap ((rndN p x i).fdiv (2 ^ min (8 * j) 64)) = leB (rndN p x i) j := fun j => rfl
      rw [h33, wopt_some, wop_int, int_rem keq_u64 _ _ (by omega), wopt_some, hr, conv_u64_u8, wop_int, h8, wopt_some, conv_u64_u8, wop_int, h16, wopt_some, conv_u64_u8, wop_int, h24, wopt_some, conv_u64_u8, hl0, hl, hl, hl]
      refine buildSlice_rule se_32 ty_5 w' ((leN (rndN p x i) 4).map (.int .u8)) rfl rfl (by decide) (fun v hv => by
        obtain ⟨z, _, rfl⟩ := List.mem_map.1 hv
        rfl) fun A6 s6 m6 => ?_
      have n6 := m6.n
      have e6 := m6.eq
      have x6 : Sl s6 (.slice (some ⟨A6, 0, none⟩) 4 4) 1 4 ((leN (rndN p x i) 4).map (.int .u8)) := m6.sl rfl
      refine append_inBN ((m6.grew.same A hAl).trans hA) m6.wf (by omega) x6 (by decide) rfl (by omega) hcl fun s7 p7 => ?_
      have hst : encL (rnds p x (i + 1)) = encL (rnds p x i) ++ leN (rndN p x i) 4 := by rw [rnds_succ, encL_snoc]
      refine ⟨i + 1, by omega, by omega, ?_, ?_, ?_, ?_, by first | trivial | rfl, p7.wf, p7.grew _ hw.ent (g'.trans m6.grew) (by omega), _, p7.here, ?_, ?_⟩
      · simp only [U, tset_eq, wW, reduceCtorEq, Nat.reduceEqDiff, t0]
      · simp only [U, tset_eq, wW, reduceCtorEq, Nat.reduceEqDiff, t1]
      · simp only [U, tset_eq, wW, reduceCtorEq, Nat.reduceEqDiff]; rfl
      · simp only [U, tset_eq, wW, reduceCtorEq, Nat.reduceEqDiff]
        rw [Nat.mul_succ]
      · rw [splice_length (by rw [List.length_map, leN_len]; omega)]; exact hcl
      · have := splice_front (c := c) (l := (leN (rndN p x i) 4).map (.int .u8)) (m := 4 * i) (by rw [List.length_map, leN_len]; omega)
        rw [List.length_map, leN_len, hct, ← List.map_append, ← hst] at this
        exact this
    · obtain rfl : i = N := by omega
      rw [if_neg (by omega)]
      have hc : c = (encL (rnds p x i)).map (.int .u8) := by
        rw [← hct, List.take_of_length_le (by omega)]
      subst hc
      simp (maxSteps := 10000000) only [U, tset_eq, wW, reduceCtorEq, Nat.reduceEqDiff, t7]
      refine wfin_new hw g' rfl fun s9 g9 hn9 hat9 => ?_
      rw [← hn]
      exact hk A s9 g9 (by omega) ((hat9 A).trans hA)
  · simp only [U, tset_eq, wW, reduceCtorEq, Nat.reduceEqDiff]
  · simp only [U, tset_eq, wW, reduceCtorEq, Nat.reduceEqDiff]
  · simp only [U, tset_eq, wW, reduceCtorEq, Nat.reduceEqDiff]; rfl
  · simp only [U, tset_eq, wW, reduceCtorEq, Nat.reduceEqDiff]; rfl
end
end Go.VE
/- ProofRound. -/
namespace Go.VE
open Go Go.Proofs
set_option maxRecDepth 20000
theorem fP_bd (f : Int) : 0 ≤ fP f ∧ fP f ≤ 2 ^ 32 := by
  unfold fP
  repeat' split
  all_goals decide
theorem shV_f {h : Shp} (hv : shV h = true) : fV h.f = true := by
  unfold shV at hv
  simp only [Bool.and_eq_true] at hv
  exact hv.1.1.1.1.1.1.1.1.1
section
variable {ro : Nat} {s : St} {K : Value → St → Prop} {h : Shp}
theorem bys_of {A : Nat} {l : List Int} (hA : s.at A = some (.cells (l.map (.int .u8)) 5 false)) {n : Nat} (hn : l.length = n) : Bys s (.slice (some ⟨A, 0, none⟩) n n) l := by
  unfold Bys
  rw [hn]
  refine ⟨_, _, rfl, by rw [List.length_map, hn, Nat.mul_one], ⟨Nat.le_refl _, fun h => (by cases h), fun x hx => by cases hx; exact .inl rfl⟩, fun _ => ⟨A, 0, none, _, _, _, rfl, rfl, hA, ?_⟩⟩
  rw [List.drop_zero]
  exact List.take_of_length_le (by rw [List.length_map]; omega)
theorem wDecodeY (hv : shV h = true) {ys : List Int} {u : Value} (hN : ys.length = sumN (partsR h)) (hy : ∀ y ∈ ys, 0 ≤ y ∧ y < fP h.f) (hu : Bys s u (encL ys)) (huA : ∀ A o sp n c, u = .slice (some ⟨A, o, sp⟩) n c → A < s.n) (hw : Wf s) (hro : ro ≤ s.n) (hF : FieldsAt s)
    (hk : ∀ cs B s' W, Grew s s' → (∀ A, W A → A < s'.n) → (∀ A, A < s.n → W A) → (s.n ≤ B.rb ∧ s.n ≤ B.ob ∧ ∀ j, j < h.q.toNat → s.n ≤ B.fb j) → PfAt s' W cs B (shR h).toNat h.q.toNat (goneG (encL ys) (partsR h)).2 → K (.tuple (.mk [.agg (.mk cs), .int .i64 0, .int .i64 0])) s') :
    CallWP P ro 17 [.agg (.mk h.cells), u] s K := by
  have hb := size_bound hv
  have hd : decE (encL ys) (fP h.f) (goneG (encL ys) (partsR h)).1 = (0, 0) := by
    rw [goneG_1, ← hN]
    exact dec_enc (fP_bd h.f).2 hy
  refine wDecode h (encL_ok ys) (by rw [encL_len]; omega) hu huA hw hro hF (fun h => by rw [hv] at h; cases h) (fun _ h => absurd (by rw [hd]) h) fun _ _ _ cs B s' W g1 hW1 hW2 hWB hp => hk cs B s' W g1 hW1 hW2 hWB hp
theorem wRound (h : Shp) (x : Int) (hw : Wf s) (hro : ro ≤ s.n) (hF : FieldsAt s) : CallWP P ro 5 [.agg (.mk h.cells), .int .u64 x] s fun v _ => v = .bool true := by
  refine call_wp b5 rfl ?_
  rw [n5]
  unfold v5
  simp (maxSteps := 10000000) only [wW, reduceCtorEq, Nat.reduceEqDiff]
  refine box_rule hw.ent fun C s1 m1 => ?_
  have e1 := m1.eq
  have n1 := m1.n
  have hn0 : (ent s).n = s.n := rfl
  have hC1 : s1.at C = some (.cells h.cells 23 false) := m1.here
  have hF1 : FieldsAt s1 := FieldsAt.grew (s := ent s) hF m1.grew
  rw [wop_load, load_all ap_23 hC1 rfl, wopt_some, wGSize h m1.wf (by omega) hF1, wop_load, load_all ap_23 hC1 rfl, wopt_some, wHValid h m1.wf (by omega) hF1]
  simp (maxSteps := 10000000) only [wW, reduceCtorEq, Nat.reduceEqDiff]
  cases hv : shV h with
  | false =>
    rw [if_pos rfl, wop_load, load_all ap_23 hC1 rfl, wopt_some]
    have hb0 : Bys s1 (.slice none 0 0) [] := Sl.nil _ _
    refine wDecode h (b := []) (fun x hx => by cases hx) (by decide) hb0 (fun A o sp n c e => by cases e) m1.wf (by omega) hF1 (fun _ => ?_) (fun hf => by rw [hv] at hf; cases hf) (fun hf => by rw [hv] at hf; cases hf)
    simp (maxSteps := 10000000) only [wW, reduceCtorEq, Nat.reduceEqDiff, List.getElem?_cons_zero, List.getElem?_cons_succ]
    refine alloc_rule ty_39 m1.wf fun Z s2 m2 => ?_
    have e2 := m2.eq
    have n2 := m2.n
    refine storeAll_rule isz_39 m2.here (l := zeroCs) rfl (by decide) m2.wf (by omega) rfl rfl fun s3 p3 => ?_
    have n3 := p3.n
    have g3 : Grew s1 s3 := p3.grew _ m1.wf m2.grew (by omega)
    have hz : sizeM h = 0 := by unfold sizeM; rw [if_neg (by simp [hv])]
    rw [if_pos hz, wAwake p3.wf (by omega) (hF1.grew g3)]
    exact fin_K fun _ => rfl
  | true =>
    rw [if_neg (by decide)]
    by_cases hbig : sizeM h > 100000
    · rw [if_pos hbig, wAwake m1.wf (by omega) hF1]
      exact fin_K fun _ => rfl
    · have hsum := size_sum hv
      have hpos := size_pos hv
      have hfp := fP_pos (shV_f hv)
      have hfb := fP_bd h.f
      have hc0 : h.cells[0]? = some (.int .i64 h.f) := rfl
      rw [if_neg hbig, if_neg (by omega), int_rem keq_i64 _ _ (by decide), wopt_some, hsum, Int.mul_tmod_right]
      simp (maxSteps := 10000000) only [wW, reduceCtorEq, Nat.reduceEqDiff]
      rw [fa_23_0, wopt_some, wop_load, load1 ap_3, acells_some hC1, Option.bind_some, Nat.zero_add, hc0, wopt_some, wrP]
      have hcast : (4 * (sumN (partsR h) : Int)) = ((4 * sumN (partsR h) : Nat) : Int) := by push_cast; rfl
      rw [hcast]
      refine wBytes (n := 4 * sumN (partsR h)) (N := sumN (partsR h)) rfl (by omega) hfp m1.wf (by omega) fun A s2 g2 hA2 hA => ?_
      have n2 := g2.n
      have w2 := m1.wf.grew g2
      have hC2 := (g2.same C (by omega)).trans hC1
      have hF2 := hF1.grew g2
      have hAl := St.at_lt hA
      have hb2 : Bys s2 (.slice (some ⟨A, 0, none⟩) (4 * sumN (partsR h)) (4 * sumN (partsR h))) (encL (rnds (fP h.f) x (sumN (partsR h)))) := bys_of hA (by rw [encL_len, rnds_len])
      have hy := rnds_ok hfp x (sumN (partsR h))
      obtain ⟨hfit, henc⟩ := round_law hv (ys := rnds (fP h.f) x (sumN (partsR h))) (rnds_len _ _ _) hy hfb.2
      rw [wop_load, load_all ap_23 hC2 rfl, wopt_some]
      refine wDecodeY hv (rnds_len _ _ _) hy hb2 (fun A' o sp n c e => by cases e; exact hAl) w2 (by omega) hF2 fun cs B s3 W g3 _ hW hWB hp => ?_
      have n3 := g3.n
      have w3 := w2.grew g3
      simp (maxSteps := 10000000) only [wW, reduceCtorEq, Nat.reduceEqDiff, List.getElem?_cons_zero, List.getElem?_cons_succ]
      refine alloc_rule ty_39 w3 fun Z s4 m4 => ?_
      have e4 := m4.eq
      have n4 := m4.n
      refine storeAll_rule isz_39 m4.here (l := cs) hp.cl (by decide) m4.wf (by omega) rfl hp.one fun s5 p5 => ?_
      have n5 := p5.n
      have g35 : Grew s3 s5 := p5.grew _ w3 m4.grew (by omega)
      have g25 := g3.trans g35
      have hp5 := hp.grew g35
      have hF5 := hF2.grew g25
      have hC5 := (g25.same C (by omega)).trans hC2
      have hZ5 := p5.here
      rw [wop_load, load_all ap_23 hC5 rfl, wopt_some, wop_load, load_all ap_39 hZ5 hp.cl, wopt_some, wFits h hv hp5 (gone_len hv _) p5.wf (by omega) hF5, hfit]
      simp (maxSteps := 10000000) only [wW, reduceCtorEq, Nat.reduceEqDiff]
      rw [wop_load, load_all ap_23 hC5 rfl, wopt_some, wop_load, load_all ap_39 hZ5 hp.cl, wopt_some]
      refine wEncOk hv hp5 hp.cl (gone_len hv _) hfit p5.wf (by omega) hF5 fun A7 s7 g7 hA7 hb7 => ?_
      rw [henc] at hb7 ⊢
      have n7 := g7.n
      have w7 := p5.wf.grew g7
      simp (maxSteps := 10000000) only [wW, reduceCtorEq, Nat.reduceEqDiff, List.getElem?_cons_zero, List.getElem?_cons_succ]
      rw [conv_str (Sl.grew hb2 (g25.trans g7).same), conv_str hb7, eql_bytes, wdec_true, wAwake w7 (by omega) (hF5.grew g7)]
      exact fin_K fun _ => rfl
end
end Go.VE
/- ProofRound at every start. -/
namespace Go.VE
open Go Go.Proofs
set_option maxRecDepth 20000
theorem pr_args {al : List Value} {s : St} (h : Args P 8 [23, 34] al s) : ∃ (h : Shp) (x : Int), al = [.agg (.mk h.cells), .int .u64 x] := by
  obtain ⟨v1, r1, a1, rfl, hv1, hm1, v2, r2, a2, rfl, hv2, hm2, rfl⟩ := h
  rw [av_23] at hv1
  subst hv1
  obtain ⟨h, rfl⟩ := shape_of hm1
  rw [me_34] at hm2
  obtain ⟨x, rfl, _⟩ := hm2
  rw [av_34] at hv2
  cases hv2
  exact ⟨h, x, rfl⟩
theorem pr_runs (laid : List (String × DataW Unit)) (h : startB laid = true) : LawRuns P 30 8 5 [23, 34] laid :=
  law_runs' h fun s al hw hF h0 ha => by
    obtain ⟨h, x, rfl⟩ := pr_args ha
    exact wRound h x hw (Nat.le_refl _) hF
end Go.VE
