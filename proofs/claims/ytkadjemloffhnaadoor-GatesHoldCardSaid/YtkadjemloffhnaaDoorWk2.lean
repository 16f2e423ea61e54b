/-
  What the functions compute.
-/
import Derived.Test.YtkadjemloffhnaaDoorWk1
set_option linter.unusedSimpArgs false
set_option linter.unusedVariables false
/- The program's gates: what a row reads, its sum, its round. -/
namespace Go.VE
open Go Go.Proofs
set_option maxRecDepth 20000
def rd0 (r : Row) : Bool := if r.k = 1 then decide (r.ql ≠ 0 ∨ r.qm ≠ 0) else decide (r.k = 2 ∨ r.k = 3)
def rd1 (r : Row) : Bool := if r.k = 1 then decide (r.qr ≠ 0 ∨ r.qm ≠ 0) else decide (r.k = 3)
def rd2 (r : Row) : Bool := if r.k = 1 then decide (r.qo ≠ 0) else decide (r.k = 3)
def rd3 (r : Row) : Bool := decide (r.k = 3)
def rdB (r : Row) : Nat → Bool
  | 0 => rd0 r
  | 1 => rd1 r
  | 2 => rd2 r
  | 3 => rd3 r
  | _ => false
def rdVs (r : Row) : List Value := [.bool (rd0 r), .bool (rd1 r), .bool (rd2 r), .bool (rd3 r)]
theorem bix0 (A o : Nat) : aindexAddr P 70 (.pointer (some ⟨A, o, none⟩)) (.int .i64 0) = some (.pointer (some ⟨A, o, none⟩)) := by kernel_rfl
theorem bix1 (A o : Nat) : aindexAddr P 70 (.pointer (some ⟨A, o, none⟩)) (.int .i64 1) = some (.pointer (some ⟨A, o + 1, none⟩)) := by kernel_rfl
theorem bix2 (A o : Nat) : aindexAddr P 70 (.pointer (some ⟨A, o, none⟩)) (.int .i64 2) = some (.pointer (some ⟨A, o + 2, none⟩)) := by kernel_rfl
theorem bix3 (A o : Nat) : aindexAddr P 70 (.pointer (some ⟨A, o, none⟩)) (.int .i64 3) = some (.pointer (some ⟨A, o + 3, none⟩)) := by kernel_rfl
theorem build4b (a b c d : Bool) : abuild P 70 (partVals .e [(0, .const (.bool a)), (1, .const (.bool b)), (2, .const (.bool c)), (3, .const (.bool d))]) = some (.agg (.mk [.bool a, .bool b, .bool c, .bool d])) := by kernel_rfl
theorem ai0 (a b c d : Bool) : aindex P 70 (.agg (.mk [.bool a, .bool b, .bool c, .bool d])) (.int .i64 0) = some (.bool a) := by kernel_rfl
theorem ai1 (a b c d : Bool) : aindex P 70 (.agg (.mk [.bool a, .bool b, .bool c, .bool d])) (.int .i64 1) = some (.bool b) := by kernel_rfl
theorem ai2 (a b c d : Bool) : aindex P 70 (.agg (.mk [.bool a, .bool b, .bool c, .bool d])) (.int .i64 2) = some (.bool c) := by kernel_rfl
theorem ai3 (a b c d : Bool) : aindex P 70 (.agg (.mk [.bool a, .bool b, .bool c, .bool d])) (.int .i64 3) = some (.bool d) := by kernel_rfl
theorem aiR (r : Row) {k : Nat} (hk : k < 4) : aindex P 70 (.agg (.mk (rdVs r))) (.int .i64 (k : Int)) = some (.bool (rdB r k)) := by
  match k, hk with
  | 0, _ => exact ai0 _ _ _ _
  | 1, _ => exact ai1 _ _ _ _
  | 2, _ => exact ai2 _ _ _ _
  | 3, _ => exact ai3 _ _ _ _
section
variable {ro : Nat} {s : St} {K : Value → St → Prop}
theorem wGreads (r : Row) (hw : Wf s) (hro : ro ≤ s.n) : CallWP P ro 63 [.agg (.mk r.cells)] s K = K (.agg (.mk (rdVs r))) s := by
  refine callEq (call_wp b63 rfl ?_) K
  rw [n63]
  unfold v63
  simp (maxSteps := 10000000) only [wW, reduceCtorEq, Nat.reduceEqDiff]
  refine box_rule hw.ent fun G s1 m1 => ?_
  refine alloc_rule ty_70 m1.wf fun R s2 m2 => ?_
  have e1 := m1.eq
  have e2 := m2.eq
  have n1 := m1.n
  have n2 := m2.n
  have hn0 : (ent s).n = s.n := rfl
  have g2 := m1.grew.trans m2.grew
  have hG : s2.at G = some (.cells r.cells 43 false) := (m2.grew.same G (by omega)).trans m1.here
  have hb := acells_some hG
  have hRo : ro ≤ R := by omega
  have hRn : (ent s).n ≤ R := by omega
  simp (maxSteps := 10000000) only [wW, reduceCtorEq, Nat.reduceEqDiff, wL, Nat.reduceAdd, hb]
  have fin : ∀ (a b c d : Bool), [Value.bool a, .bool b, .bool c, .bool d] = rdVs r → ∀ {s9 : St} {cs : List Value}, s9.at R = some (.cells cs 70 false) → cs.length = 4 → Wf s9 → Grew (ent s) s9 →
      wop P ro (.store 70 (.const (ptr R)) (.const (.agg (.mk [.bool a, .bool b, .bool c, .bool d])))) 0 s9 fun _ s' => wopt (aload P s' 70 (ptr R)) fun v => wfin s (fun v s' => v = .agg (.mk (rdVs r)) ∧ s' = s) v s' := fun a b c d he {s9 cs} hR hc hw9 hg9 => by
    refine storeAll_rule isz_70 hR (l := [.bool a, .bool b, .bool c, .bool d]) rfl (by decide) hw9 hRo hc rfl fun s7 p7 => ?_
    rw [load_all ap_70 p7.here rfl, wopt_some, he]
    exact fin_flat rfl (p7.grew _ hw.ent hg9 hRn) ⟨rfl, rfl⟩
  by_cases k1 : r.k = 1
  · rw [if_pos k1]
    simp (maxSteps := 10000000) only [wW, reduceCtorEq, Nat.reduceEqDiff, wL, Nat.reduceAdd, hb, build4b]
    by_cases h1 : r.ql = 0
    · rw [if_neg (by simpa using h1)]
      by_cases h2 : r.qr = 0
      · rw [if_neg (by simpa using h2)]
        exact fin _ _ _ _ (by simp [rdVs, rd0, rd1, rd2, rd3, k1, h1, h2]) m2.here rfl m2.wf g2
      · rw [if_pos h2]
        exact fin _ _ _ _ (by simp [rdVs, rd0, rd1, rd2, rd3, k1, h1, h2]) m2.here rfl m2.wf g2
    · rw [if_pos h1]
      by_cases h2 : r.qr = 0
      · rw [if_neg (by simpa using h2)]
        exact fin _ _ _ _ (by simp [rdVs, rd0, rd1, rd2, rd3, k1, h1, h2]) m2.here rfl m2.wf g2
      · rw [if_pos h2]
        exact fin _ _ _ _ (by simp [rdVs, rd0, rd1, rd2, rd3, k1, h1, h2]) m2.here rfl m2.wf g2
  · rw [if_neg k1]
    simp (maxSteps := 10000000) only [wW, reduceCtorEq, Nat.reduceEqDiff, wL, Nat.reduceAdd, bix0, bix1, bix2, bix3, Nat.zero_add]
    by_cases k3 : r.k = 3
    · rw [if_pos k3]
      refine store1_rule isz_4 m2.here m2.wf hRo (by decide) rfl fun s3 p3 => ?_
      refine store1_rule isz_4 p3.here p3.wf hRo (by decide) rfl fun s4 p4 => ?_
      refine store1_rule isz_4 p4.here p4.wf hRo (by decide) rfl fun s5 p5 => ?_
      refine store1_rule isz_4 p5.here p5.wf hRo (by decide) rfl fun s6 p6 => ?_
      have h6 : s6.at R = some (.cells [.bool true, .bool true, .bool true, .bool true] 70 false) := p6.here
      have g6 := p6.grew _ hw.ent (p5.grew _ hw.ent (p4.grew _ hw.ent (p3.grew _ hw.ent g2 hRn) hRn) hRn) hRn
      rw [load_all ap_70 h6 rfl, wopt_some]
      exact fin true true true true (by simp [rdVs, rd0, rd1, rd2, rd3, k3]) h6 rfl p6.wf g6
    · rw [if_neg k3]
      by_cases k2 : r.k = 2
      · rw [if_pos k2]
        refine store1_rule isz_4 m2.here m2.wf hRo (by decide) rfl fun s6 p6 => ?_
        have h6 : s6.at R = some (.cells [.bool true, .bool false, .bool false, .bool false] 70 false) := p6.here
        rw [load_all ap_70 h6 rfl, wopt_some]
        exact fin true false false false (by simp [rdVs, rd0, rd1, rd2, rd3, k2]) h6 rfl p6.wf (p6.grew _ hw.ent g2 hRn)
      · rw [if_neg k2]
        have h6 : s2.at R = some (.cells [.bool false, .bool false, .bool false, .bool false] 70 false) := m2.here
        rw [load_all ap_70 h6 rfl, wopt_some]
        exact fin false false false false (by simp [rdVs, rd0, rd1, rd2, rd3, k1, k2, k3]) h6 rfl m2.wf g2
def wireM (r : Row) (vals : List Int) (i : Nat) : Int := if rdB r i = true then at0 vals (r.w i) else 0
theorem wWire (r : Row) {u : Value} {vals : List Int} (hu : U64s s u vals) {i : Nat} (hi : i < 4) (hf : rdB r i = true → 0 ≤ r.w i ∧ r.w i < vals.length) (hw : Wf s) (hro : ro ≤ s.n) : CallWP P ro 50 [.agg (.mk r.cells), u, .int .i64 i] s K = K (.int .u64 (wireM r vals i)) s := by
  refine callEq (call_wp b50 rfl ?_) K
  rw [n50]
  unfold v50
  simp (maxSteps := 10000000) only [wW, reduceCtorEq, Nat.reduceEqDiff]
  refine box_rule hw.ent fun G s1 m1 => ?_
  have e1 := m1.eq
  have n1 := m1.n
  have hn0 : (ent s).n = s.n := rfl
  have hG : s1.at G = some (.cells r.cells 43 false) := m1.here
  have hb := acells_some hG
  have hu1 : U64s s1 u vals := (Sl.ent hu).grew m1.grew.same
  rw [wop_load, load_all ap_43 hG rfl, wopt_some, wGreads r m1.wf (by omega), wop_index_agg, aiR r hi, wopt_some]
  simp (maxSteps := 10000000) only [wW, reduceCtorEq, Nat.reduceEqDiff]
  unfold wireM
  cases h : rdB r i with
  | false =>
    simp (maxSteps := 10000000) only [wW, reduceCtorEq, Nat.reduceEqDiff]
    exact fin_flat rfl m1.grew ⟨rfl, rfl⟩
  | true =>
    have hx := hf h
    obtain ⟨A, o, c, q1, q2, q3⟩ := hu1.at1 hx.1 (at0_get hx.1 hx.2)
    have hbw := rcw r hi
    simp (maxSteps := 10000000) only [wW, reduceCtorEq, Nat.reduceEqDiff, wL, Nat.reduceAdd, hb, wix _ _ hi, hbw, q1, q2, q3]
    exact fin_flat rfl m1.grew ⟨rfl, rfl⟩
end
end Go.VE
/- The program's gates: a row's sum, its round, whether it holds. -/
namespace Go.VE
open Go Go.Proofs
set_option maxRecDepth 20000
theorem fAdd_assoc (f x y z : Int) : fAdd f x (fAdd f y z) = fAdd f (fAdd f x y) z := by
  unfold fAdd
  by_cases h : fV f = true
  · simp only [h, if_true]
    rw [Int.add_emod_emod, Int.emod_add_emod, Int.add_assoc]
  · simp only [h, if_false, Bool.false_eq_true]
theorem wire_A {r : Row} (h : r.k = 1) (vals : List Int) : wireM r vals 0 = sumA r vals := by
  unfold wireM sumA
  have e : rdB r 0 = decide (r.ql ≠ 0 ∨ r.qm ≠ 0) := by
    show rd0 r = _
    unfold rd0
    rw [if_pos h]
  rw [e]
  simp only [decide_eq_true_eq]
  rfl
theorem wire_B {r : Row} (h : r.k = 1) (vals : List Int) : wireM r vals 1 = sumB r vals := by
  unfold wireM sumB
  have e : rdB r 1 = decide (r.qr ≠ 0 ∨ r.qm ≠ 0) := by
    show rd1 r = _
    unfold rd1
    rw [if_pos h]
  rw [e]
  simp only [decide_eq_true_eq]
  rfl
theorem wire_C {r : Row} (h : r.k = 1) (vals : List Int) : wireM r vals 2 = if r.qo ≠ 0 then at0 vals r.w2 else 0 := by
  unfold wireM
  have e : rdB r 2 = decide (r.qo ≠ 0) := by
    show rd2 r = _
    unfold rd2
    rw [if_pos h]
  rw [e]
  simp only [decide_eq_true_eq]
  rfl
theorem wireM_nn {r : Row} {vals : List Int} (h : ∀ x ∈ vals, 0 ≤ x) (i : Nat) : 0 ≤ wireM r vals i := by
  unfold wireM
  split
  · exact at0_nn h _
  · exact Int.le_refl _
section
variable {ro : Nat} {s : St} {K : Value → St → Prop}
theorem wTotal (f : Int) {r : Row} (hk : r.k = 1) (hn : r.Nn) {u : Value} {vals : List Int} (hu : U64s s u vals) (hpos : ∀ x ∈ vals, 0 ≤ x) (ha : r.ql ≠ 0 ∨ r.qm ≠ 0 → 0 ≤ r.w0 ∧ r.w0 < vals.length) (hb : r.qr ≠ 0 ∨ r.qm ≠ 0 → 0 ≤ r.w1 ∧ r.w1 < vals.length) (hw : Wf s) (hro : ro ≤ s.n) (hG : FieldsAt s) :
    CallWP P ro 32 [.int .i64 f, .agg (.mk r.cells), u] s K = K (.int .u64 (sumM f r vals)) s := by
  refine callEq (call_wp b32 rfl ?_) K
  rw [n32]
  unfold v32
  simp (maxSteps := 10000000) only [wW, reduceCtorEq, Nat.reduceEqDiff]
  refine box_rule hw.ent fun G s1 m1 => ?_
  have e1 := m1.eq
  have n1 := m1.n
  have hn0 : (ent s).n = s.n := rfl
  have hC : s1.at G = some (.cells r.cells 43 false) := m1.here
  have hc := acells_some hC
  have hu1 : U64s s1 u vals := (Sl.ent hu).grew m1.grew.same
  have hG1 : FieldsAt s1 := FieldsAt.grew (s := ent s) hG m1.grew
  have h0 : rdB r 0 = true → 0 ≤ r.w 0 ∧ r.w 0 < vals.length := fun h => by
    have e : rd0 r = true := h
    unfold rd0 at e
    rw [if_pos hk, decide_eq_true_eq] at e
    exact ha e
  have h1 : rdB r 1 = true → 0 ≤ r.w 1 ∧ r.w 1 < vals.length := fun h => by
    have e : rd1 r = true := h
    unfold rd1 at e
    rw [if_pos hk, decide_eq_true_eq] at e
    exact hb e
  have hi : ∀ z : Int, veq (.int .u64 z) (.int .u64 z) = true := fun z => by simp [veq]
  have w0 : ∀ K : Value → St → Prop, CallWP P ro 50 [.agg (.mk r.cells), u, .int .i64 0] s1 K = K (.int .u64 (wireM r vals 0)) s1 := fun K => wWire r hu1 (i := 0) (by decide) h0 m1.wf (by omega)
  have w1 : ∀ K : Value → St → Prop, CallWP P ro 50 [.agg (.mk r.cells), u, .int .i64 1] s1 K = K (.int .u64 (wireM r vals 1)) s1 := fun K => wWire r hu1 (i := 1) (by decide) h1 m1.wf (by omega)
  have a0 := wireM_nn (r := r) hpos 0
  have a1 := wireM_nn (r := r) hpos 1
  rw [wop_load, load_all ap_43 hC rfl, wopt_some]
  refine ⟨rcVeq r, ?_⟩
  rw [wop_load, load_all ap_43 hC rfl, wopt_some]
  refine ⟨rcVeq r, ?_⟩
  show CallWP P ro 50 [.agg (.mk r.cells), u, .int .i64 0] s1 _
  rw [w0]
  refine ⟨.refl _, ?_⟩
  show CallWP P ro 50 [.agg (.mk r.cells), u, .int .i64 1] s1 _
  rw [w1]
  simp (maxSteps := 10000000) only [wW, reduceCtorEq, Nat.reduceEqDiff, wL, Nat.reduceAdd, hc, hi, true_and]
  rw [wfMul f hn.ql a0 m1.wf (by omega) hG1]
  refine ⟨.refl _, ?_⟩
  rw [wfMul f hn.qr a1 m1.wf (by omega) hG1, wfAdd f (fMul_bounds _ _ _).1 (fMul_bounds _ _ _).1 m1.wf (by omega) hG1]
  simp (maxSteps := 10000000) only [wW, reduceCtorEq, Nat.reduceEqDiff, wL, Nat.reduceAdd, hc, hi, true_and]
  rw [wfMul f a0 a1 m1.wf (by omega) hG1]
  refine ⟨.refl _, ?_⟩
  rw [wfMul f hn.qm (fMul_bounds _ _ _).1 m1.wf (by omega) hG1]
  refine ⟨.refl _, ?_⟩
  rw [wfAdd f (fMul_bounds _ _ _).1 hn.qc m1.wf (by omega) hG1, wfAdd f (fAdd_bounds _ _ _).1 (fAdd_bounds _ _ _).1 m1.wf (by omega) hG1]
  refine fin_flat rfl m1.grew ⟨?_, rfl⟩
  rw [fAdd_assoc, wire_A hk, wire_B hk]
  rfl
theorem wTurned (f : Int) (hv : fV f = true) {r : Row} (hrd : 0 ≤ r.rd ∧ r.rd ≤ 7) {u : Value} {vals : List Int} (hw : Wf s) (hro : ro ≤ s.n) (hG : FieldsAt s) (hr0 : 0 < ro) (hu : U64s s u vals) (hpos : ∀ x ∈ vals, 0 ≤ x) (hwi : ∀ k, k < 4 → 0 ≤ r.w k ∧ r.w k < vals.length) :
    CallWP P ro 29 [.int .i64 f, .agg (.mk r.cells), u] s K = K (.agg (.mk (u4 (roundM f r.rd (wv vals r))))) s := by
  refine callEq (call_wp b29 rfl ?_) K
  rw [n29]
  unfold v29
  simp (maxSteps := 10000000) only [wW, reduceCtorEq, Nat.reduceEqDiff]
  refine box_rule hw.ent fun G s1 m1 => ?_
  refine alloc_rule ty_39 m1.wf fun R s2 m2 => ?_
  refine alloc_rule ty_39 m2.wf fun S s3 m3 => ?_
  have e1 := m1.eq
  have e2 := m2.eq
  have e3 := m3.eq
  have n1 := m1.n
  have n2 := m2.n
  have n3 := m3.n
  have hn0 : (ent s).n = s.n := rfl
  have g3 := (m1.grew.trans m2.grew).trans m3.grew
  have hG3 : s3.at G = some (.cells r.cells 43 false) := (m3.grew.same G (by omega)).trans ((m2.grew.same G (by omega)).trans m1.here)
  have hR3 : s3.at R = _ := (m3.grew.same R (by omega)).trans m2.here
  refine wloop l29_110100 m29_110100 (fun (k : Nat) τ ds s' => k ≤ 4 ∧ τ 0 = .int .i64 f ∧ τ 2 = u ∧ τ 4 = ptr G ∧ τ 6 = ptr R ∧ τ 7 = ptr S ∧ τ 9 = .int .i64 k ∧ ds = [] ∧ Vec (ent s) s' S (it (setW vals r) k [0, 0, 0, 0]) ∧ ∀ B, B ≠ S → s'.at B = s3.at B) (fun k => 4 - k) ?_ 0 ⟨by omega, rfl, rfl, rfl, rfl, rfl, rfl, rfl, ⟨m3.here, by omega, m3.wf, g3⟩, fun _ _ => rfl⟩
  rintro k τ ds s' ⟨hk, h0, h2, h4, h6, h7, h9, rfl, v, old⟩
  rw [n29_110100]
  unfold v29_110100
  have hGc : acells (s'.at G) = some r.cells := acells_some ((old G (by omega)).trans hG3)
  have hu' : U64s s' u vals := (Sl.ent hu).grew v.grew.same
  by_cases hk4 : k < 4
  · have hx := hwi k hk4
    obtain ⟨A, o, c, q1, q2, q3⟩ := hu'.at1 hx.1 (at0_get hx.1 hx.2)
    have hb := rcw r hk4
    simp (maxSteps := 10000000) only [wW, reduceCtorEq, Nat.reduceEqDiff, wL, Nat.reduceAdd, h2, h4, h7, h9, wix _ _ hk4, six _ _ hk4, hGc, hb, q1, q2, q3]
    rw [if_pos (by omega)]
    refine v.store hw.ent hro (by rw [it_len (setW_len vals r)]; exact hk4) fun s4 v4 r4 => ?_
    rw [wrap_i64 (by omega) (by omega)]
    exact ⟨k + 1, by omega, by omega, h0, h2, h4, h6, h7, rfl, trivial, v4, fun B hB => (r4 B hB).trans (old B hB)⟩
  · obtain rfl : k = 4 := by omega
    have hS := v.here
    have hpw := wv_nn hpos r
    rw [wv_eq] at hS
    have hlw : (wv vals r).length = 4 := rfl
    have hle : (u4 (wv vals r)).length = 4 := rfl
    have hG' : FieldsAt s' := FieldsAt.grew (s := ent s) hG v.grew
    generalize wv vals r = q at hS hpw hlw hle ⊢
    simp (maxSteps := 10000000) only [wW, reduceCtorEq, Nat.reduceEqDiff, h9]
    rw [if_neg (by omega)]
    simp (maxSteps := 10000000) only [U, tset_eq, wW, reduceCtorEq, Nat.reduceEqDiff, wL, Nat.reduceAdd, h0, h4, h6, h7, hGc]
    rw [acells_some hS, wopt_some, cut_all hle, wopt_some]
    show CallWP P ro 54 [.int .i64 f, .int .i64 r.rd, .agg (.mk (u4 q))] s' _
    have hgn := v.grew.n
    rw [wsRound f hv hrd hlw hpw v.wf (by omega) hG' hr0]
    have hl2 := roundM_len f r.rd q
    generalize roundM f r.rd q = q2 at hl2 ⊢
    refine storeAll_rule isz_39 ((old R (by omega)).trans hR3) (show (u4 q2).length = 4 by rw [u4_len]; exact hl2) (by decide) v.wf (by omega) rfl (u4_one _) fun s7 p7 => ?_
    rw [acells_some p7.here, wopt_some, cut_all (show (u4 q2).length = 4 by rw [u4_len]; exact hl2), wopt_some]
    exact fin_flat (u4_flat hl2) (p7.grew _ hw.ent v.grew (by omega)) ⟨rfl, rfl⟩
end
end Go.VE
/- The library's Max, Min, Contains; the program's elements, holds. -/
namespace Go.VE
open Go Go.Proofs
set_option maxRecDepth 20000
def maxI (a b : Int) : Int := if a < b then b else a
def minI (a b : Int) : Int := if b < a then b else a
def mxL (l : List Int) : Int := l.foldl maxI (at0 l 0)
def mnL (l : List Int) : Int := l.foldl minI (at0 l 0)
theorem foldl_mx {p : Int} : ∀ (l : List Int) (a : Int), l.foldl maxI a < p ↔ a < p ∧ ∀ x ∈ l, x < p
  | [], a => by simp
  | x :: l, a => by
    rw [List.foldl_cons, foldl_mx l]
    simp only [List.mem_cons, forall_eq_or_imp]
    unfold maxI
    constructor
    · rintro ⟨h1, h2⟩
      split at h1 <;> refine ⟨?_, ?_, h2⟩ <;> omega
    · rintro ⟨h1, h2, h3⟩
      refine ⟨?_, h3⟩
      split <;> assumption
theorem foldl_mn {p : Int} : ∀ (l : List Int) (a : Int), p ≤ l.foldl minI a ↔ p ≤ a ∧ ∀ x ∈ l, p ≤ x
  | [], a => by simp
  | x :: l, a => by
    rw [List.foldl_cons, foldl_mn l]
    simp only [List.mem_cons, forall_eq_or_imp]
    unfold minI
    constructor
    · rintro ⟨h1, h2⟩
      split at h1 <;> refine ⟨?_, ?_, h2⟩ <;> omega
    · rintro ⟨h1, h2, h3⟩
      refine ⟨?_, h3⟩
      split <;> assumption
theorem at0_mem {l : List Int} (h : 0 < l.length) : at0 l 0 ∈ l := List.mem_of_getElem? (at0_get (Int.le_refl 0) (by omega))
theorem mxL_lt {p : Int} {l : List Int} (h : 0 < l.length) : mxL l < p ↔ ∀ x ∈ l, x < p := by
  unfold mxL
  rw [foldl_mx]
  exact ⟨fun a => a.2, fun a => ⟨a _ (at0_mem h), a⟩⟩
theorem mnL_ge {p : Int} {l : List Int} (h : 0 < l.length) : p ≤ mnL l ↔ ∀ x ∈ l, p ≤ x := by
  unfold mnL
  rw [foldl_mn]
  exact ⟨fun a => a.2, fun a => ⟨a _ (at0_mem h), a⟩⟩
section
variable {ro : Nat} {s : St} {K : Value → St → Prop}
theorem max_u64 (a b : Int) (ty : TypeId) (s : St) (K : Value → St → Prop) : wop P ro (.call ⟨.builtin .max, ⟨[.const (.int .u64 a), .const (.int .u64 b)]⟩, #[38, 38]⟩) ty s K = K (.int .u64 (if a < b then b else a)) s := by kernel_rfl
theorem min_i64' (a b : Int) (ty : TypeId) (s : St) (K : Value → St → Prop) : wop P ro (.call ⟨.builtin .min, ⟨[.const (.int .i64 a), .const (.int .i64 b)]⟩, #[3, 3]⟩) ty s K = K (.int .i64 (if b < a then b else a)) s := by kernel_rfl
theorem wMaxU {u : Value} {l : List Int} (hu : U64s s u l) (h0 : 0 < l.length) (hlen : l.length < 2 ^ 60) : CallWP P ro 46 [u] s K = K (.int .u64 (mxL l)) s := by
  refine callEq (call_wp b46 rfl ?_) K
  rw [n46]
  unfold v46
  simp (maxSteps := 10000000) only [wW, reduceCtorEq, Nat.reduceEqDiff, Sl.wlen hu se_25]
  rw [if_neg (by omega), n46_11]
  unfold v46_11
  obtain ⟨A, o, c, q1, q2, q3⟩ := hu.at1 (i := 0) (x := at0 l 0) (by decide) (at0_get (Int.le_refl 0) (by omega))
  simp (maxSteps := 10000000) only [U, tset_eq, wW, reduceCtorEq, Nat.reduceEqDiff, wL, Nat.reduceAdd, q1, q2, q3]
  refine wloop l46_1110100 m46_1110100 (fun (i : Nat) τ ds s' => 1 ≤ i ∧ i ≤ l.length ∧ τ 0 = u ∧ τ 3 = .int .u64 ((l.take i).foldl maxI (at0 l 0)) ∧ τ 4 = .int .i64 i ∧ ds = [] ∧ s' = ent s) (fun i => l.length - i) ?_ 1 ⟨Nat.le_refl _, h0, ?_, ?_, ?_, rfl, rfl⟩
  · rintro i τ ds s' ⟨h1, hi, t0, t3, t4, rfl, rfl⟩
    rw [n46_1110100]
    unfold v46_1110100
    simp (maxSteps := 10000000) only [wW, reduceCtorEq, Nat.reduceEqDiff, t0, t3, t4, Sl.wlen hu se_25]
    by_cases hlt : i < l.length
    · rw [if_pos (by omega)]
      obtain ⟨A, o, c, q1, q2, q3⟩ := hu.at1 (i := (i : Int)) (x := l[i]) (by omega) (by rw [Int.toNat_natCast]; exact List.getElem?_eq_getElem hlt)
      simp (maxSteps := 10000000) only [wW, reduceCtorEq, Nat.reduceEqDiff, wL, Nat.reduceAdd, q1, q2, q3, max_u64]
      rw [wrap_i64 (by omega) (by omega)]
      refine ⟨i + 1, by omega, by omega, by omega, ?_, ?_, ?_, trivial, trivial⟩
      · simp only [U, tset_eq, wW, reduceCtorEq, Nat.reduceEqDiff, t0]
      · simp only [U, tset_eq, wW, reduceCtorEq, Nat.reduceEqDiff]
        rw [take_succ_eq (List.getElem?_eq_getElem hlt), List.foldl_append]
        rfl
      · simp only [U, tset_eq, wW, reduceCtorEq, Nat.reduceEqDiff]; rfl
    · obtain rfl : i = l.length := by omega
      rw [if_neg (by omega), List.take_length] at *
      simp (maxSteps := 10000000) only [U, tset_eq, wW, reduceCtorEq, Nat.reduceEqDiff, t3]
      rw [xleave_U, r46]
      simp (maxSteps := 10000000) only [U, tset_eq, wW, reduceCtorEq, Nat.reduceEqDiff]
      exact fin_flat rfl (.refl _) ⟨rfl, rfl⟩
  · simp only [U, tset_eq, wW, reduceCtorEq, Nat.reduceEqDiff]
  · simp only [U, tset_eq, wW, reduceCtorEq, Nat.reduceEqDiff]
    rw [show l.take 1 = [at0 l 0] by
      cases l with
      | nil => simp at h0
      | cons x l => rfl]
    simp [maxI]
  · simp only [U, tset_eq, wW, reduceCtorEq, Nat.reduceEqDiff]; rfl
theorem below_mx {f : Int} {l : List Int} (h : 0 < l.length) : decide (mxL l < fP f) = below f l := by
  unfold below
  rw [Bool.eq_iff_iff, decide_eq_true_eq, mxL_lt h, List.all_eq_true]
  exact ⟨fun a x hx => decide_eq_true (a x hx), fun a x hx => of_decide_eq_true (a x hx)⟩
theorem wElements (f : Int) {u : Value} {l : List Int} (hu : U64s s u l) (hlen : l.length < 2 ^ 60) (hw : Wf s) (hro : ro ≤ s.n) (hG : FieldsAt s) : CallWP P ro 22 [.int .i64 f, u] s K = K (.bool (below f l)) s := by
  refine callEq (call_wp b22 rfl ?_) K
  rw [n22]
  unfold v22
  simp (maxSteps := 10000000) only [wW, reduceCtorEq, Nat.reduceEqDiff, Sl.wlen hu se_25]
  by_cases h0 : l.length = 0
  · rw [if_pos (by omega)]
    have : l = [] := List.length_eq_zero_iff.1 h0
    subst this
    exact fin_flat rfl (.refl _) ⟨rfl, rfl⟩
  · rw [if_neg (by omega), wMaxU (Sl.ent hu) (by omega) hlen, wfP f hw.ent hro hG]
    simp (maxSteps := 10000000) only [wW, reduceCtorEq, Nat.reduceEqDiff, below_mx (show 0 < l.length by omega)]
    exact fin_flat rfl (.refl _) ⟨rfl, rfl⟩
end
end Go.VE
/- The program's gates: whether a row holds. -/
namespace Go.VE
open Go Go.Proofs
set_option maxRecDepth 20000
theorem aiU {q : List Int} (hq : q.length = 4) {k : Nat} (hk : k < 4) : aindex P 39 (.agg (.mk (u4 q))) (.int .i64 (k : Int)) = some (.int .u64 (at0 q k)) := by
  obtain ⟨a, b, c, d, rfl⟩ := len4' hq
  have h0 : ∀ a b c d : Int, aindex P 39 (.agg (.mk [.int .u64 a, .int .u64 b, .int .u64 c, .int .u64 d])) (.int .i64 0) = some (.int .u64 a) := fun a b c d => by kernel_rfl
  have h1 : ∀ a b c d : Int, aindex P 39 (.agg (.mk [.int .u64 a, .int .u64 b, .int .u64 c, .int .u64 d])) (.int .i64 1) = some (.int .u64 b) := fun a b c d => by kernel_rfl
  have h2 : ∀ a b c d : Int, aindex P 39 (.agg (.mk [.int .u64 a, .int .u64 b, .int .u64 c, .int .u64 d])) (.int .i64 2) = some (.int .u64 c) := fun a b c d => by kernel_rfl
  have h3 : ∀ a b c d : Int, aindex P 39 (.agg (.mk [.int .u64 a, .int .u64 b, .int .u64 c, .int .u64 d])) (.int .i64 3) = some (.int .u64 d) := fun a b c d => by kernel_rfl
  match k, hk with
  | 0, _ => exact h0 _ _ _ _
  | 1, _ => exact h1 _ _ _ _
  | 2, _ => exact h2 _ _ _ _
  | 3, _ => exact h3 _ _ _ _
theorem hold1 {f : Int} {r : Row} (h : r.k = 1) (vals : List Int) : fAdd f (sumM f r vals) (fMul f r.qo (wireM r vals 2)) = if r.qo ≠ 0 then fAdd f (sumM f r vals) (fMul f r.qo (at0 vals r.w2)) else sumM f r vals := by
  rw [wire_C h]
  by_cases hq : r.qo = 0
  · rw [if_neg (by simpa using hq), if_neg (by simpa using hq), hq]
    have e : sumM f r vals = fAdd f (fAdd f (fAdd f (fMul f r.ql (sumA r vals)) (fMul f r.qr (sumB r vals))) (fMul f r.qm (fMul f (sumA r vals) (sumB r vals)))) r.qc := rfl
    rw [e]
    generalize fAdd f (fAdd f (fMul f r.ql (sumA r vals)) (fMul f r.qr (sumB r vals))) (fMul f r.qm (fMul f (sumA r vals) (sumB r vals))) = x
    unfold fAdd fMul
    by_cases hv : fV f = true
    · simp only [hv, if_true, Int.zero_mul, Int.zero_emod, Int.add_zero, Int.emod_emod]
    · simp only [hv, if_false, Bool.false_eq_true]
  · rw [if_pos hq, if_pos hq]
section
variable {ro : Nat} {s : St} {K : Value → St → Prop}
theorem wGholds (g : Gp) (hv : fV g.f = true) {ur u : Value} {vals : List Int} (hw : Wf s) (hro : ro ≤ s.n) (hG : FieldsAt s) (hr0 : 0 < ro) (hr : RowsS s ur g.rows) (hu : U64s s u vals) (hpos : ∀ x ∈ vals, 0 ≤ x) {i : Nat} {r : Row} (hi : g.rows[i]? = some r) (hlen : g.rows.length < 2 ^ 60)
    (hf : RowFit vals.length r) (hnx : r.k = 3 → i + 1 < g.rows.length ∧ ∀ k, k < 4 → 0 ≤ (nxt g.rows i).w k ∧ (nxt g.rows i).w k < vals.length) :
    CallWP P ro 23 [.agg (.mk (g.cells ur)), u, .int .i64 i] s K = K (.bool (holdsR g.f r (nxt g.rows i) vals)) s := by
  refine callEq (call_wp b23 rfl ?_) K
  rw [n23]
  unfold v23
  simp (maxSteps := 10000000) only [wW, reduceCtorEq, Nat.reduceEqDiff]
  refine box_rule hw.ent fun G s1 m1 => ?_
  have e1 := m1.eq
  have n1 := m1.n
  have hn0 : (ent s).n = s.n := rfl
  have hG1 : s1.at G = some (.cells (g.cells ur) 24 false) := m1.here
  obtain ⟨A, o, c, q1, q2⟩ := RowsS.ix (Sl.grew (Sl.ent hr) m1.grew.same) hi
  simp (maxSteps := 10000000) only [wW, reduceCtorEq, Nat.reduceEqDiff, wL, Nat.reduceAdd, acells_some hG1, q1, q2.blk, q2.all]
  refine alloc_rule ty_43 m1.wf fun R s2 m2 => ?_
  have e2 := m2.eq
  have n2 := m2.n
  have hil : i < g.rows.length := (List.getElem?_eq_some_iff.1 hi).1
  refine storeAll_rule isz_43 m2.here (l := r.cells) rfl (by decide) m2.wf (by omega) rfl rfl fun s3 p3 => ?_
  have g3 := p3.grew _ hw.ent (m1.grew.trans m2.grew) (by omega)
  have n3 := p3.n
  have hG3 : s3.at G = some (.cells (g.cells ur) 24 false) := (p3.rest G (by omega)).trans ((m2.grew.same G (by omega)).trans hG1)
  have hGc : acells (s3.at G) = some (g.cells ur) := acells_some hG3
  have hR : acells (s3.at R) = some r.cells := acells_some p3.here
  have hu3 : U64s s3 u vals := (Sl.ent hu).grew g3.same
  have hF3 : FieldsAt s3 := FieldsAt.grew (s := ent s) hG g3
  have hi1 : ∀ z : Int, veq (.int .u64 z) (.int .u64 z) = true := fun z => by simp [veq]
  have hi2 : ∀ z : Int, veq (.int .i64 z) (.int .i64 z) = true := fun z => by simp [veq]
  simp (maxSteps := 10000000) only [wW, reduceCtorEq, Nat.reduceEqDiff, wL, Nat.reduceAdd, hGc, hR, hi1, hi2, rcVeq, true_and]
  unfold holdsR
  by_cases k1 : r.k = 1
  · rw [if_pos k1, if_pos k1]
    have h2 : rdB r 2 = true → 0 ≤ r.w 2 ∧ r.w 2 < vals.length := fun h => by
      have e : rd2 r = true := h
      unfold rd2 at e
      rw [if_pos k1, decide_eq_true_eq] at e
      exact hf.c k1 e
    have w2 : ∀ K : Value → St → Prop, CallWP P ro 50 [.agg (.mk r.cells), u, .int .i64 2] s3 K = K (.int .u64 (wireM r vals 2)) s3 := fun K => wWire r hu3 (i := 2) (by decide) h2 p3.wf (by omega)
    show CallWP P ro 32 [.int .i64 g.f, .agg (.mk r.cells), u] s3 _
    rw [wTotal g.f k1 hf.nn hu3 hpos (hf.a k1) (hf.b k1) p3.wf (by omega) hF3]
    refine ⟨.refl _, ?_⟩
    show CallWP P ro 50 [.agg (.mk r.cells), u, .int .i64 2] s3 _
    rw [w2]
    refine ⟨.refl _, ?_⟩
    rw [wfMul g.f hf.nn.qo (wireM_nn hpos 2) p3.wf (by omega) hF3]
    refine ⟨.refl _, ?_⟩
    rw [wfAdd g.f (show 0 ≤ sumM g.f r vals from (fAdd_bounds _ _ _).1) (fMul_bounds _ _ _).1 p3.wf (by omega) hF3]
    simp (maxSteps := 10000000) only [wW, reduceCtorEq, Nat.reduceEqDiff]
    refine fin_flat rfl g3 ⟨?_, rfl⟩
    rw [hold1 k1]
  · rw [if_neg k1, if_neg k1]
    by_cases k2 : r.k = 2
    · rw [if_pos k2, if_pos k2]
      have hx := hf.range k2
      obtain ⟨A2, o2, c2, x1, x2, x3⟩ := hu3.at1 hx.1 (at0_get hx.1 hx.2)
      simp (maxSteps := 10000000) only [wW, reduceCtorEq, Nat.reduceEqDiff, wL, Nat.reduceAdd, hGc, hR, x1, x2, x3]
      exact fin_flat rfl g3 ⟨rfl, rfl⟩
    · rw [if_neg k2, if_neg k2]
      by_cases k3 : r.k = 3
      · rw [if_pos k3, if_pos k3]
        have hx := hf.round k3
        have hy := hnx k3
        show CallWP P ro 29 [.int .i64 g.f, .agg (.mk r.cells), u] s3 _
        rw [wTurned g.f hv hx.1 p3.wf (by omega) hF3 hr0 hu3 hpos hx.2]
        have hl2 := roundM_len g.f r.rd (wv vals r)
        generalize roundM g.f r.rd (wv vals r) = q at hl2 ⊢
        have hnr : g.rows[i + 1]? = some (nxt g.rows i) := by
          unfold nxt
          rw [List.getElem?_eq_getElem hy.1]; rfl
        have hr3 : RowsS s3 ur g.rows := (Sl.ent hr).grew g3.same
        obtain ⟨A3, o3, c3, y1, y2⟩ := hr3.ix hnr
        have hwv : (wv vals (nxt g.rows i)).length = 4 := rfl
        refine wloop l23_11010111110100 m23_11010111110100 (fun (k : Nat) τ ds s' => k ≤ 4 ∧ τ 1 = u ∧ τ 2 = .int .i64 i ∧ τ 3 = ptr G ∧ τ 51 = .agg (.mk (u4 q)) ∧ τ 52 = .int .i64 k ∧ ds = [] ∧ s' = s3 ∧ ∀ j, j < k → at0 (wv vals (nxt g.rows i)) j = at0 q j) (fun k => 4 - k) ?_ 0 ⟨by omega, rfl, rfl, rfl, rfl, rfl, rfl, rfl, fun j hj => by omega⟩
        rintro k τ ds s' ⟨hk, h1, h2, h3, h51, h52, rfl, rfl, hall⟩
        rw [n23_11010111110100]
        unfold v23_11010111110100
        by_cases hk4 : k < 4
        · have hx := hy.2 k hk4
          obtain ⟨A4, o4, c4, z1, z2, z3⟩ := hu3.at1 hx.1 (at0_get hx.1 hx.2)
          have hiw : IntKind.i64.wrap ((i : Int) + 1) = ((i + 1 : Nat) : Int) := by rw [wrap_i64 (by omega) (by omega)]; rfl
          have hw3 := y2.wire hk4
          have hb2 := y2.blk
          simp (maxSteps := 10000000) only [wW, reduceCtorEq, Nat.reduceEqDiff, wL, Nat.reduceAdd, h1, h2, h3, h51, h52, hGc, hiw, y1, hb2, wix _ _ hk4, aiU hl2 hk4, hw3, z1, z2, z3]
          rw [if_pos (by omega)]
          by_cases he : at0 vals ((nxt g.rows i).w k) = at0 q k
          · rw [if_neg (by simpa using he)]
            refine ⟨k + 1, by omega, by omega, h1, h2, h3, h51, ?_, trivial, trivial, fun j hj => ?_⟩
            · show Value.int .i64 (IntKind.i64.wrap ((k : Int) + 1)) = _
              rw [wrap_i64 (by omega) (by omega)]
              rfl
            · rcases Nat.lt_or_ge j k with h | h
              · exact hall j h
              · obtain rfl : j = k := by omega
                rw [wv_get _ _ hk4]
                exact he
          · rw [if_pos (by simpa using he), r23]
            simp (maxSteps := 10000000) only [U, tset_eq, wW, reduceCtorEq, Nat.reduceEqDiff]
            refine fin_flat rfl g3 ⟨?_, rfl⟩
            rw [decide_eq_false]
            intro hh
            rw [eq4 hwv hl2] at hh
            have := hh k hk4
            rw [wv_get _ _ hk4] at this
            exact he this
        · obtain rfl : k = 4 := by omega
          simp (maxSteps := 10000000) only [wW, reduceCtorEq, Nat.reduceEqDiff, h52]
          rw [if_neg (by omega)]
          refine fin_flat rfl g3 ⟨?_, rfl⟩
          rw [decide_eq_true]
          exact (eq4 hwv hl2).2 hall
      · rw [if_neg k3, if_neg k3]
        exact fin_flat rfl g3 ⟨rfl, rfl⟩
end
end Go.VE
/- The program's gates: formed. -/
namespace Go.VE
open Go Go.Proofs
set_option maxRecDepth 20000
theorem rdB_mem (r : Row) {k : Nat} (hk : k < 4) : rdB r k = true ↔ (k : Int) ∈ rds r := by
  unfold rds
  match k, hk with
  | 0, _ =>
    show rd0 r = true ↔ _
    unfold rd0
    by_cases h1 : r.k = 1 <;> by_cases h2 : r.k = 2 <;> by_cases h3 : r.k = 3 <;> simp [h1, h2, h3] <;> (try omega) <;> (try (split <;> split <;> simp_all))
  | 1, _ =>
    show rd1 r = true ↔ _
    unfold rd1
    by_cases h1 : r.k = 1 <;> by_cases h2 : r.k = 2 <;> by_cases h3 : r.k = 3 <;> simp [h1, h2, h3] <;> (try omega)
  | 2, _ =>
    show rd2 r = true ↔ _
    unfold rd2
    by_cases h1 : r.k = 1 <;> by_cases h2 : r.k = 2 <;> by_cases h3 : r.k = 3 <;> simp [h1, h2, h3] <;> (try omega)
  | 3, _ =>
    show rd3 r = true ↔ _
    unfold rd3
    by_cases h1 : r.k = 1 <;> by_cases h2 : r.k = 2 <;> by_cases h3 : r.k = 3 <;> simp [h1, h2, h3] <;> (try omega)
def WireOk (nv : Int) (r : Row) (k : Nat) : Prop := -1 ≤ r.w k ∧ r.w k < nv ∧ (rdB r k = true → 0 ≤ r.w k)
instance (nv : Int) (r : Row) (k : Nat) : Decidable (WireOk nv r k) := by unfold WireOk; infer_instance
def FormG (f nv : Int) (r : Row) : Prop := r.k ≤ 3 ∧ 0 ≤ r.rd ∧ r.rd < 8 ∧ (r.k ≠ 3 → r.rd = 0) ∧ mxL r.qs < fP f ∧ (r.k ≠ 1 → mxL r.qs = 0) ∧ ∀ k : Nat, k < 4 → WireOk nv r k
instance (f nv : Int) (r : Row) : Decidable (FormG f nv r) := by unfold FormG; infer_instance
theorem formed_iff {f nv : Int} {r : Row} (hnn : r.Nn) : Formed f nv r ↔ FormG f nv r := by
  unfold FormG
  have hl : 0 < r.qs.length := by show 0 < 5; decide
  have hn : ∀ q ∈ r.qs, 0 ≤ q := by
    intro q hq
    simp only [Row.qs, List.mem_cons, List.not_mem_nil, or_false] at hq
    rcases hq with rfl | rfl | rfl | rfl | rfl
    · exact hnn.ql
    · exact hnn.qr
    · exact hnn.qm
    · exact hnn.qo
    · exact hnn.qc
  have h0 : mxL r.qs = 0 ↔ ∀ q ∈ r.qs, q = 0 := by
    have h1 := mxL_lt (p := 1) hl
    have h2 := mxL_lt (p := 0) hl
    constructor
    · intro h q hq
      have a := h1.1 (by omega) q hq
      have b := hn q hq
      omega
    · intro h
      have a := h1.2 (fun q hq => by rw [h q hq]; decide)
      have b : ¬ mxL r.qs < 0 := fun hh => by
        have := h2.1 hh _ (at0_mem hl)
        have := hn _ (at0_mem hl)
        omega
      omega
  have hm := mxL_lt (p := fP f) hl
  constructor
  · rintro ⟨a, b, c, d, e, w, j⟩
    refine ⟨a, b, by omega, d, hm.2 fun q hq => (e q hq).1, fun h => h0.2 fun q hq => (e q hq).2 h, fun k hk => ⟨(w k hk).1, (w k hk).2, fun h => ?_⟩⟩
    have := j _ ((rdB_mem r hk).1 h)
    rwa [Int.toNat_natCast] at this
  · rintro ⟨a, b, c, d, e, e2, w⟩
    refine ⟨a, b, by omega, d, fun q hq => ⟨hm.1 e q hq, fun h => h0.1 (e2 h) q hq⟩, fun k hk => ⟨(w k hk).1, (w k hk).2.1⟩, fun j hj => ?_⟩
    have hj4 := rds_lt r j hj
    refine (w j.toNat (by omega)).2.2 ((rdB_mem r (by omega)).2 ?_)
    rwa [show ((j.toNat : Nat) : Int) = j by omega]
section
variable {ro : Nat} {s : St} {K : Value → St → Prop}
theorem wGformed (g : Gp) (r : Row) (hnn : r.Nn) {ur : Value} (hw : Wf s) (hro : ro ≤ s.n) (hF : FieldsAt s) : CallWP P ro 60 [.agg (.mk (g.cells ur)), .agg (.mk r.cells)] s K = K (.bool (decide (Formed g.f g.nv r))) s := by
  rw [show decide (Formed g.f g.nv r) = decide (FormG g.f g.nv r) from decide_eq_decide.2 (formed_iff hnn)]
  refine callEq (call_wp b60 rfl ?_) K
  rw [n60]
  unfold v60
  simp (maxSteps := 10000000) only [wW, reduceCtorEq, Nat.reduceEqDiff]
  refine box_rule hw.ent fun G s1 m1 => ?_
  refine box_rule m1.wf fun R s2 m2 => ?_
  have e1 := m1.eq
  have e2 := m2.eq
  have n1 := m1.n
  have n2 := m2.n
  have hn0 : (ent s).n = s.n := rfl
  have g2 := m1.grew.trans m2.grew
  have hG2 : s2.at G = some (.cells (g.cells ur) 24 false) := (m2.grew.same G (by omega)).trans m1.here
  have hR2 : s2.at R = some (.cells r.cells 43 false) := m2.here
  have hG := acells_some hG2
  have hR := acells_some hR2
  have no : ∀ {s' : St}, Grew (ent s) s' → ¬ FormG g.f g.nv r → wfin s (fun v s' => v = .bool (decide (FormG g.f g.nv r)) ∧ s' = s) (.bool false) s' := fun hg hf => by
    refine fin_flat rfl hg ⟨?_, rfl⟩
    rw [decide_eq_false hf]
  have noR : ∀ {τ : Tau} {al : AL} {s' : St}, Grew (ent s) s' → ¬ FormG g.f g.nv r → U τ al 4 = .bool false → xleave (prims P ro) s Tryd.f60.results.toList (fun v s' => v = .bool (decide (FormG g.f g.nv r)) ∧ s' = s) .ret (U τ al) [] [] s' := fun {τ al s'} hg hf h4 => by
    rw [r60]
    simp (maxSteps := 10000000) only [wW, reduceCtorEq, Nat.reduceEqDiff]
    rw [h4]
    exact no hg hf
  simp (maxSteps := 10000000) only [wW, reduceCtorEq, Nat.reduceEqDiff, wL, Nat.reduceAdd, hG, hR]
  refine buildSlice_rule se_25 ty_38 m2.wf [.int .u64 r.ql, .int .u64 r.qr, .int .u64 r.qm, .int .u64 r.qo, .int .u64 r.qc] rfl rfl (by decide) (by simp [Value.cells]) fun A s3 m3 => ?_
  have e3 := m3.eq
  have n3 := m3.n
  have hQ : U64s s3 (.slice (some ⟨A, 0, none⟩) 5 5) r.qs := m3.sl rfl
  have g3 := g2.trans m3.grew
  have hG3 : acells (s3.at G) = some (g.cells ur) := acells_some ((m3.grew.same G (by omega)).trans hG2)
  have hR3' := (m3.grew.same R (by omega)).trans hR2
  have hR3 : acells (s3.at R) = some r.cells := acells_some hR3'
  simp (maxSteps := 10000000) only [wW, reduceCtorEq, Nat.reduceEqDiff, wL, Nat.reduceAdd, hG3, hR3]
  have noX : ∀ {τ : Tau} {al : AL}, ¬ FormG g.f g.nv r → U τ al 4 = .bool false → (xleave (prims P ro) s Tryd.f60.results.toList fun v s' => v = Value.bool (decide (FormG g.f g.nv r)) ∧ s' = s) .ret τ al [] s3 := fun {τ al} hf h4 => by
    rw [xleave_U]
    exact noR g3 hf h4
  have sc : ∀ {τ : Tau}, τ 2 = ptr G → τ 3 = ptr R → (r.k ≤ 3 ∧ 0 ≤ r.rd ∧ r.rd < 8) → ((r.k ≠ 3 → r.rd = 0) ∧ mxL r.qs < fP g.f) → (r.k ≠ 1 → mxL r.qs = 0) →
      xp (prims P ro) none 80 k60 c60_111 [1, 1, 1] τ [] [] s3 (xleave (prims P ro) s Tryd.f60.results.toList fun v s' => v = Value.bool (decide (FormG g.f g.nv r)) ∧ s' = s) := fun {τ} h2 h3 hp hq hz => by
    rw [n60_111]
    unfold v60_111
    have hl : s3.at R = some (.cells r.cells 43 false) := hR3'
    simp (maxSteps := 10000000) only [wW, reduceCtorEq, Nat.reduceEqDiff, h3]
    rw [wop_load, load_all ap_43 hl rfl, wopt_some, wGreads r m3.wf (by omega)]
    refine wloop l60_1110100 m60_1110100 (fun (i : Nat) τ ds s' => i ≤ 4 ∧ τ 2 = ptr G ∧ τ 3 = ptr R ∧ τ 55 = .agg (.mk (rdVs r)) ∧ τ 56 = .int .i64 i ∧ ds = [] ∧ s3 = s' ∧ ∀ k : Nat, k < i → WireOk g.nv r k) (fun i => 4 - i) ?_ 0 ⟨by omega, ?_, ?_, rfl, rfl, rfl, rfl, fun k hk => by omega⟩
    · rintro i τ ds s' ⟨hi, h2, h3, h55, h56, rfl, rfl, hall⟩
      rw [n60_1110100]
      unfold v60_1110100
      by_cases hlt : i < 4
      · simp (maxSteps := 10000000) only [wW, reduceCtorEq, Nat.reduceEqDiff, wL, Nat.reduceAdd, h2, h3, h55, h56, hG3, hR3, wix _ _ hlt, rcw r hlt, aiR r hlt]
        rw [if_pos (by omega)]
        by_cases hlo : r.w i < -1
        · rw [if_pos hlo]
          refine noR g3 (fun hf => ?_) (by simp only [U, tset_eq, wW, reduceCtorEq, Nat.reduceEqDiff])
          have := (hf.2.2.2.2.2.2 i hlt).1
          omega
        · rw [if_neg hlo]
          by_cases hhi : r.w i ≥ g.nv
          · rw [if_pos hhi]
            refine noR g3 (fun hf => ?_) (by simp only [U, tset_eq, wW, reduceCtorEq, Nat.reduceEqDiff])
            have := (hf.2.2.2.2.2.2 i hlt).2.1
            omega
          · rw [if_neg hhi]
            have next : (rdB r i = true → 0 ≤ r.w i) → ∀ al : AL, U τ al 2 = ptr G → U τ al 3 = ptr R → U τ al 55 = .agg (.mk (rdVs r)) → U τ al 56 = .int .i64 (IntKind.i64.wrap ((i : Int) + 1)) → ∃ y, 4 - y < 4 - i ∧ y ≤ 4 ∧ U τ al 2 = ptr G ∧ U τ al 3 = ptr R ∧ U τ al 55 = .agg (.mk (rdVs r)) ∧ U τ al 56 = .int .i64 (y : Nat) ∧ True ∧ True ∧ ∀ k : Nat, k < y → WireOk g.nv r k := fun hr al a2 a3 a5 a6 => by
              rw [wrap_i64 (by omega) (by omega)] at a6
              refine ⟨i + 1, by omega, by omega, a2, a3, a5, a6, trivial, trivial, fun k hk => ?_⟩
              rcases Nat.lt_or_ge k i with h | h
              · exact hall k h
              · obtain rfl : k = i := by omega
                exact ⟨by omega, by omega, hr⟩
            cases hb : rdB r i with
            | false =>
              simp (maxSteps := 10000000) only [wW, reduceCtorEq, Nat.reduceEqDiff]
              refine next (fun h => by rw [hb] at h; cases h) _ ?_ ?_ ?_ ?_ <;> simp only [U, tset_eq, wW, reduceCtorEq, Nat.reduceEqDiff, h2, h3, h55, h56]
            | true =>
              simp (maxSteps := 10000000) only [wW, reduceCtorEq, Nat.reduceEqDiff]
              by_cases hneg : r.w i < 0
              · rw [if_pos hneg]
                refine noR g3 (fun hf => ?_) (by simp only [U, tset_eq, wW, reduceCtorEq, Nat.reduceEqDiff])
                have := (hf.2.2.2.2.2.2 i hlt).2.2 hb
                omega
              · rw [if_neg hneg]
                refine next (fun _ => by omega) _ ?_ ?_ ?_ ?_ <;> simp only [U, tset_eq, wW, reduceCtorEq, Nat.reduceEqDiff, h2, h3, h55, h56]
      · obtain rfl : i = 4 := by omega
        simp (maxSteps := 10000000) only [wW, reduceCtorEq, Nat.reduceEqDiff, h56]
        rw [if_neg (by omega), xleave_U, r60]
        simp (maxSteps := 10000000) only [U, tset_eq, wW, reduceCtorEq, Nat.reduceEqDiff]
        refine fin_flat rfl g3 ⟨?_, rfl⟩
        rw [decide_eq_true]
        exact ⟨hp.1, hp.2.1, hp.2.2, hq.1, hq.2, hz, hall⟩
    · simp only [U, tset_eq, wW, reduceCtorEq, Nat.reduceEqDiff, h2]
    · simp only [U, tset_eq, wW, reduceCtorEq, Nat.reduceEqDiff, h3]
  have sb : ∀ {τ : Tau} {b : Bool}, τ 30 = .bool b → τ 2 = ptr G → τ 3 = ptr R → τ 5 = .slice (some ⟨A, 0, none⟩) 5 5 → (r.k ≤ 3 ∧ 0 ≤ r.rd ∧ r.rd < 8) → (b = true → ¬ FormG g.f g.nv r) → (b = false → (r.k ≠ 3 → r.rd = 0) ∧ mxL r.qs < fP g.f) →
      xp (prims P ro) none 80 k60 c60_1100111 [1, 1, 1, 0, 0, 1, 1] τ [] [] s3 (blkX 0 (sX (prims P ro) none 80 k60 c60_111 [1, 1, 1] (xleave (prims P ro) s Tryd.f60.results.toList fun v s' => v = Value.bool (decide (FormG g.f g.nv r)) ∧ s' = s))) := fun {τ b} h30 h2 h3 h5 hp hT hF' => by
    rw [n60_1100111]
    unfold v60_1100111
    simp (maxSteps := 10000000) only [wW, reduceCtorEq, Nat.reduceEqDiff, wL, Nat.reduceAdd, h30, h2, h3, h5, hG3, hR3]
    by_cases hb : b = true
    · rw [if_pos hb]
      exact noX (hT hb) rfl
    · rw [if_neg hb]
      have hq := hF' (by simpa using hb)
      by_cases k1 : r.k = 1
      · rw [if_neg (by simpa using k1), blkX_n, sX_n QOk.leave]
        refine sc ?_ ?_ hp hq (fun h => absurd k1 h) <;> simp only [U, tset_eq, wW, reduceCtorEq, Nat.reduceEqDiff, h2, h3]
      · rw [if_pos k1, wMaxU hQ (by show 0 < 5; decide) (by show 5 < _; decide)]
        simp (maxSteps := 10000000) only [wW, reduceCtorEq, Nat.reduceEqDiff]
        by_cases hz : mxL r.qs = 0
        · rw [if_neg (by simpa using hz), blkX_n, sX_n QOk.leave]
          refine sc ?_ ?_ hp hq (fun _ => hz) <;> simp only [U, tset_eq, wW, reduceCtorEq, Nat.reduceEqDiff, h2, h3]
        · rw [if_pos hz]
          exact noX (fun hf => hz (hf.2.2.2.2.2.1 k1)) rfl
  have sa : ∀ {τ : Tau} {b : Bool}, τ 20 = .bool b → τ 2 = ptr G → τ 3 = ptr R → τ 5 = .slice (some ⟨A, 0, none⟩) 5 5 → (b = true → ¬ FormG g.f g.nv r) → (b = false → r.k ≤ 3 ∧ 0 ≤ r.rd ∧ r.rd < 8) →
      xp (prims P ro) none 80 k60 c60_11001 [1, 0, 0, 1, 1] τ [] [] s3 (blkX 0 (sX (prims P ro) none 80 k60 c60_111 [1, 1, 1] (xleave (prims P ro) s Tryd.f60.results.toList fun v s' => v = Value.bool (decide (FormG g.f g.nv r)) ∧ s' = s))) := fun {τ b} h20 h2 h3 h5 hT hF' => by
    rw [n60_11001]
    unfold v60_11001
    simp (maxSteps := 10000000) only [wW, reduceCtorEq, Nat.reduceEqDiff, wL, Nat.reduceAdd, h20, h2, h3, h5, hG3, hR3]
    by_cases hb : b = true
    · rw [if_pos hb]
      exact noX (hT hb) rfl
    · rw [if_neg hb]
      have hp := hF' (by simpa using hb)
      have mx : ∀ K : Value → St → Prop, CallWP P ro 46 [.slice (some ⟨A, 0, none⟩) 5 5] s3 K = K (.int .u64 (mxL r.qs)) s3 := fun K => wMaxU hQ (by show 0 < 5; decide) (by show 5 < _; decide)
      have hF3 : FieldsAt s3 := FieldsAt.grew (s := ent s) hF g3
      have pp : ∀ K : Value → St → Prop, CallWP P ro 47 [.int .i64 g.f] s3 K = K (.int .u64 (fP g.f)) s3 := fun K => wfP g.f m3.wf (by omega) hF3
      by_cases k3 : r.k = 3
      · rw [if_neg (by simpa using k3)]
        refine ⟨by simp [veq], ?_⟩
        rw [mx]
        refine ⟨.refl _, ?_⟩
        rw [pp]
        simp (maxSteps := 10000000) only [wW, reduceCtorEq, Nat.reduceEqDiff]
        refine sb (b := decide (mxL r.qs ≥ fP g.f)) ?_ ?_ ?_ ?_ hp (fun hb h => ?_) (fun hb => ⟨fun h => absurd k3 h, ?_⟩)
        · simp only [U, tset_eq, wW, reduceCtorEq, Nat.reduceEqDiff]
        · simp only [U, tset_eq, wW, reduceCtorEq, Nat.reduceEqDiff, h2]
        · simp only [U, tset_eq, wW, reduceCtorEq, Nat.reduceEqDiff, h3]
        · simp only [U, tset_eq, wW, reduceCtorEq, Nat.reduceEqDiff, h5]
        · have := of_decide_eq_true hb
          have := h.2.2.2.2.1
          omega
        · have := of_decide_eq_false hb
          omega
      · rw [if_pos k3]
        by_cases k0 : r.rd = 0
        · rw [if_neg (by simpa using k0)]
          refine ⟨by simp [veq], ?_⟩
          rw [mx]
          refine ⟨.refl _, ?_⟩
          rw [pp]
          simp (maxSteps := 10000000) only [wW, reduceCtorEq, Nat.reduceEqDiff]
          refine sb (b := decide (mxL r.qs ≥ fP g.f)) ?_ ?_ ?_ ?_ hp (fun hb h => ?_) (fun hb => ⟨fun _ => k0, ?_⟩)
          · simp only [U, tset_eq, wW, reduceCtorEq, Nat.reduceEqDiff]
          · simp only [U, tset_eq, wW, reduceCtorEq, Nat.reduceEqDiff, h2]
          · simp only [U, tset_eq, wW, reduceCtorEq, Nat.reduceEqDiff, h3]
          · simp only [U, tset_eq, wW, reduceCtorEq, Nat.reduceEqDiff, h5]
          · have := of_decide_eq_true hb
            have := h.2.2.2.2.1
            omega
          · have := of_decide_eq_false hb
            omega
        · rw [if_pos k0]
          refine sb (b := true) ?_ ?_ ?_ ?_ hp (fun _ h => k0 (h.2.2.2.1 k3)) (fun h => by cases h)
          · simp only [U, tset_eq, wW, reduceCtorEq, Nat.reduceEqDiff]
          · simp only [U, tset_eq, wW, reduceCtorEq, Nat.reduceEqDiff, h2]
          · simp only [U, tset_eq, wW, reduceCtorEq, Nat.reduceEqDiff, h3]
          · simp only [U, tset_eq, wW, reduceCtorEq, Nat.reduceEqDiff, h5]
  by_cases c1 : r.k > 3
  · rw [if_pos c1]
    exact sa (b := true) rfl rfl rfl rfl (fun _ h => by have := h.1; omega) (fun h => by cases h)
  · rw [if_neg c1]
    by_cases c2 : r.rd < 0
    · rw [if_pos c2]
      exact sa (b := true) rfl rfl rfl rfl (fun _ h => by have := h.2.1; omega) (fun h => by cases h)
    · rw [if_neg c2]
      refine sa (b := decide (r.rd ≥ 8)) rfl rfl rfl rfl (fun hb h => ?_) (fun hb => ?_)
      · have := of_decide_eq_true hb
        have := h.2.2.1
        omega
      · have := of_decide_eq_false hb
        omega
end
end Go.VE
/- The program's gates: the library's slices of ints. -/
namespace Go.VE
open Go Go.Proofs
set_option maxRecDepth 20000
def mxF (l : List Int) : Int := l.foldl maxI 0
section
variable {ro : Nat} {s : St} {K : Value → St → Prop}
theorem wMaxI {u : Value} {l : List Int} (hu : Ints s u l) (h0 : 0 < l.length) (hlen : l.length < 2 ^ 60) : CallWP P ro 62 [u] s K = K (.int .i64 (mxL l)) s := by
  refine callEq (call_wp b62 rfl ?_) K
  rw [n62]
  unfold v62
  simp (maxSteps := 10000000) only [wW, reduceCtorEq, Nat.reduceEqDiff, Sl.wlen hu se_49]
  rw [if_neg (by omega), n62_11]
  unfold v62_11
  obtain ⟨A, o, c, q1, q2, q3⟩ := hu.at1 (i := 0) (x := at0 l 0) (by decide) (at0_get (Int.le_refl 0) (by omega))
  simp (maxSteps := 10000000) only [U, tset_eq, wW, reduceCtorEq, Nat.reduceEqDiff, wL, Nat.reduceAdd, q1, q2, q3]
  refine wloop l62_1110100 m62_1110100 (fun (i : Nat) τ ds s' => 1 ≤ i ∧ i ≤ l.length ∧ τ 0 = u ∧ τ 3 = .int .i64 ((l.take i).foldl maxI (at0 l 0)) ∧ τ 4 = .int .i64 i ∧ ds = [] ∧ s' = ent s) (fun i => l.length - i) ?_ 1 ⟨Nat.le_refl _, h0, ?_, ?_, ?_, rfl, rfl⟩
  · rintro i τ ds s' ⟨h1, hi, t0, t3, t4, rfl, rfl⟩
    rw [n62_1110100]
    unfold v62_1110100
    simp (maxSteps := 10000000) only [wW, reduceCtorEq, Nat.reduceEqDiff, t0, t3, t4, Sl.wlen hu se_49]
    by_cases hlt : i < l.length
    · rw [if_pos (by omega)]
      obtain ⟨A, o, c, q1, q2, q3⟩ := hu.at1 (i := (i : Int)) (x := l[i]) (by omega) (by rw [Int.toNat_natCast]; exact List.getElem?_eq_getElem hlt)
      simp (maxSteps := 10000000) only [wW, reduceCtorEq, Nat.reduceEqDiff, wL, Nat.reduceAdd, q1, q2, q3, max_i64]
      rw [wrap_i64 (by omega) (by omega)]
      refine ⟨i + 1, by omega, by omega, by omega, ?_, ?_, ?_, trivial, trivial⟩
      · simp only [U, tset_eq, wW, reduceCtorEq, Nat.reduceEqDiff, t0]
      · simp only [U, tset_eq, wW, reduceCtorEq, Nat.reduceEqDiff]
        rw [take_succ_eq (List.getElem?_eq_getElem hlt), List.foldl_append]
        rfl
      · simp only [U, tset_eq, wW, reduceCtorEq, Nat.reduceEqDiff]; rfl
    · obtain rfl : i = l.length := by omega
      rw [if_neg (by omega), List.take_length] at *
      simp (maxSteps := 10000000) only [U, tset_eq, wW, reduceCtorEq, Nat.reduceEqDiff, t3]
      rw [xleave_U, r62]
      simp (maxSteps := 10000000) only [U, tset_eq, wW, reduceCtorEq, Nat.reduceEqDiff]
      exact fin_flat rfl (.refl _) ⟨rfl, rfl⟩
  · simp only [U, tset_eq, wW, reduceCtorEq, Nat.reduceEqDiff]
  · simp only [U, tset_eq, wW, reduceCtorEq, Nat.reduceEqDiff]
    rw [show l.take 1 = [at0 l 0] by
      cases l with
      | nil => simp at h0
      | cons x l => rfl]
    simp [maxI]
  · simp only [U, tset_eq, wW, reduceCtorEq, Nat.reduceEqDiff]; rfl
theorem wMinI {u : Value} {l : List Int} (hu : Ints s u l) (h0 : 0 < l.length) (hlen : l.length < 2 ^ 60) : CallWP P ro 61 [u] s K = K (.int .i64 (mnL l)) s := by
  refine callEq (call_wp b61 rfl ?_) K
  rw [n61]
  unfold v61
  simp (maxSteps := 10000000) only [wW, reduceCtorEq, Nat.reduceEqDiff, Sl.wlen hu se_49]
  rw [if_neg (by omega), n61_11]
  unfold v61_11
  obtain ⟨A, o, c, q1, q2, q3⟩ := hu.at1 (i := 0) (x := at0 l 0) (by decide) (at0_get (Int.le_refl 0) (by omega))
  simp (maxSteps := 10000000) only [U, tset_eq, wW, reduceCtorEq, Nat.reduceEqDiff, wL, Nat.reduceAdd, q1, q2, q3]
  refine wloop l61_1110100 m61_1110100 (fun (i : Nat) τ ds s' => 1 ≤ i ∧ i ≤ l.length ∧ τ 0 = u ∧ τ 3 = .int .i64 ((l.take i).foldl minI (at0 l 0)) ∧ τ 4 = .int .i64 i ∧ ds = [] ∧ s' = ent s) (fun i => l.length - i) ?_ 1 ⟨Nat.le_refl _, h0, ?_, ?_, ?_, rfl, rfl⟩
  · rintro i τ ds s' ⟨h1, hi, t0, t3, t4, rfl, rfl⟩
    rw [n61_1110100]
    unfold v61_1110100
    simp (maxSteps := 10000000) only [wW, reduceCtorEq, Nat.reduceEqDiff, t0, t3, t4, Sl.wlen hu se_49]
    by_cases hlt : i < l.length
    · rw [if_pos (by omega)]
      obtain ⟨A, o, c, q1, q2, q3⟩ := hu.at1 (i := (i : Int)) (x := l[i]) (by omega) (by rw [Int.toNat_natCast]; exact List.getElem?_eq_getElem hlt)
      simp (maxSteps := 10000000) only [wW, reduceCtorEq, Nat.reduceEqDiff, wL, Nat.reduceAdd, q1, q2, q3, min_i64']
      rw [wrap_i64 (by omega) (by omega)]
      refine ⟨i + 1, by omega, by omega, by omega, ?_, ?_, ?_, trivial, trivial⟩
      · simp only [U, tset_eq, wW, reduceCtorEq, Nat.reduceEqDiff, t0]
      · simp only [U, tset_eq, wW, reduceCtorEq, Nat.reduceEqDiff]
        rw [take_succ_eq (List.getElem?_eq_getElem hlt), List.foldl_append]
        rfl
      · simp only [U, tset_eq, wW, reduceCtorEq, Nat.reduceEqDiff]; rfl
    · obtain rfl : i = l.length := by omega
      rw [if_neg (by omega), List.take_length] at *
      simp (maxSteps := 10000000) only [U, tset_eq, wW, reduceCtorEq, Nat.reduceEqDiff, t3]
      rw [xleave_U, r61]
      simp (maxSteps := 10000000) only [U, tset_eq, wW, reduceCtorEq, Nat.reduceEqDiff]
      exact fin_flat rfl (.refl _) ⟨rfl, rfl⟩
  · simp only [U, tset_eq, wW, reduceCtorEq, Nat.reduceEqDiff]
  · simp only [U, tset_eq, wW, reduceCtorEq, Nat.reduceEqDiff]
    rw [show l.take 1 = [at0 l 0] by
      cases l with
      | nil => simp at h0
      | cons x l => rfl]
    simp [minI]
  · simp only [U, tset_eq, wW, reduceCtorEq, Nat.reduceEqDiff]; rfl
theorem wDeepest {u : Value} {l : List Int} (hu : Ints s u l) (hlen : l.length < 2 ^ 60) : CallWP P ro 38 [u] s K = K (.int .i64 (mxF l)) s := by
  refine callEq (call_wp b38 rfl ?_) K
  rw [n38]
  unfold v38
  simp (maxSteps := 10000000) only [wW, reduceCtorEq, Nat.reduceEqDiff, Sl.wlen hu se_49]
  refine wloop l38_110100 m38_110100 (fun (i : Nat) τ ds s' => i ≤ l.length ∧ τ 6 = u ∧ τ 7 = .int .i64 l.length ∧ τ 3 = .int .i64 ((l.take i).foldl maxI 0) ∧ τ 8 = .int .i64 i ∧ ds = [] ∧ s' = ent s) (fun i => l.length - i) ?_ 0 ⟨Nat.zero_le _, ?_, ?_, ?_, ?_, rfl, rfl⟩
  · rintro i τ ds s' ⟨hi, t6, t7, t3, t8, rfl, rfl⟩
    rw [n38_110100]
    unfold v38_110100
    simp (maxSteps := 10000000) only [wW, reduceCtorEq, Nat.reduceEqDiff, t6, t7, t3, t8]
    by_cases hlt : i < l.length
    · rw [if_pos (by omega)]
      obtain ⟨A, o, c, q1, q2, q3⟩ := hu.at1 (i := (i : Int)) (x := l[i]) (by omega) (by rw [Int.toNat_natCast]; exact List.getElem?_eq_getElem hlt)
      simp (maxSteps := 10000000) only [wW, reduceCtorEq, Nat.reduceEqDiff, wL, Nat.reduceAdd, q1, q2, q3, max_i64]
      rw [wrap_i64 (by omega) (by omega)]
      refine ⟨i + 1, by omega, by omega, ?_, ?_, ?_, ?_, trivial, trivial⟩
      · simp only [U, tset_eq, wW, reduceCtorEq, Nat.reduceEqDiff, t6]
      · simp only [U, tset_eq, wW, reduceCtorEq, Nat.reduceEqDiff, t7]
      · simp only [U, tset_eq, wW, reduceCtorEq, Nat.reduceEqDiff]
        rw [take_succ_eq (List.getElem?_eq_getElem hlt), List.foldl_append]
        rfl
      · simp only [U, tset_eq, wW, reduceCtorEq, Nat.reduceEqDiff]; rfl
    · obtain rfl : i = l.length := by omega
      rw [if_neg (by omega), List.take_length] at *
      simp (maxSteps := 10000000) only [U, tset_eq, wW, reduceCtorEq, Nat.reduceEqDiff, t3]
      exact fin_flat rfl (.refl _) ⟨rfl, rfl⟩
  · simp only [U, tset_eq, wW, reduceCtorEq, Nat.reduceEqDiff]
  · simp only [U, tset_eq, wW, reduceCtorEq, Nat.reduceEqDiff]
  · simp only [U, tset_eq, wW, reduceCtorEq, Nat.reduceEqDiff]; rfl
  · simp only [U, tset_eq, wW, reduceCtorEq, Nat.reduceEqDiff]; rfl
theorem wContains {u : Value} {l : List Int} (x : Int) (hu : Ints s u l) (hlen : l.length < 2 ^ 60) : CallWP P ro 64 [u, .int .i64 x] s K = K (.bool (decide (x ∈ l))) s := by
  have hix : ∀ (s : St) (K : Value → St → Prop), Ints s u l → (∀ i : Int, (0 ≤ i ↔ x ∈ l) → K (.int .i64 i) s) → CallWP P ro 73 [u, .int .i64 x] s K := fun s K hu hk => by
    refine call_wp b73 rfl ?_
    rw [n73]
    unfold v73
    simp (maxSteps := 10000000) only [wW, reduceCtorEq, Nat.reduceEqDiff, Sl.wlen hu se_49]
    refine wloop l73_10100 m73_10100 (fun (i : Nat) τ ds s' => i ≤ l.length ∧ τ 0 = u ∧ τ 1 = .int .i64 x ∧ τ 7 = .int .i64 l.length ∧ τ 8 = .int .i64 i ∧ ds = [] ∧ s' = ent s ∧ ∀ y ∈ l.take i, y ≠ x) (fun i => l.length - i) ?_ 0 ⟨Nat.zero_le _, ?_, ?_, ?_, ?_, rfl, rfl, fun y hy => by cases hy⟩
    · rintro i τ ds s' ⟨hi, t0, t1, t7, t8, rfl, rfl, hall⟩
      rw [n73_10100]
      unfold v73_10100
      simp (maxSteps := 10000000) only [wW, reduceCtorEq, Nat.reduceEqDiff, t0, t1, t7, t8]
      by_cases hlt : i < l.length
      · rw [if_pos (by omega)]
        obtain ⟨A, o, c, q1, q2, q3⟩ := hu.at1 (i := (i : Int)) (x := l[i]) (by omega) (by rw [Int.toNat_natCast]; exact List.getElem?_eq_getElem hlt)
        simp (maxSteps := 10000000) only [wW, reduceCtorEq, Nat.reduceEqDiff, wL, Nat.reduceAdd, q1, q2, q3]
        by_cases he : x = l[i]
        · rw [if_pos he, r73]
          simp (maxSteps := 10000000) only [U, tset_eq, wW, reduceCtorEq, Nat.reduceEqDiff]
          refine fin_flat rfl (.refl _) (hk _ ⟨fun _ => ?_, fun _ => by omega⟩)
          rw [he]
          exact List.getElem_mem _
        · rw [if_neg he, wrap_i64 (by omega) (by omega)]
          refine ⟨i + 1, by omega, by omega, ?_, ?_, ?_, ?_, trivial, trivial, fun y hy => ?_⟩
          · simp only [U, tset_eq, wW, reduceCtorEq, Nat.reduceEqDiff, t0]
          · simp only [U, tset_eq, wW, reduceCtorEq, Nat.reduceEqDiff, t1]
          · simp only [U, tset_eq, wW, reduceCtorEq, Nat.reduceEqDiff, t7]
          · simp only [U, tset_eq, wW, reduceCtorEq, Nat.reduceEqDiff]; rfl
          · rw [take_succ_eq (List.getElem?_eq_getElem hlt), List.mem_append] at hy
            rcases hy with hy | hy
            · exact hall y hy
            · simp only [List.mem_cons, List.not_mem_nil, or_false] at hy
              subst hy
              exact fun h => he h.symm
      · rw [if_neg (by omega)]
        rw [List.take_of_length_le (by omega)] at hall
        refine fin_flat rfl (.refl _) (hk _ ⟨fun h => absurd h (by decide), fun h => absurd rfl (hall x h)⟩)
    · simp only [U, tset_eq, wW, reduceCtorEq, Nat.reduceEqDiff]
    · simp only [U, tset_eq, wW, reduceCtorEq, Nat.reduceEqDiff]
    · simp only [U, tset_eq, wW, reduceCtorEq, Nat.reduceEqDiff]
    · simp only [U, tset_eq, wW, reduceCtorEq, Nat.reduceEqDiff]; rfl
  refine callEq (call_wp b64 rfl ?_) K
  rw [n64]
  unfold v64
  show CallWP P ro 73 [u, .int .i64 x] (ent s) _
  refine hix _ _ (Sl.ent hu) fun i hi => ?_
  simp (maxSteps := 10000000) only [wW, reduceCtorEq, Nat.reduceEqDiff]
  refine fin_flat rfl (.refl _) ⟨?_, rfl⟩
  rw [show decide (i ≥ 0) = decide (x ∈ l) from decide_eq_decide.2 hi]
end
end Go.VE
/- The program's gates: the library's Repeat. -/
namespace Go.VE
open Go Go.Proofs
set_option maxRecDepth 20000
theorem and32 {x : Int} (h0 : 0 ≤ x) (h1 : x < 2 ^ 32) : ((BitVec.ofInt 64 x &&& BitVec.ofInt 64 4294967295).toNat : Int) = x := by
  rw [BitVec.toNat_and]
  have e1 : (BitVec.ofInt 64 x).toNat = x.toNat := by
    rw [BitVec.toNat_ofInt]
    congr 1
    exact Int.emod_eq_of_lt h0 (by omega)
  have e2 : (BitVec.ofInt 64 4294967295).toNat = 2 ^ 32 - 1 := rfl
  rw [e1, e2, Nat.and_two_pow_sub_one_eq_mod]
  omega
theorem andU32 {x : Int} (h0 : 0 ≤ x) (h1 : x < 2 ^ 32) : abinInt P .and .u64 x .u64 4294967295 = some (.int .u64 x) := by
  rw [int_and keq_u64]
  have e : IntKind.u64.bits = 64 := rfl
  rw [e, and32 h0 h1, wrap_u64 (by omega) (by omega)]
theorem shrU32 {x : Int} (h0 : 0 ≤ x) (h1 : x < 2 ^ 32) : abinInt P .shr .u64 x .u64 32 = some (.int .u64 0) := by
  rw [int_shr _ _ _ _ (by decide)]
  have e : (2 : Int) ^ min (32 : Int).toNat IntKind.u64.bits = 2 ^ 32 := rfl
  rw [e, Int.fdiv_eq_ediv_of_nonneg _ (by decide), Int.ediv_eq_zero_of_lt h0 h1]
section
variable {ro : Nat} {s : St} {K : Value → St → Prop}
theorem conv_int_uint (a : Int) (ty : TypeId) (s : St) (K : Value → St → Prop) : wop P ro (.convert 3 84 (.const (.int .i64 a))) ty s K = K (.int .u64 (IntKind.u64.wrap a)) s := by kernel_rfl
theorem conv_uint_int (a : Int) (ty : TypeId) (s : St) (K : Value → St → Prop) : wop P ro (.convert 84 3 (.const (.int .u64 a))) ty s K = K (.int .i64 (IntKind.i64.wrap a)) s := by kernel_rfl
theorem wMul1 {n : Int} (h0 : 0 ≤ n) (h1 : n < 2 ^ 31) : CallWP P ro 72 [.int .u64 1, .int .u64 n] s K = K (.tuple (.mk [.int .u64 0, .int .u64 n])) s := by
  have h64 : ∀ (s : St) (K : Value → St → Prop), CallWP P ro 78 [.int .u64 1, .int .u64 n] s K = K (.tuple (.mk [.int .u64 0, .int .u64 n])) s := fun s K => by
    refine callEq (call_wp b78 rfl ?_) K
    rw [n78]
    unfold v78
    simp (maxSteps := 10000000) only [wW, reduceCtorEq, Nat.reduceEqDiff, andU32 (show (0 : Int) ≤ 1 by decide) (by decide), andU32 h0 (show n < 2 ^ 32 by omega), shrU32 (show (0 : Int) ≤ 1 by decide) (by decide), shrU32 h0 (show n < 2 ^ 32 by omega)]
    have w1 : IntKind.u64.wrap (1 * n) = n := by rw [Int.one_mul]; exact wrap_u64 (by omega) (by omega)
    have w2 : IntKind.u64.wrap (0 * n) = 0 := by rw [Int.zero_mul]; rfl
    have w3 : IntKind.u64.wrap (1 * 0) = 0 := rfl
    have w4 : IntKind.u64.wrap (0 * 0) = 0 := rfl
    have w5 : IntKind.u64.wrap (0 + 0) = 0 := rfl
    have z1 := andU32 (x := 0) (by decide) (by decide)
    have z2 := shrU32 (x := 0) (by decide) (by decide)
    simp (maxSteps := 10000000) only [wW, reduceCtorEq, Nat.reduceEqDiff, w1, w2, w3, w4, w5, z1, z2, shrU32 h0 (show n < 2 ^ 32 by omega)]
    exact fin_flat rfl (.refl _) ⟨rfl, rfl⟩
  refine callEq (call_wp b72 rfl ?_) K
  rw [n72]
  unfold v72
  show CallWP P ro 78 [.int .u64 1, .int .u64 n] (ent s) _
  rw [h64]
  simp (maxSteps := 10000000) only [wW, reduceCtorEq, Nat.reduceEqDiff, wop_extract, List.getElem?_cons_zero, List.getElem?_cons_succ, wopt_some]
  exact fin_flat rfl (.refl _) ⟨rfl, rfl⟩
end
end Go.VE
/- The program's gates: the library's Repeat. -/
namespace Go.VE
open Go Go.Proofs
set_option maxRecDepth 20000
section
variable {ro : Nat} {s : St} {K : Value → St → Prop}
theorem Sl.firstN {s : St} {v : Value} {n : Nat} {cs : List Value} (h : Sl s v 1 n cs) {j : Nat} (hj : j ≤ n) : afirst s 1 j v = some (cs.take j) := by
  obtain ⟨a, c, rfl, hl, _, h⟩ := h
  cases j with
  | zero =>
    cases a with
    | none => rfl
    | some x => rfl
  | succ k =>
    obtain ⟨A, o, m, cells, t, op, rfl, hm, hA, hc⟩ := h (by omega)
    rw [Nat.mul_one] at hc
    have hlen : n ≤ cells.length - o := by
      have := congrArg List.length hc
      simp only [List.length_take, List.length_drop] at this
      omega
    simp only [afirst, Nat.mul_one, hm, cond_true, hA, acells, Option.bind_some]
    rw [cut_eq (by omega), ← hc, List.take_take, Nat.min_eq_left hj]
theorem map_spliceL {α : Type} (mk : α → Value) (l x : List α) (o : Nat) : splice (l.map mk) o (x.map mk) = (l.take o ++ x ++ l.drop (o + x.length)).map mk := by
  unfold splice
  simp [List.map_take, List.map_drop]
theorem Vc.copy {α : Type} {t u e : TypeId} {mk : α → Value} {s0 s : St} {A : Nat} {l : List α} (h : Vc e mk s0 s A l) (hse : sliceElem P t = some e) (hs : isz P e = some 1) (hw0 : Wf s0) (hro : ro ≤ s0.n) {o n c : Nat} {m : Option Nat} (hfit : o + n ≤ l.length) {w : Value} {k : Nat} {cs : List α} (hsrc : Sl s w 1 k (cs.map mk)) (h1 : ∀ x, (mk x).oneCell' = true) {ty : TypeId} {K : Value → St → Prop}
    (hk : ∀ s', Vc e mk s0 s' A (l.take o ++ cs.take (min k n) ++ l.drop (o + min k n)) → (∀ B, B ≠ A → s'.at B = s.at B) → s'.n = s.n → K (.int .i64 (min k n : Nat)) s') :
    wop P ro (.call ⟨.builtin .copy, ⟨[.const (.slice (some ⟨A, o, m⟩) n c), .const w]⟩, #[t, u]⟩) ty s K := by
  have hn := h.new
  have hcl : cs.length = k := by
    have := hsrc.len
    rw [List.length_map, Nat.mul_one] at this
    exact this
  rw [wop_copy]
  simp only [acopy, hse, hs, hsrc.first.1, hsrc.firstN (Nat.min_le_left k n), Option.bind_some]
  have hmin : (cs.take (min k n)).length = min k n := by rw [List.length_take]; omega
  rw [← List.map_take]
  cases hx : cs.take (min k n) with
  | nil =>
    have hz : min k n = 0 := by rw [hx] at hmin; exact hmin.symm
    have e : awrite ro s A o (List.map mk []) = some s := rfl
    rw [e, Option.map_some, wopt_some]
    refine hk s ?_ (fun _ _ => rfl) rfl
    rw [hx, hz, Nat.add_zero, List.append_nil, List.take_append_drop]
    exact h
  | cons x r =>
    have hall : (List.map mk (x :: r)).all (·.oneCell') = true := by
      rw [List.all_eq_true]
      intro v hv
      obtain ⟨y, _, rfl⟩ := List.mem_map.1 hv
      exact h1 y
    have hln : (List.map mk (x :: r)).length = min k n := by rw [List.length_map, ← hx]; exact hmin
    have ew : awrite ro s A o (List.map mk (x :: r)) = some (s.put A (.cells (splice (l.map mk) o (List.map mk (x :: r))) e false)) := by
      show awriteIn ro s A o (List.map mk (x :: r)) (s.at A) = _
      rw [h.here]
      have hb : (Nat.ble ro A && (Nat.ble (o + (List.map mk (x :: r)).length) (l.map mk).length && (List.map mk (x :: r)).all (·.oneCell'))) = true := by
        rw [hall, hln, Nat.ble_eq_true_of_le (show ro ≤ A by omega), Nat.ble_eq_true_of_le (show o + min k n ≤ (l.map mk).length by rw [List.length_map]; omega)]
        rfl
      simp only [awriteIn, hb, cond_true]
    rw [ew, Option.map_some, wopt_some]
    have p := Put.mk' h.wf (St.at_lt h.here) (.cells (splice (l.map mk) o (List.map mk (x :: r))) e false)
    refine hk _ ⟨?_, h.new, p.wf, p.grew _ hw0 h.grew h.new⟩ p.rest p.n
    rw [p.here, map_spliceL, hx]
    have : (x :: r).length = min k n := by rw [← hx]; exact hmin
    rw [this]
theorem Vc.part {α : Type} {e : TypeId} {mk : α → Value} {s0 s : St} {A : Nat} {l : List α} (h : Vc e mk s0 s A l) {o n c : Nat} (hfit : o + n ≤ l.length) (hc : n ≤ c) : Sl s (.slice (some ⟨A, o, none⟩) n c) 1 n (((l.drop o).take n).map mk) := by
  refine ⟨_, _, rfl, ?_, ⟨hc, fun h => (by cases h), fun x hx => by cases hx; exact .inl rfl⟩, fun _ => ⟨A, o, none, _, _, _, rfl, rfl, h.here, ?_⟩⟩
  · rw [List.length_map, List.length_take, List.length_drop]; omega
  · rw [Nat.mul_one, ← List.map_drop, ← List.map_take]
theorem rep_step {x z : Int} {n c : Nat} (hc : c ≤ n) : (List.replicate c x ++ List.replicate (n - c) z).take c ++ (List.replicate c x).take (min c (n - c)) ++ (List.replicate c x ++ List.replicate (n - c) z).drop (c + min c (n - c)) = List.replicate (c + min c (n - c)) x ++ List.replicate (n - (c + min c (n - c))) z := by
  rw [List.take_left' (by simp), List.take_replicate, List.replicate_append_replicate, List.drop_append, List.drop_of_length_le (by simp), List.nil_append, List.drop_replicate, List.length_replicate]
  congr 2
  · omega
  · omega
theorem slc_from (A n c : Nat) (hc : c < n) : asliceOp P 49 (slc A n) (some (.int .i64 (c : Int))) none none = some (.slice (some ⟨A, c, none⟩) (n - c) (n - c)) := by
  have hlo : abound (some (.int .i64 (c : Int))) 0 n = some c := by
    simp only [abound]
    rw [if_pos (by omega)]; rfl
  have hhi : abound none n n = some n := rfl
  simp only [asliceOp, sliceElem_un se_49, isz_3, sliceTwo, hhi, hlo, Option.bind_some, show ¬ n = c by omega, if_false, Nat.mul_one, Nat.zero_add]
theorem slc_to (A n c : Nat) (hc : c ≤ n) : asliceOp P 49 (slc A n) none (some (.int .i64 (c : Int))) none = some (.slice (some ⟨A, 0, none⟩) c n) := by
  have hhi : abound (some (.int .i64 (c : Int))) n n = some c := by
    simp only [abound]
    rw [if_pos (by omega)]; rfl
  have hlo : abound none 0 c = some 0 := rfl
  simp only [asliceOp, sliceElem_un se_49, isz_3, sliceTwo, hhi, hlo, Option.bind_some, Nat.zero_mul, Nat.zero_add, Nat.sub_zero, ite_self]
theorem wRepeat1 {u : Value} (x : Int) (hu : Ints s u [x]) {n : Int} (h0 : 0 ≤ n) (hn : n ≤ 2 ^ 30) (hw : Wf s) (hro : ro ≤ s.n) (hk : ∀ A s', Vc 3 (.int .i64) s s' A (List.replicate n.toNat x) → K (slc A n.toNat) s') :
    CallWP P ro 59 [u, .int .i64 n] s K := by
  refine call_wp b59 rfl ?_
  rw [n59]
  unfold v59
  simp (maxSteps := 10000000) only [wW, reduceCtorEq, Nat.reduceEqDiff]
  rw [if_neg (by omega), n59_11]
  unfold v59_11
  simp (maxSteps := 10000000) only [U, tset_eq, wW, reduceCtorEq, Nat.reduceEqDiff, Sl.wlen hu se_49, conv_int_uint]
  rw [show IntKind.u64.wrap (([x] : List Int).length : Nat) = 1 from rfl, wrap_u64 (by omega) (by omega), wMul1 h0 (by omega)]
  simp (maxSteps := 10000000) only [wW, reduceCtorEq, Nat.reduceEqDiff, wop_extract, List.getElem?_cons_zero, List.getElem?_cons_succ, wopt_some]
  rw [if_neg (by decide), if_neg (by omega), n59_1111]
  unfold v59_1111
  simp (maxSteps := 10000000) only [U, tset_eq, wW, reduceCtorEq, Nat.reduceEqDiff, conv_uint_int]
  rw [wrap_i64 (by omega) (by omega)]
  refine make_rule (mk := Value.int .i64) (x := 0) se_49 ty_3 rfl hw.ent h0 hn (by decide) fun A s1 m1 => ?_
  have e1 := m1.eq
  have n1 := m1.n
  have hn0 : (ent s).n = s.n := rfl
  have V1 : Vc 3 (.int .i64) (ent s) s1 A (List.replicate n.toNat 0) := ⟨m1.here, by omega, m1.wf, m1.grew⟩
  have hu1 : Sl s1 u 1 1 ([x].map (Value.int .i64)) := (Sl.ent hu).grew m1.grew.same
  refine V1.copy se_49 isz_3 hw.ent hro (by simp) hu1 (fun _ => rfl) fun s2 V2 _ _ => ?_
  have hV2 : Vc 3 (.int .i64) (ent s) s2 A (List.replicate (min 1 n.toNat) x ++ List.replicate (n.toNat - min 1 n.toNat) 0) := by
    have e : (List.replicate n.toNat (0 : Int)).take 0 ++ ([x].take (min 1 n.toNat)) ++ (List.replicate n.toNat (0 : Int)).drop (0 + min 1 n.toNat) = List.replicate (min 1 n.toNat) x ++ List.replicate (n.toNat - min 1 n.toNat) 0 := by
      rw [List.take_zero, List.nil_append, List.drop_replicate, Nat.zero_add]
      congr 1
      rcases Nat.eq_zero_or_pos n.toNat with h | h
      · rw [h]; rfl
      · rw [show min 1 n.toNat = 1 by omega]; rfl
    rw [← e]
    exact V2
  clear V2 V1
  generalize hc0 : min 1 n.toNat = c0 at hV2 ⊢
  have hc1 : c0 ≤ n.toNat ∧ (n.toNat = 0 ∨ 1 ≤ c0) := by omega
  refine wloop l59_111111000 m59_111111000 (fun (c : Nat) τ ds s' => c ≤ n.toNat ∧ (n.toNat = 0 ∨ 1 ≤ c) ∧ τ 7 = slc A n.toNat ∧ τ 8 = .int .i64 c ∧ ds = [] ∧ Vc 3 (.int .i64) (ent s) s' A (List.replicate c x ++ List.replicate (n.toNat - c) 0)) (fun c => n.toNat - c) ?_ c0 ⟨hc1.1, hc1.2, ?_, ?_, rfl, hV2⟩
  · clear hV2
    rintro c τ ds s' ⟨hc, hc2, t7, t8, rfl, V⟩
    rw [n59_111111000]
    unfold v59_111111000
    have hlI : ∀ {s : St} {K : Value → St → Prop}, wop P ro (.call ⟨.builtin .len, ⟨[.const (slc A n.toNat)]⟩, #[49]⟩) 3 s K = K (.int .i64 (n.toNat : Nat)) s := fun {s K} => wop_len se_49 _ _ _ _ _ _
    simp (maxSteps := 10000000) only [wW, reduceCtorEq, Nat.reduceEqDiff, t7, t8, hlI]
    by_cases hlt : c < n.toNat
    · rw [if_pos (by omega), wop_slice]
      simp (maxSteps := 10000000) only [wW, reduceCtorEq, Nat.reduceEqDiff, slc_from _ _ _ hlt, slc_to _ _ _ hc, wop_slice, aval, Option.map_some, Option.map_none]
      have hl : (List.replicate c x ++ List.replicate (n.toNat - c) (0 : Int)).length = n.toNat := by simp; omega
      have hsrc := V.part (o := 0) (n := c) (c := n.toNat) (by omega) hc
      rw [List.drop_zero, List.take_left' (by simp)] at hsrc
      refine V.copy se_49 isz_3 hw.ent hro (by omega) hsrc (fun _ => rfl) fun s2 V2 _ _ => ?_
      rw [rep_step hc] at V2
      simp (maxSteps := 10000000) only [wW, reduceCtorEq, Nat.reduceEqDiff]
      rw [wrap_i64 (by omega) (by omega)]
      refine ⟨c + min c (n.toNat - c), by omega, by omega, by omega, ?_, ?_, trivial, V2⟩
      · simp only [U, tset_eq, wW, reduceCtorEq, Nat.reduceEqDiff, t7]
      · simp only [U, tset_eq, wW, reduceCtorEq, Nat.reduceEqDiff]; rfl
    · obtain rfl : c = n.toNat := by omega
      rw [if_neg (by omega), xleave_U, r59]
      simp (maxSteps := 10000000) only [U, tset_eq, wW, reduceCtorEq, Nat.reduceEqDiff, t7]
      rw [Nat.sub_self, List.replicate_zero, List.append_nil] at V
      refine wfin_new hw V.grew rfl fun s2 g2 _ hat => hk A s2 ⟨(hat A).trans V.here, V.new, hw.grew g2, g2⟩
  · simp only [U, tset_eq, wW, reduceCtorEq, Nat.reduceEqDiff]
  · simp only [U, tset_eq, wW, reduceCtorEq, Nat.reduceEqDiff]
end
end Go.VE
/- The program's gates: what depths computes. -/
namespace Go.VE
open Go Go.Proofs
set_option maxRecDepth 20000
theorem rds_filter (r : Row) : rds r = ((List.range 4).filter (rdB r)).map (fun (n : Nat) => (n : Int)) := by
  have h4 : List.range 4 = [0, 1, 2, 3] := rfl
  rw [h4]
  unfold rds
  by_cases h1 : r.k = 1
  · by_cases a : (r.ql ≠ 0 ∨ r.qm ≠ 0) <;> by_cases b : (r.qr ≠ 0 ∨ r.qm ≠ 0) <;> by_cases c : r.qo = 0 <;>
      simp only [List.filter, rdB, rd0, rd1, rd2, rd3, h1, a, b, c, ne_eq, not_true, not_false_eq_true, if_true, if_false, decide_true, decide_false] <;> rfl
  · by_cases h2 : r.k = 2
    · simp [List.filter, rdB, rd0, rd1, rd2, rd3, h2]
    · by_cases h3 : r.k = 3
      · simp [List.filter, rdB, rd0, rd1, rd2, rd3, h3]
      · simp [List.filter, rdB, rd0, rd1, rd2, rd3, h1, h2, h3]
def mostF (r : Row) (D : List Int) : List Nat → Int → Option Int
  | [], m => some m
  | n :: l, m => if rdB r n = true then (if at0 D (r.w n) < 0 ∧ ¬ (r.k = 1 ∧ n = 2) then none else mostF r D l (if m < at0 D (r.w n) then at0 D (r.w n) else m)) else mostF r D l m
theorem mostF_eq (r : Row) (D : List Int) : ∀ (l : List Nat) (m : Int), mostM r D ((l.filter (rdB r)).map (fun (n : Nat) => (n : Int))) m = mostF r D l m
  | [], m => rfl
  | n :: l, m => by
    rw [mostF]
    cases hb : rdB r n with
    | false =>
      rw [List.filter_cons_of_neg (show ¬ rdB r n = true by rw [hb]; decide), if_neg (by decide)]
      exact mostF_eq r D l m
    | true =>
      rw [List.filter_cons_of_pos hb, if_pos rfl, List.map_cons, mostM, Int.toNat_natCast, mostF_eq r D l]
      by_cases hc : at0 D (r.w n) < 0 ∧ ¬ (r.k = 1 ∧ n = 2)
      · rw [if_pos hc, if_pos ⟨hc.1, fun h => hc.2 ⟨h.1, by omega⟩⟩]
      · rw [if_neg hc, if_neg (fun h => hc ⟨h.1, fun h2 => h.2 ⟨h2.1, by omega⟩⟩)]
theorem most_eq (r : Row) (D : List Int) : mostM r D (rds r) 0 = mostF r D (List.range 4) 0 := by rw [rds_filter, mostF_eq]
theorem range_drop {n k : Nat} (h : k < n) : (List.range n).drop k = k :: (List.range n).drop (k + 1) := by
  rw [List.drop_eq_getElem_cons (by simpa using h), List.getElem_range]
def upd1 (m : Int) (D : List Int) (w : Int) : List Int := if at0 D w < 0 then D.set w.toNat (m + 1) else D
def updL (m : Int) (ws : List Int) (D : List Int) : List Int := ws.foldl (upd1 m) D
def rowWs (r nx : Row) : List Int := if r.k = 3 then [nx.w 0, nx.w 1, nx.w 2, nx.w 3] else if r.qo ≠ 0 then [r.w 2] else []
theorem dRow_upd {r nx : Row} {m : Int} {D : List Int} (h : r.k ≠ 1 → r.qo = 0) : dRow r nx m D = updL m (rowWs r nx) D := by
  unfold dRow rowWs
  by_cases h3 : r.k = 3
  · have h1 : r.k ≠ 1 := by omega
    have e : dArith r m D = D := by unfold dArith; rw [if_neg (fun h => h1 h.1)]
    rw [if_pos h3, if_pos h3, e]
    rfl
  · rw [if_neg h3, if_neg h3]
    by_cases hq : r.qo ≠ 0
    · have h1 : r.k = 1 := Decidable.byContradiction fun h1 => hq (h h1)
      rw [if_pos hq]
      unfold dArith updL
      rw [List.foldl_cons, List.foldl_nil, upd1]
      by_cases hn : at0 D r.w2 < 0
      · rw [if_pos ⟨h1, hq, hn⟩, if_pos (show at0 D (r.w 2) < 0 from hn)]; rfl
      · rw [if_neg (fun h => hn h.2.2), if_neg (show ¬ at0 D (r.w 2) < 0 from hn)]
    · rw [if_neg hq]
      unfold dArith
      rw [if_neg (fun h => hq h.2.1)]; rfl
def RowG (g : Gp) (i : Nat) : Prop := Formed g.f g.nv (rowAt g.rows i) ∧ ((rowAt g.rows i).k = 3 → i + 1 < g.rows.length ∧ ∀ k : Nat, k < 4 → 0 ≤ (rowAt g.rows (i + 1)).w k ∧ (rowAt g.rows (i + 1)).w k < g.nv)
instance (g : Gp) (i : Nat) : Decidable (RowG g i) := by unfold RowG; infer_instance
def BaseG (g : Gp) : Prop := fV g.f = true ∧ 0 ≤ g.pub ∧ g.pub ≤ 16 ∧ 0 ≤ g.sec ∧ g.sec ≤ 20000 ∧ g.pub + g.sec ≤ g.nv ∧ g.nv ≤ 40000 ∧ g.rows.length ≤ 8000
def depsD (g : Gp) : Nat → Option (List Int)
  | 0 => some (List.replicate (g.pub + g.sec).toNat 0 ++ List.replicate (g.nv.toNat - (g.pub + g.sec).toNat) (-1))
  | i + 1 => (depsD g i).bind fun D => if RowG g i then stepD g i D else none
theorem Limits.base {g : Gp} (h : Limits g) : BaseG g := ⟨h.1, h.2.1, h.2.2.1, h.2.2.2.1, h.2.2.2.2.1, h.2.2.2.2.2.1, h.2.2.2.2.2.2.1, h.2.2.2.2.2.2.2.1⟩
theorem Limits.rowG {g : Gp} (h : Limits g) {i : Nat} (hi : i < g.rows.length) : RowG g i := ⟨(h.row hi).1, fun h3 => h.next hi h3⟩
theorem limits_of {g : Gp} (hb : BaseG g) (h : ∀ i, i < g.rows.length → RowG g i) : Limits g :=
  ⟨hb.1, hb.2.1, hb.2.2.1, hb.2.2.2.1, hb.2.2.2.2.1, hb.2.2.2.2.2.1, hb.2.2.2.2.2.2.1, hb.2.2.2.2.2.2.2, fun i hi => ⟨(h i hi).1, fun h3 => ⟨((h i hi).2 h3).1, fun k hk => (((h i hi).2 h3).2 k hk).1⟩⟩⟩
theorem depsD_none {g : Gp} {i : Nat} (h : depsD g i = none) : ∀ {n : Nat}, i ≤ n → depsD g n = none
  | 0, hn => by obtain rfl : i = 0 := by omega
                exact h
  | n + 1, hn => by
    rcases Nat.lt_or_ge i (n + 1) with hlt | hge
    · rw [depsD, depsD_none h (by omega)]; rfl
    · obtain rfl : i = n + 1 := by omega
      exact h
theorem depsD_rows {g : Gp} : ∀ {n : Nat} {D : List Int}, depsD g n = some D → ∀ i, i < n → RowG g i
  | 0, D, h, i, hi => by omega
  | n + 1, D, h, i, hi => by
    rw [depsD] at h
    cases hd : depsD g n with
    | none => rw [hd] at h; cases h
    | some E =>
      rw [hd, Option.bind_some] at h
      rcases Nat.lt_or_ge i n with hlt | hge
      · exact depsD_rows hd i hlt
      · obtain rfl : i = n := by omega
        by_cases hr : RowG g i
        · exact hr
        · rw [if_neg hr] at h; cases h
theorem dInit_get {n0 : Int} {N : Nat} : ∀ {k : Nat}, k ≤ N → ∀ j, j < N → (it (dInit n0) k (List.replicate N 0))[j]? = some (if j < k then (if (j : Int) < n0 then 0 else -1) else 0)
  | 0, _, j, hj => by
    rw [it, List.getElem?_replicate, if_pos hj, if_neg (by omega)]
  | k + 1, hk, j, hj => by
    have ih := dInit_get (n0 := n0) (N := N) (k := k) (by omega) j hj
    have hl : (it (dInit n0) k (List.replicate N 0)).length = N := by
      rw [it_len (fun n l => by unfold dInit; split <;> simp)]; simp
    rw [it]
    generalize it (dInit n0) k (List.replicate N 0) = X at ih hl ⊢
    unfold dInit
    by_cases hp : (k : Int) < n0
    · rw [if_pos hp, List.set_set]
      rcases Nat.lt_trichotomy j k with h | h | h
      · rw [List.getElem?_set_ne (by omega), ih, if_pos h, if_pos (show j < k + 1 by omega)]
      · subst h
        rw [List.getElem?_set_self (by omega), if_pos (show j < j + 1 by omega), if_pos hp]
      · rw [List.getElem?_set_ne (by omega), ih, if_neg (show ¬ j < k by omega), if_neg (show ¬ j < k + 1 by omega)]
    · rw [if_neg hp]
      rcases Nat.lt_trichotomy j k with h | h | h
      · rw [List.getElem?_set_ne (by omega), ih, if_pos h, if_pos (show j < k + 1 by omega)]
      · subst h
        rw [List.getElem?_set_self (by omega), if_pos (show j < j + 1 by omega), if_neg hp]
      · rw [List.getElem?_set_ne (by omega), ih, if_neg (show ¬ j < k by omega), if_neg (show ¬ j < k + 1 by omega)]
theorem init_eq {g : Gp} (h0 : 0 ≤ g.pub + g.sec) (h1 : g.pub + g.sec ≤ g.nv) : it (dInit (g.pub + g.sec)) g.nv.toNat (List.replicate g.nv.toNat 0) = List.replicate (g.pub + g.sec).toNat 0 ++ List.replicate (g.nv.toNat - (g.pub + g.sec).toNat) (-1) := by
  refine List.ext_getElem? fun j => ?_
  rcases Nat.lt_or_ge j g.nv.toNat with hj | hj
  · rw [dInit_get (Nat.le_refl _) j hj, if_pos hj]
    by_cases hp : (j : Int) < g.pub + g.sec
    · rw [if_pos hp, List.getElem?_append_left (by rw [List.length_replicate]; omega), List.getElem?_replicate, if_pos (by omega)]
    · rw [if_neg hp, List.getElem?_append_right (by rw [List.length_replicate]; omega), List.getElem?_replicate, if_pos (by rw [List.length_replicate]; omega)]
  · rw [List.getElem?_eq_none, List.getElem?_eq_none]
    · simp; omega
    · rw [it_len (fun n l => by unfold dInit; split <;> simp)]; simpa using hj
theorem deps_order {g : Gp} (hL : Limits g) : ∀ {n : Nat}, n ≤ g.rows.length → depsD g n = orderD g n
  | 0, _ => by
    have := hL.2.1
    have := hL.2.2.2.1
    rw [depsD, orderD, init_eq (by omega) hL.2.2.2.2.2.1]
  | n + 1, hn => by
    rw [depsD, orderD, deps_order hL (by omega)]
    congr 1
    funext D
    rw [if_pos (hL.rowG (by omega))]
theorem deps_bad {g : Gp} (h : depsD g g.rows.length = none) : validM g = false := by
  unfold validM
  by_cases hL : Limits g
  · rw [decide_eq_true hL, Bool.true_and]
    unfold orderM
    rw [← deps_order hL (Nat.le_refl _), h]; rfl
  · rw [decide_eq_false hL]; rfl
theorem deps_ok {g : Gp} (hb : BaseG g) {D : List Int} (h : depsD g g.rows.length = some D) (hD : ∀ x ∈ D, -1 ≤ x) : (-1 ∈ D → validM g = false) ∧ (-1 ∉ D → validM g = true ∧ orderM g = some D) := by
  have hL := limits_of hb (depsD_rows h)
  have ho : orderD g g.rows.length = some D := by rw [← deps_order hL (Nat.le_refl _)]; exact h
  have hv : validM g = (orderM g).isSome := by unfold validM; rw [decide_eq_true hL, Bool.true_and]
  have hm : orderM g = if D.all (fun x => decide (0 ≤ x)) then some D else none := by unfold orderM; rw [ho]; rfl
  constructor
  · intro hn
    rw [hv, hm, if_neg]; rfl
    intro ha
    have := of_decide_eq_true (List.all_eq_true.1 ha _ hn)
    omega
  · intro hn
    have ha : D.all (fun x => decide (0 ≤ x)) = true := List.all_eq_true.2 fun x hx => decide_eq_true (by
      have h1 := hD x hx
      have h2 : x ≠ -1 := fun h => hn (h ▸ hx)
      omega)
    rw [hv, hm, if_pos ha]
    exact ⟨rfl, rfl⟩
theorem base_bad {g : Gp} (h : ¬ BaseG g) : validM g = false := by
  unfold validM
  rw [decide_eq_false (fun hL => h hL.base)]; rfl
theorem Dep.upd1 {N : Nat} {i m : Int} {D : List Int} (h : Dep N (i + 1) D) (hm : -1 ≤ m ∧ m ≤ i) (w : Int) : Dep N (i + 1) (Go.VE.upd1 m D w) := by
  unfold Go.VE.upd1
  split
  · exact h.set (by omega)
  · exact h
theorem Dep.updL {N : Nat} {i m : Int} (hm : -1 ≤ m ∧ m ≤ i) : ∀ (ws : List Int) {D : List Int}, Dep N (i + 1) D → Dep N (i + 1) (Go.VE.updL m ws D)
  | [], D, h => h
  | w :: ws, D, h => Dep.updL hm ws (h.upd1 hm w)
end Go.VE
/- The program's gates: depths. -/
namespace Go.VE
open Go Go.Proofs
set_option maxRecDepth 20000
section
variable {ro : Nat} {K : Value → St → Prop} {g : Gp} {ur : Value} {s0 : St} {G A : Nat} {s : St} {D : List Int}
theorem zero_step {n0 N i : Nat} (hi : i < n0) (hn : n0 ≤ N) : (List.replicate i (0 : Int) ++ List.replicate (N - i) (-1)).set i 0 = List.replicate (i + 1) 0 ++ List.replicate (N - (i + 1)) (-1) := by
  rw [List.set_append_right _ _ (by simp), List.length_replicate, Nat.sub_self, show N - i = (N - (i + 1)) + 1 by omega, List.replicate_succ, List.set_cons_zero, List.replicate_succ', List.append_assoc]
  rfl
structure RdI (ro : Nat) (g : Gp) (ur : Value) (s0 : St) (G A : Nat) (D : List Int) (τ0 : Tau) (ds0 : List Deferred) (sb : St) (i R : Nat) (k : Nat) (τ : Tau) (ds : List Deferred) (s : St) : Prop where
  k4 : k ≤ 4
  a1 : τ 1 = τ0 1
  a4 : τ 4 = slc A g.nv.toNat
  a74 : τ 74 = τ0 74
  a75 : τ 75 = τ0 75
  a76 : τ 76 = τ0 76
  a6 : τ 6 = τ0 6
  a7 : τ 7 = ptr R
  a123 : τ 123 = .agg (.mk (rdVs (rowAt g.rows i)))
  a124 : τ 124 = .int .i64 k
  ads : ds = ds0
  gr : Grew sb s
  ord : OrdI ro g ur s0 G A s D
  most : ∃ m, τ 8 = .int .i64 m ∧ 0 ≤ m ∧ m ≤ i ∧ mostF (rowAt g.rows i) D ((List.range 4).drop k) m = mostF (rowAt g.rows i) D (List.range 4) 0
theorem mxF2 {m d : Int} (hm : 0 ≤ m) : mxF [m, d] = if m < d then d else m := by
  unfold mxF
  simp only [List.foldl_cons, List.foldl_nil, maxI]
  split
  · rfl
  · rw [show m = 0 by omega]
theorem sl41 (A o : Nat) (ty : TypeId) (s : St) (K : Value → St → Prop) : wop P ro (.slice 41 (.const (.pointer (some ⟨A, o, none⟩))) none none none) ty s K = K (.slice (some ⟨A, o, none⟩) 4 4) s := by
  have e : asliceOp P 41 (.pointer (some ⟨A, o, none⟩)) none none none = some (.slice (some ⟨A, o, none⟩) 4 4) := by kernel_rfl
  rw [wop_sliceArr]
  simp only [Option.map_none, e, wopt_some]
theorem sl41_23 (A o : Nat) (ty : TypeId) (s : St) (K : Value → St → Prop) : wop P ro (.slice 41 (.const (.pointer (some ⟨A, o, none⟩))) (some (.const (.int .i64 2))) (some (.const (.int .i64 3))) none) ty s K = K (.slice (some ⟨A, o + 2, none⟩) 1 2) s := by
  have e : asliceOp P 41 (.pointer (some ⟨A, o, none⟩)) (some (.int .i64 2)) (some (.int .i64 3)) none = some (.slice (some ⟨A, o + 2, none⟩) 1 2) := by kernel_rfl
  rw [wop_sliceArr]
  simp only [Option.map_none, Option.map_some, aval, e, wopt_some]
theorem acells_inv {s : St} {A : Nat} {c : List Value} (h : acells (s.at A) = some c) : ∃ t op, s.at A = some (.cells c t op) := by
  cases hx : s.at A with
  | none => rw [hx] at h; cases h
  | some o =>
    cases o with
    | cells c' t op => rw [hx] at h; cases h; exact ⟨t, op, rfl⟩
    | _ => rw [hx] at h; cases h
theorem part_ints {s : St} {A o n c : Nat} {cs : List Value} {t : TypeId} {op : Bool} {ws : List Int} (h : s.at A = some (.cells cs t op)) (hd : (cs.drop o).take n = ws.map (.int .i64)) (hn : ws.length = n) (hc : n ≤ c) : Ints s (.slice (some ⟨A, o, none⟩) n c) ws := by
  subst hn
  refine ⟨_, _, rfl, by simp, ⟨hc, fun h => (by cases h), fun x hx => by cases hx; exact .inl rfl⟩, fun _ => ⟨A, o, none, _, _, _, rfl, rfl, h, ?_⟩⟩
  rw [Nat.mul_one, hd]
theorem RowIn.wires {s : St} {A o : Nat} {c : List Value} {r : Row} (h : RowIn s A o c r) : (c.drop (o + 1)).take 4 = [r.w 0, r.w 1, r.w 2, r.w 3].map (.int .i64) := by
  refine List.ext_getElem? fun j => ?_
  rcases Nat.lt_or_ge j 4 with hj | hj
  · rw [List.getElem?_take, if_pos hj, List.getElem?_drop, h.wire hj]
    match j, hj with
    | 0, _ => rfl
    | 1, _ => rfl
    | 2, _ => rfl
    | 3, _ => rfl
  · rw [List.getElem?_eq_none, List.getElem?_eq_none]
    · simpa using hj
    · rw [List.length_take]; omega
theorem depUpd (hI : OrdI ro g ur s0 G A s D) {ws : List Int} {v : Value} (hnv : g.nv ≤ 40000) (hv : ∀ s', (∀ B, B ≠ A → s'.at B = s.at B) → Ints s' v ws) (hl : ws.length ≤ 4) (hws : ∀ w ∈ ws, 0 ≤ w ∧ w < g.nv) {m : Int} (hm : 0 ≤ m ∧ m ≤ 8000)
    {τ : Tau} {ds : List Deferred} {Kr : WK} {kx : WK} (h4 : τ 4 = slc A g.nv.toNat) (h8 : τ 8 = .int .i64 m) (h175 : τ 175 = v) (h176 : τ 176 = .int .i64 ws.length) (h177 : τ 177 = .int .i64 0)
    (hk : ∀ τ' s', τ' 1 = τ 1 → τ' 4 = τ 4 → τ' 74 = τ 74 → τ' 75 = τ 75 → τ' 76 = τ 76 → OrdI ro g ur s0 G A s' (updL m ws D) → kx τ' ds s') :
    WLoop P ro 197 none c37_1111101001100111111100 τ ds s Kr [(7, kx)] := by
  refine wloop l37_1111101001100111111100 m37_1111101001100111111100 (fun (i : Nat) τ' ds' s' => i ≤ ws.length ∧ τ' 1 = τ 1 ∧ τ' 4 = τ 4 ∧ τ' 74 = τ 74 ∧ τ' 75 = τ 75 ∧ τ' 76 = τ 76 ∧ τ' 8 = .int .i64 m ∧ τ' 175 = v ∧ τ' 176 = .int .i64 ws.length ∧ τ' 177 = .int .i64 i ∧ ds' = ds ∧ (∀ B, B ≠ A → s'.at B = s.at B) ∧ OrdI ro g ur s0 G A s' (updL m (ws.take i) D)) (fun i => ws.length - i) ?_ 0 ⟨Nat.zero_le _, rfl, rfl, rfl, rfl, rfl, h8, h175, h176, h177, rfl, fun _ _ => rfl, hI⟩
  rintro i τ' ds' s' ⟨hi, t1, t4, t74, t75, t76, t8, t175, t176, t177, rfl, hs, hI'⟩
  rw [n37_1111101001100111111100]
  unfold v37_1111101001100111111100
  by_cases hlt : i < ws.length
  · obtain ⟨A6, o6, c6, z1, z2, z3⟩ := (hv s' hs).at1 (i := (i : Int)) (x := ws[i]) (by omega) (by rw [Int.toNat_natCast]; exact List.getElem?_eq_getElem hlt)
    have hw := hws ws[i] (List.getElem_mem _)
    have hix := ixc se_49 isz_3 (A := A) (n := g.nv.toNat) (c := g.nv.toNat) (i := ws[i]) hw.1 (by omega)
    have hgt := hI'.get hw.1 hw.2
    rw [h4] at t4
    simp (maxSteps := 10000000) only [wW, reduceCtorEq, Nat.reduceEqDiff, wL, Nat.reduceAdd, t4, t8, t175, t176, t177, z1, z2, z3, hix, hI'.dc, hgt]
    rw [if_pos (by omega)]
    have hup : updL m (ws.take (i + 1)) D = upd1 m (updL m (ws.take i) D) ws[i] := by
      unfold updL
      rw [take_succ_eq (List.getElem?_eq_getElem hlt), List.foldl_append]; rfl
    have hnx : IntKind.i64.wrap ((i : Int) + 1) = ((i + 1 : Nat) : Int) := by rw [wrap_i64 (by omega) (by omega)]; rfl
    have hmx : IntKind.i64.wrap (m + 1) = m + 1 := wrap_i64 (by omega) (by omega)
    by_cases hneg : at0 (updL m (ws.take i) D) ws[i] < 0
    · rw [if_pos hneg, hmx]
      refine hI'.store hw.1 hw.2 fun s2 hI2 hs2 => ?_
      rw [hnx]
      refine ⟨i + 1, by omega, by omega, ?_, ?_, ?_, ?_, ?_, ?_, ?_, ?_, ?_, trivial, fun B hB => (hs2 B hB).trans (hs B hB), ?_⟩
      · simp only [U, tset_eq, wW, reduceCtorEq, Nat.reduceEqDiff, t1]
      · simp only [U, tset_eq, wW, reduceCtorEq, Nat.reduceEqDiff, t4, h4]
      · simp only [U, tset_eq, wW, reduceCtorEq, Nat.reduceEqDiff, t74]
      · simp only [U, tset_eq, wW, reduceCtorEq, Nat.reduceEqDiff, t75]
      · simp only [U, tset_eq, wW, reduceCtorEq, Nat.reduceEqDiff, t76]
      · simp only [U, tset_eq, wW, reduceCtorEq, Nat.reduceEqDiff, t8]
      · simp only [U, tset_eq, wW, reduceCtorEq, Nat.reduceEqDiff, t175]
      · simp only [U, tset_eq, wW, reduceCtorEq, Nat.reduceEqDiff, t176]
      · simp only [U, tset_eq, wW, reduceCtorEq, Nat.reduceEqDiff]
      · rw [hup, upd1, if_pos hneg]; exact hI2
    · rw [if_neg hneg, hnx]
      refine ⟨i + 1, by omega, by omega, ?_, ?_, ?_, ?_, ?_, ?_, ?_, ?_, ?_, trivial, hs, ?_⟩
      · simp only [U, tset_eq, wW, reduceCtorEq, Nat.reduceEqDiff, t1]
      · simp only [U, tset_eq, wW, reduceCtorEq, Nat.reduceEqDiff, t4, h4]
      · simp only [U, tset_eq, wW, reduceCtorEq, Nat.reduceEqDiff, t74]
      · simp only [U, tset_eq, wW, reduceCtorEq, Nat.reduceEqDiff, t75]
      · simp only [U, tset_eq, wW, reduceCtorEq, Nat.reduceEqDiff, t76]
      · simp only [U, tset_eq, wW, reduceCtorEq, Nat.reduceEqDiff, t8]
      · simp only [U, tset_eq, wW, reduceCtorEq, Nat.reduceEqDiff, t175]
      · simp only [U, tset_eq, wW, reduceCtorEq, Nat.reduceEqDiff, t176]
      · simp only [U, tset_eq, wW, reduceCtorEq, Nat.reduceEqDiff]
      · rw [hup, upd1, if_neg hneg]; exact hI'
  · obtain rfl : i = ws.length := by omega
    rw [List.take_length] at hI'
    simp (maxSteps := 10000000) only [wW, reduceCtorEq, Nat.reduceEqDiff, t176, t177]
    rw [if_neg (by omega)]
    refine hk _ _ ?_ ?_ ?_ ?_ ?_ hI'
    · simp only [U, tset_eq, wW, reduceCtorEq, Nat.reduceEqDiff, t1]
    · simp only [U, tset_eq, wW, reduceCtorEq, Nat.reduceEqDiff, t4]
    · simp only [U, tset_eq, wW, reduceCtorEq, Nat.reduceEqDiff, t74]
    · simp only [U, tset_eq, wW, reduceCtorEq, Nat.reduceEqDiff, t75]
    · simp only [U, tset_eq, wW, reduceCtorEq, Nat.reduceEqDiff, t76]
theorem depRow (hnv : g.nv ≤ 40000) (hlen : g.rows.length ≤ 8000) {i : Nat} (hi : i < g.rows.length) (hrow : RowG g i) (hdep : Dep g.nv.toNat i D) (hI : OrdI ro g ur s0 G A s D) {R : Nat} (hR : s.at R = some (.cells (rowAt g.rows i).cells 43 false)) (hRA : R ≠ A)
    {τ : Tau} {ds : List Deferred} {Qe : Ex → XK} (t1 : τ 1 = ptr G) (t4 : τ 4 = slc A g.nv.toNat) (t6 : τ 6 = .int .i64 i) (t7 : τ 7 = ptr R)
    (hno : ∀ τ' al s', stepD g i D = none → Grew s0 s' → U τ' al 2 = .slice none 0 0 → U τ' al 3 = .bool false → Qe .ret (U τ' al) [] ds s')
    (hk : ∀ τ' al s' D', U τ' al 1 = τ 1 → U τ' al 4 = τ 4 → U τ' al 74 = τ 74 → U τ' al 75 = τ 75 → U τ' al 76 = τ 76 → stepD g i D = some D' → Dep g.nv.toNat (i + 1 : Nat) D' → OrdI ro g ur s0 G A s' D' → Qe .normal τ' al ds s') :
    xp (prims P ro) none 197 k37_111110100 c37_111110100110011 [1, 1, 0, 0, 1, 1] τ [] ds s Qe := by
  rw [n37_111110100110011]
  unfold v37_111110100110011
  simp (maxSteps := 10000000) only [wW, reduceCtorEq, Nat.reduceEqDiff, t7]
  rw [wop_load, load_all ap_43 hR rfl, wopt_some, wGreads (rowAt g.rows i) hI.vc.wf (by have := hI.vc.grew.n; have := hI.ro; omega)]
  have hstep : stepD g i D = (mostF (rowAt g.rows i) D (List.range 4) 0).map fun m => dRow (rowAt g.rows i) (rowAt g.rows (i + 1)) m D := by unfold stepD; rw [most_eq]
  have hwi : ∀ {k : Nat}, k < 4 → WireOk g.nv (rowAt g.rows i) k := fun {k} hk => by
    have h := hrow.1.2.2.2.2.2
    refine ⟨(h.1 k hk).1, (h.1 k hk).2, fun hb => ?_⟩
    have := h.2 _ ((rdB_mem _ hk).1 hb)
    rwa [Int.toNat_natCast] at this
  have hqo : (rowAt g.rows i).k ≠ 1 → (rowAt g.rows i).qo = 0 := fun h => (hrow.1.2.2.2.2.1 _ (by simp [Row.qs])).2 h
  have hn3 := hrow.2
  refine wloop l37_11111010011001110100 m37_11111010011001110100 (RdI ro g ur s0 G A D τ ds s i R) (fun k => 4 - k) ?_ 0 ⟨by omega, rfl, t4, rfl, rfl, rfl, rfl, t7, rfl, rfl, rfl, .refl _, hI, 0, rfl, by omega, by omega, rfl⟩
  rintro k τ' ds' s' ⟨hk4, a1, a4, a74, a75, a76, a6, a7, a123, a124, rfl, gs, hI', m, a8, hm0, hm1, hmost⟩
  rw [n37_11111010011001110100]
  unfold v37_11111010011001110100
  have hR' : s'.at R = some (.cells (rowAt g.rows i).cells 43 false) := (gs.same R (St.at_lt hR)).trans hR
  have hRc' := acells_some hR'
  generalize hrr : rowAt g.rows i = r at *
  by_cases hlk : k < 4
  · have hnx : IntKind.i64.wrap ((k : Int) + 1) = ((k + 1 : Nat) : Int) := by rw [wrap_i64 (by omega) (by omega)]; rfl
    simp (maxSteps := 10000000) only [wW, reduceCtorEq, Nat.reduceEqDiff, wL, Nat.reduceAdd, a123, a124, a7, aiR _ hlk, hRc', wix _ _ hlk, rcw _ hlk, hnx]
    rw [if_pos (by omega)]
    rw [range_drop hlk, mostF] at hmost
    have next : ∀ {τ2 : Tau} {s2 : St} {m' : Int}, τ2 1 = τ' 1 → τ2 4 = τ' 4 → τ2 74 = τ' 74 → τ2 75 = τ' 75 → τ2 76 = τ' 76 → τ2 6 = τ' 6 → τ2 7 = ptr R → τ2 123 = .agg (.mk (rdVs r)) → τ2 124 = .int .i64 ((k + 1 : Nat) : Int) → τ2 8 = .int .i64 m' → Grew s' s2 → 0 ≤ m' → m' ≤ i → mostF r D ((List.range 4).drop (k + 1)) m' = mostF r D (List.range 4) 0 →
        ∃ y, 4 - y < 4 - k ∧ RdI ro g ur s0 G A D τ ds' s i R y τ2 ds' s2 := fun {τ2 s2 m'} b1 b4 b74 b75 b76 b6 b7 b123 b124 b8 hg h0 h1 hmo => ⟨k + 1, by omega, by omega, b1.trans a1, b4.trans a4, b74.trans a74, b75.trans a75, b76.trans a76, b6.trans a6, b7, by rw [hrr]; exact b123, b124, rfl, gs.trans hg, hI'.grew hg, m', b8, h0, h1, by rw [hrr]; exact hmo⟩
    by_cases hb : rdB r k = false
    · rw [if_pos hb]
      rw [if_neg (by rw [hb]; decide)] at hmost
      refine next ?_ ?_ ?_ ?_ ?_ ?_ ?_ ?_ ?_ ?_ (.refl _) hm0 hm1 hmost <;> simp only [U, tset_eq, wW, reduceCtorEq, Nat.reduceEqDiff, a7, a123, a8]
    · rw [if_neg hb]
      have hb' : rdB r k = true := by simpa using hb
      rw [if_pos hb'] at hmost
      have hw := hwi hlk
      have hw0 := hw.2.2 hb'
      have hix := ixc se_49 isz_3 (A := A) (n := g.nv.toNat) (c := g.nv.toNat) (i := r.w k) hw0 (by have := hw.2.1; omega)
      have hgt := hI'.get hw0 hw.2.1
      have hdb := hdep.at0 (by omega) (r.w k)
      have mid : ∀ {τ2 : Tau} {X : Ex → WK}, ¬ (at0 D (r.w k) < 0 ∧ ¬ (r.k = 1 ∧ k = 2)) → τ2 1 = τ' 1 → τ2 4 = τ' 4 → τ2 74 = τ' 74 → τ2 75 = τ' 75 → τ2 76 = τ' 76 → τ2 6 = τ' 6 → τ2 7 = ptr R → τ2 123 = .agg (.mk (rdVs r)) → τ2 124 = .int .i64 (k : Int) → τ2 8 = .int .i64 m → τ2 9 = .int .i64 (k : Int) →
          xp (prims P ro) none 197 k37_11111010011001110100 c37_111110100110011101001100111 [1, 1, 1, 0, 0, 1, 1] τ2 [] ds' s' (blkX 5 (sX (prims P ro) none 197 k37_11111010011001110100 c37_11111010011001110100111 [1, 1, 1] (lift (thenW (fun τ_1 ds s_1 => ∃ y, 4 - y < 4 - k ∧ RdI ro g ur s0 G A D τ ds' s i R y τ_1 ds s_1) X)))) := fun {τ2 X} hc b1 b4 b74 b75 b76 b6 b7 b123 b124 b8 b9 => by
        rw [if_neg hc] at hmost
        rw [n37_111110100110011101001100111]
        unfold v37_111110100110011101001100111
        rw [a4] at b4
        simp (maxSteps := 10000000) only [wW, reduceCtorEq, Nat.reduceEqDiff, wL, Nat.reduceAdd, b4, b7, b8, b9, hRc', wix _ _ hlk, rcw _ hlk, hix, hI'.dc, hgt]
        refine buildSlice_rule se_49 ty_3 hI'.vc.wf [.int .i64 m, .int .i64 (at0 D (r.w k))] rfl rfl (by decide) (by simp [Value.cells]) fun A2 s2 m2 => ?_
        have hU : Ints s2 (.slice (some ⟨A2, 0, none⟩) 2 2) [m, at0 D (r.w k)] := m2.sl rfl
        rw [wDeepest hU (by show 2 < _; decide), mxF2 hm0, blkX_n, sX_n (.lift _), n37_11111010011001110100111]
        unfold v37_11111010011001110100111
        simp (maxSteps := 10000000) only [U, tset_eq, wW, reduceCtorEq, Nat.reduceEqDiff, b124, hnx]
        unfold lift
        refine next ?_ ?_ ?_ ?_ ?_ ?_ ?_ ?_ ?_ ?_ m2.grew ?_ ?_ hmost
        · simp only [U, tset_eq, wW, reduceCtorEq, Nat.reduceEqDiff, b1]
        · simp only [U, tset_eq, wW, reduceCtorEq, Nat.reduceEqDiff, b4, a4]
        · simp only [U, tset_eq, wW, reduceCtorEq, Nat.reduceEqDiff, b74]
        · simp only [U, tset_eq, wW, reduceCtorEq, Nat.reduceEqDiff, b75]
        · simp only [U, tset_eq, wW, reduceCtorEq, Nat.reduceEqDiff, b76]
        · simp only [U, tset_eq, wW, reduceCtorEq, Nat.reduceEqDiff, b6]
        · simp only [U, tset_eq, wW, reduceCtorEq, Nat.reduceEqDiff, b7]
        · simp only [U, tset_eq, wW, reduceCtorEq, Nat.reduceEqDiff, b123]
        · simp only [U, tset_eq, wW, reduceCtorEq, Nat.reduceEqDiff]
        · simp only [U, tset_eq, wW, reduceCtorEq, Nat.reduceEqDiff]
        · split <;> omega
        · split <;> omega
      have bad : (at0 D (r.w k) < 0 ∧ ¬ (r.k = 1 ∧ k = 2)) → stepD g i D = none := fun hc => by
        rw [if_pos hc] at hmost
        rw [hstep, ← hmost]; rfl
      simp (maxSteps := 10000000) only [wW, reduceCtorEq, Nat.reduceEqDiff, wL, Nat.reduceAdd, a4, a7, hix, hI'.dc, hgt, hRc']
      by_cases hneg : at0 D (r.w k) < 0
      · rw [if_pos hneg]
        by_cases k1 : r.k = 1
        · rw [if_neg (by simpa using k1)]
          by_cases k2 : (k : Int) = 2
          · rw [if_neg (by simpa using k2)]
            refine mid (fun h => h.2 ⟨k1, by omega⟩) ?_ ?_ ?_ ?_ ?_ ?_ ?_ ?_ ?_ ?_ ?_ <;> simp only [U, tset_eq, wW, reduceCtorEq, Nat.reduceEqDiff, a7, a123, a124, a8, a4]
          · rw [if_pos k2]
            exact hno _ _ _ (bad ⟨hneg, fun h => k2 (by omega)⟩) hI'.vc.grew rfl rfl
        · rw [if_pos k1]
          exact hno _ _ _ (bad ⟨hneg, fun h => k1 h.1⟩) hI'.vc.grew rfl rfl
      · rw [if_neg hneg]
        refine mid (fun h => hneg h.1) ?_ ?_ ?_ ?_ ?_ ?_ ?_ ?_ ?_ ?_ ?_ <;> simp only [U, tset_eq, wW, reduceCtorEq, Nat.reduceEqDiff, a7, a123, a124, a8, a4]
  · obtain rfl : k = 4 := by omega
    rw [List.drop_of_length_le (by simp), mostF] at hmost
    have hD1 : stepD g i D = some (updL m (rowWs r (rowAt g.rows (i + 1))) D) := by
      rw [hstep, ← hmost, Option.map_some, dRow_upd hqo]
    have hdep1 : Dep g.nv.toNat ((i + 1 : Nat) : Int) (updL m (rowWs r (rowAt g.rows (i + 1))) D) := Dep.updL ⟨by omega, hm1⟩ _ (hdep.mono (by omega))
    simp (maxSteps := 10000000) only [wW, reduceCtorEq, Nat.reduceEqDiff, a124]
    rw [if_neg (by omega)]
    have hA := hI'.vc.new
    rw [t6] at a6
    simp (maxSteps := 10000000) only [U, tset_eq, wW, reduceCtorEq, Nat.reduceEqDiff, wL, Nat.reduceAdd, a7, hRc', a1, t1, hI'.gc, a6]
    by_cases k3 : r.k = 3
    · rw [if_pos k3]
      have hn := hn3 k3
      have hw4 : IntKind.i64.wrap ((i : Int) + 1) = ((i + 1 : Nat) : Int) := by rw [wrap_i64 (by omega) (by omega)]; rfl
      obtain ⟨A6, o6, c6, q1, q2⟩ := hI.rows.ix (rowAt_get hn.1)
      obtain ⟨T6, op6, hA6⟩ := acells_inv q2.blk
      have hlt6 := St.at_lt hA6
      have hA6' : s'.at A6 = some (.cells c6 T6 op6) := (hI'.vc.grew.same A6 hlt6).trans hA6
      have hws : rowWs r (rowAt g.rows (i + 1)) = [(rowAt g.rows (i + 1)).w 0, (rowAt g.rows (i + 1)).w 1, (rowAt g.rows (i + 1)).w 2, (rowAt g.rows (i + 1)).w 3] := by unfold rowWs; rw [if_pos k3]
      simp (maxSteps := 10000000) only [wW, reduceCtorEq, Nat.reduceEqDiff, wL, Nat.reduceAdd, hw4, q1, sl41, wop_len se_49]
      refine depUpd hI' hnv (ws := [(rowAt g.rows (i + 1)).w 0, (rowAt g.rows (i + 1)).w 1, (rowAt g.rows (i + 1)).w 2, (rowAt g.rows (i + 1)).w 3]) (fun s2 h2 => part_ints ((h2 A6 (by omega)).trans hA6') q2.wires rfl (Nat.le_refl _)) (Nat.le_refl _) (fun w hw => ?_) ⟨hm0, by omega⟩ ?_ ?_ ?_ ?_ ?_ fun τ3 s3 b1 b4 b74 b75 b76 hI3 => ?_
      · simp only [List.mem_cons, List.not_mem_nil, or_false] at hw
        rcases hw with rfl | rfl | rfl | rfl
        · exact hn.2 0 (by decide)
        · exact hn.2 1 (by decide)
        · exact hn.2 2 (by decide)
        · exact hn.2 3 (by decide)
      · simp only [tset_eq, wW, reduceCtorEq, Nat.reduceEqDiff, a4]
      · simp only [tset_eq, wW, reduceCtorEq, Nat.reduceEqDiff, a8]
      · simp only [tset_eq, wW, reduceCtorEq, Nat.reduceEqDiff]
      · simp only [tset_eq, wW, reduceCtorEq, Nat.reduceEqDiff]; rfl
      · simp only [tset_eq, wW, reduceCtorEq, Nat.reduceEqDiff]
      · rw [← hws] at hI3
        simp only [tset_eq, wW, reduceCtorEq, Nat.reduceEqDiff] at b1 b4 b74 b75 b76
        exact hk τ3 [] s3 _ (b1.trans a1) (b4.trans (a4.trans t4.symm)) (b74.trans a74) (b75.trans a75) (b76.trans a76) hD1 hdep1 hI3
    · rw [if_neg k3]
      by_cases kq : r.qo = 0
      · rw [if_neg (by simpa using kq)]
        have hws : rowWs r (rowAt g.rows (i + 1)) = [] := by unfold rowWs; rw [if_neg k3, if_neg (by simpa using kq)]
        have hln : ∀ (ty : TypeId) (s : St) (K : Value → St → Prop), wop P ro (.call ⟨.builtin .len, ⟨[.const (.slice none 0 0)]⟩, #[49]⟩) ty s K = K (.int .i64 0) s := fun ty s K => wop_len se_49 none 0 0 ty s K
        simp (maxSteps := 10000000) only [wW, reduceCtorEq, Nat.reduceEqDiff, hln]
        refine depUpd hI' hnv (ws := []) (fun s2 h2 => Sl.nil _ _) (by decide) (fun w hw => by cases hw) ⟨hm0, by omega⟩ ?_ ?_ ?_ ?_ ?_ fun τ3 s3 b1 b4 b74 b75 b76 hI3 => ?_
        · simp only [tset_eq, wW, reduceCtorEq, Nat.reduceEqDiff, a4]
        · simp only [tset_eq, wW, reduceCtorEq, Nat.reduceEqDiff, a8]
        · simp only [tset_eq, wW, reduceCtorEq, Nat.reduceEqDiff]
        · simp only [tset_eq, wW, reduceCtorEq, Nat.reduceEqDiff]; rfl
        · simp only [tset_eq, wW, reduceCtorEq, Nat.reduceEqDiff]
        · rw [← hws] at hI3
          simp only [tset_eq, wW, reduceCtorEq, Nat.reduceEqDiff] at b1 b4 b74 b75 b76
          exact hk τ3 [] s3 _ (b1.trans a1) (b4.trans (a4.trans t4.symm)) (b74.trans a74) (b75.trans a75) (b76.trans a76) hD1 hdep1 hI3
      · rw [if_pos kq]
        have k1 : r.k = 1 := Decidable.byContradiction fun h => kq (hqo h)
        have hws : rowWs r (rowAt g.rows (i + 1)) = [r.w 2] := by unfold rowWs; rw [if_neg k3, if_pos kq]
        have hw2 := hwi (k := 2) (by decide)
        have hr2 : rdB r 2 = true := by
          show rd2 r = true
          unfold rd2
          rw [if_pos k1, decide_eq_true kq]
        simp (maxSteps := 10000000) only [wW, reduceCtorEq, Nat.reduceEqDiff, sl41_23, wop_len se_49]
        refine depUpd hI' hnv (ws := [r.w 2]) (fun s2 h2 => part_ints (o := 3) (n := 1) (c := 2) ((h2 R hRA).trans hR') rfl rfl (by decide)) (by show 1 ≤ 4; decide) (fun w hw => ?_) ⟨hm0, by omega⟩ ?_ ?_ ?_ ?_ ?_ fun τ3 s3 b1 b4 b74 b75 b76 hI3 => ?_
        · simp only [List.mem_cons, List.not_mem_nil, or_false] at hw
          subst hw
          exact ⟨hw2.2.2 hr2, hw2.2.1⟩
        · simp only [tset_eq, wW, reduceCtorEq, Nat.reduceEqDiff, a4]
        · simp only [tset_eq, wW, reduceCtorEq, Nat.reduceEqDiff, a8]
        · simp only [tset_eq, wW, reduceCtorEq, Nat.reduceEqDiff]
        · simp only [tset_eq, wW, reduceCtorEq, Nat.reduceEqDiff]; rfl
        · simp only [tset_eq, wW, reduceCtorEq, Nat.reduceEqDiff]
        · rw [← hws] at hI3
          simp only [tset_eq, wW, reduceCtorEq, Nat.reduceEqDiff] at b1 b4 b74 b75 b76
          exact hk τ3 [] s3 _ (b1.trans a1) (b4.trans (a4.trans t4.symm)) (b74.trans a74) (b75.trans a75) (b76.trans a76) hD1 hdep1 hI3
end
end Go.VE
/- The program's gates: depths. -/
namespace Go.VE
open Go Go.Proofs
set_option maxRecDepth 20000
section
variable {ro : Nat} {K : Value → St → Prop} {g : Gp} {ur : Value} {G A : Nat}
theorem depLoop {s s3 : St} (hb : BaseG g) (hnn : ∀ r ∈ g.rows, r.Nn) (hw : Wf s) (hro : ro ≤ s.n) (hF : FieldsAt s) (hr : RowsS s ur g.rows) (hI : OrdI ro g ur (ent s) G A s3 (List.replicate (g.pub + g.sec).toNat 0 ++ List.replicate (g.nv.toNat - (g.pub + g.sec).toNat) (-1)))
    (h0 : ∀ v s', validM g = false → Grew s s' → K (.tuple (.mk [v, .bool false])) s') (h1 : ∀ D v s', validM g = true → orderM g = some D → Grew s s' → Ints s' v D → K (.tuple (.mk [v, .bool true])) s')
    {τ : Tau} {X Y Z : WK} (t1 : τ 1 = ptr G) (t4 : τ 4 = slc A g.nv.toNat) (t74 : τ 74 = ur) (t75 : τ 75 = .int .i64 g.rows.length) (t76 : τ 76 = .int .i64 0) :
    WLoop P ro 197 none c37_111110100 τ [] s3 (fun τ ds s_1 => xleave (prims P ro) s Tryd.f37.results.toList K Ex.ret τ [] ds s_1)
      [(2, fun τ45 ds45 s45 =>
          CallWP P ro 64 [τ45 4, Value.int IntKind.i64 (-1)] s45 fun v195_46 s46 =>
            wop P ro (Op.unOp UnOp.not 4 (Operand.const v195_46)) 4 s46 fun v196_47 s47 =>
              wdefers P ro ds45 s47 fun s48 => wfin s K (Value.tuple { toList := [τ45 4, v196_47] }) s48),
        (4, X), (5, Y), (7, Z)] := by
  have hnv := hb.2.2.2.2.2.2.1
  have hlen := hb.2.2.2.2.2.2.2
  have hnv0 : 0 ≤ g.nv := by have := hb.2.1; have := hb.2.2.2.1; have := hb.2.2.2.2.2.1; omega
  have hn0 : (ent s).n = s.n := rfl
  have noR : ∀ {τ : Tau} {s' : St}, Grew (ent s) s' → validM g = false → τ 2 = .slice none 0 0 → τ 3 = .bool false → xleave (prims P ro) s Tryd.f37.results.toList K .ret τ [] [] s' := fun {τ s'} hg hf h2 h3 => by
    rw [r37]
    simp (maxSteps := 10000000) only [wW, reduceCtorEq, Nat.reduceEqDiff]
    rw [h2, h3]
    exact fin_flat rfl hg (h0 _ _ hf (.refl s))
  have hdep0 : Dep g.nv.toNat 0 (List.replicate (g.pub + g.sec).toNat 0 ++ List.replicate (g.nv.toNat - (g.pub + g.sec).toNat) (-1)) := by
    have h2 := hb.2.2.2.2.2.1
    refine ⟨by simp; omega, fun x hx => ?_⟩
    rcases List.mem_append.1 hx with hx | hx <;> rw [List.eq_of_mem_replicate hx] <;> decide
  refine wloop l37_111110100 m37_111110100 (fun (i : Nat) τ ds s' => i ≤ g.rows.length ∧ τ 1 = ptr G ∧ τ 4 = slc A g.nv.toNat ∧ τ 74 = ur ∧ τ 75 = .int .i64 g.rows.length ∧ τ 76 = .int .i64 i ∧ ds = [] ∧ ∃ D, depsD g i = some D ∧ Dep g.nv.toNat i D ∧ OrdI ro g ur (ent s) G A s' D) (fun i => g.rows.length - i) ?_ 0 ⟨by omega, t1, t4, t74, t75, t76, rfl, _, rfl, hdep0, hI⟩
  clear hI hdep0 t1 t4 t74 t75 t76
  rintro i τ ds s' ⟨hi, t1, t4, t74, t75, t76, rfl, D, hD, hdep, hI⟩
  rw [n37_111110100]
  unfold v37_111110100
  by_cases hlt : i < g.rows.length
  · obtain ⟨A5, o5, c5, q1, q2⟩ := hI.rs.ix (rowAt_get hlt)
    simp (maxSteps := 10000000) only [wW, reduceCtorEq, Nat.reduceEqDiff, wL, Nat.reduceAdd, t1, t74, t75, t76, q1, q2.blk, q2.all]
    rw [if_pos (by omega)]
    refine alloc_rule ty_43 hI.vc.wf fun R s4 m4 => ?_
    have e4 := m4.eq
    have n4 := m4.n
    have gn := hI.vc.grew.n
    have hAlt := St.at_lt hI.vc.here
    have hGlt := St.at_lt hI.gat
    refine storeAll_rule isz_43 m4.here (l := (rowAt g.rows i).cells) rfl (by decide) m4.wf (by omega) rfl rfl fun s5 p5 => ?_
    have hI5 : OrdI ro g ur (ent s) G A s5 D := ⟨⟨(p5.rest A (by omega)).trans ((m4.grew.same A hAlt).trans hI.vc.here), hI.vc.new, p5.wf, p5.grew _ hw.ent (hI.vc.grew.trans m4.grew) (by omega)⟩, (p5.rest G (by omega)).trans ((m4.grew.same G hGlt).trans hI.gat), hI.len, hI.w0, hI.ro, hI.rows, hI.ne⟩
    have hR5 : s5.at R = some (.cells (rowAt g.rows i).cells 43 false) := p5.here
    have n5 := p5.n
    have hRc := acells_some hR5
    have hRA : R ≠ A := by omega
    have hGv := gcVeq g (slVeq hr)
    have hmem : rowAt g.rows i ∈ g.rows := List.mem_of_getElem? (rowAt_get hlt)
    have hF5 : FieldsAt s5 := FieldsAt.grew (s := ent s) hF hI5.vc.grew
    simp (maxSteps := 10000000) only [wW, reduceCtorEq, Nat.reduceEqDiff, wL, Nat.reduceAdd, hI5.gc, hRc, hGv, rcVeq, true_and]
    have hDn : depsD g (i + 1) = if RowG g i then stepD g i D else none := by rw [depsD, hD]; rfl
    have badRow : ¬ RowG g i → validM g = false := fun h => deps_bad (depsD_none (by rw [hDn, if_neg h]) (show i + 1 ≤ g.rows.length by omega))
    have hi1 : IntKind.i64.wrap ((i : Int) + 1) = ((i + 1 : Nat) : Int) := by rw [wrap_i64 (by omega) (by omega)]; rfl
    have row : ∀ {τ2 : Tau} {Q : Ex → WK}, RowG g i → τ2 1 = ptr G → τ2 4 = slc A g.nv.toNat → τ2 6 = .int .i64 i → τ2 7 = ptr R → τ2 74 = ur → τ2 75 = .int .i64 g.rows.length → τ2 76 = .int .i64 i →
        (∀ τ s', validM g = false → Grew (ent s) s' → τ 2 = .slice none 0 0 → τ 3 = .bool false → Q .ret τ [] s') →
        (∀ τ s', (∃ y, g.rows.length - y < g.rows.length - i ∧ y ≤ g.rows.length ∧ τ 1 = ptr G ∧ τ 4 = slc A g.nv.toNat ∧ τ 74 = ur ∧ τ 75 = .int .i64 g.rows.length ∧ τ 76 = .int .i64 (y : Nat) ∧ ([] : List Deferred) = [] ∧ ∃ D, depsD g y = some D ∧ Dep g.nv.toNat y D ∧ OrdI ro g ur (ent s) G A s' D) → Q .normal τ [] s') →
        xp (prims P ro) none 197 k37_111110100 c37_111110100110011 [1, 1, 0, 0, 1, 1] τ2 [] [] s5 (blkX 3 (sX (prims P ro) none 197 k37_111110100 c37_111110100111 [1, 1, 1] (lift Q))) := fun {τ2 Q} hrow b1 b4 b6 b7 b74 b75 b76 hret hnorm => by
      rw [if_pos hrow] at hDn
      refine depRow hnv hlen hlt hrow hdep hI5 hR5 hRA b1 b4 b6 b7 (fun τ' al s2 hn hg h2 h3 => ?_) fun τ' al s2 D' c1 c4 c74 c75 c76 hs hd hI2 => ?_
      · exact hret _ _ (deps_bad (depsD_none (hDn.trans hn) (show i + 1 ≤ g.rows.length by omega))) hg h2 h3
      · rw [blkX_n, sX_n (.lift _), n37_111110100111]
        unfold v37_111110100111
        rw [c76, b76]
        simp (maxSteps := 10000000) only [wW, reduceCtorEq, Nat.reduceEqDiff, hi1]
        unfold lift
        refine hnorm _ _ ⟨i + 1, by omega, by omega, ?_, ?_, ?_, ?_, ?_, rfl, D', hDn.trans hs, hd, hI2⟩
        · rw [← b1, ← c1]; simp only [U, tset_eq, wW, reduceCtorEq, Nat.reduceEqDiff]
        · rw [← b4, ← c4]; simp only [U, tset_eq, wW, reduceCtorEq, Nat.reduceEqDiff]
        · rw [← b74, ← c74]; simp only [U, tset_eq, wW, reduceCtorEq, Nat.reduceEqDiff]
        · rw [← b75, ← c75]; simp only [U, tset_eq, wW, reduceCtorEq, Nat.reduceEqDiff]
        · simp only [U, tset_eq, wW, reduceCtorEq, Nat.reduceEqDiff]
    show CallWP P ro 60 [.agg (.mk (g.cells ur)), .agg (.mk (rowAt g.rows i).cells)] s5 _
    rw [wGformed g (rowAt g.rows i) (hnn _ hmem) p5.wf (by omega) hF5]
    have hu := slVeq hr
    have hk2 : veq (Value.int .u8 (rowAt g.rows i).k) (Value.int .u8 (rowAt g.rows i).k) = true := by simp [veq]
    have hgl : ∀ s' K, wop P ro (.call ⟨.builtin .len, ⟨[.const ur]⟩, #[22]⟩) 3 s' K = K (.int .i64 (g.rows.length : Nat)) s' := fun s' K => Sl.wlen hr se_22 _ K
    simp (maxSteps := 10000000) only [wW, reduceCtorEq, Nat.reduceEqDiff, wL, Nat.reduceAdd, hI5.gc, hRc, hk2, hu, hgl, hi1, true_and, decide_eq_false_iff_not]
    by_cases hf : Formed g.f g.nv (rowAt g.rows i)
    · rw [if_neg (fun h => h hf)]
      by_cases k3 : (rowAt g.rows i).k = 3
      · rw [if_pos k3]
        by_cases hl : ((i + 1 : Nat) : Int) = (g.rows.length : Nat)
        · rw [if_pos hl]
          exact noR hI5.vc.grew (badRow fun h => by have := (h.2 k3).1; omega) rfl rfl
        · rw [if_neg hl]
          have hl1 : i + 1 < g.rows.length := by omega
          obtain ⟨A6, o6, c6, y1, y2⟩ := hI5.rs.ix (rowAt_get hl1)
          obtain ⟨T6, op6, hA6⟩ := acells_inv y2.blk
          have hW : Ints s5 (.slice (some ⟨A6, o6 + 1, none⟩) 4 4) [(rowAt g.rows (i + 1)).w 0, (rowAt g.rows (i + 1)).w 1, (rowAt g.rows (i + 1)).w 2, (rowAt g.rows (i + 1)).w 3] := part_ints hA6 y2.wires rfl (Nat.le_refl _)
          have hmn : ∀ (K : Value → St → Prop), CallWP P ro 61 [.slice (some ⟨A6, o6 + 1, none⟩) 4 4] s5 K = K (.int .i64 (mnL [(rowAt g.rows (i + 1)).w 0, (rowAt g.rows (i + 1)).w 1, (rowAt g.rows (i + 1)).w 2, (rowAt g.rows (i + 1)).w 3])) s5 := fun K => wMinI hW (by show 0 < 4; decide) (by show 4 < _; decide)
          have hmx : ∀ (K : Value → St → Prop), CallWP P ro 62 [.slice (some ⟨A6, o6 + 1, none⟩) 4 4] s5 K = K (.int .i64 (mxL [(rowAt g.rows (i + 1)).w 0, (rowAt g.rows (i + 1)).w 1, (rowAt g.rows (i + 1)).w 2, (rowAt g.rows (i + 1)).w 3])) s5 := fun K => wMaxI hW (by show 0 < 4; decide) (by show 4 < _; decide)
          have hmn0 := mnL_ge (p := 0) (l := [(rowAt g.rows (i + 1)).w 0, (rowAt g.rows (i + 1)).w 1, (rowAt g.rows (i + 1)).w 2, (rowAt g.rows (i + 1)).w 3]) (by show 0 < 4; decide)
          have hmx0 := mxL_lt (p := g.nv) (l := [(rowAt g.rows (i + 1)).w 0, (rowAt g.rows (i + 1)).w 1, (rowAt g.rows (i + 1)).w 2, (rowAt g.rows (i + 1)).w 3]) (by show 0 < 4; decide)
          have hin : ∀ {k : Nat}, k < 4 → (rowAt g.rows (i + 1)).w k ∈ [(rowAt g.rows (i + 1)).w 0, (rowAt g.rows (i + 1)).w 1, (rowAt g.rows (i + 1)).w 2, (rowAt g.rows (i + 1)).w 3] := fun {k} hk => by
            match k, hk with
            | 0, _ => simp
            | 1, _ => simp
            | 2, _ => simp
            | 3, _ => simp
          have hall : ∀ {p : Int → Prop}, (∀ k : Nat, k < 4 → p ((rowAt g.rows (i + 1)).w k)) → ∀ x ∈ [(rowAt g.rows (i + 1)).w 0, (rowAt g.rows (i + 1)).w 1, (rowAt g.rows (i + 1)).w 2, (rowAt g.rows (i + 1)).w 3], p x := fun {p} h x hx => by
            simp only [List.mem_cons, List.not_mem_nil, or_false] at hx
            rcases hx with rfl | rfl | rfl | rfl
            · exact h 0 (by decide)
            · exact h 1 (by decide)
            · exact h 2 (by decide)
            · exact h 3 (by decide)
          generalize [(rowAt g.rows (i + 1)).w 0, (rowAt g.rows (i + 1)).w 1, (rowAt g.rows (i + 1)).w 2, (rowAt g.rows (i + 1)).w 3] = ws at hmn hmx hmn0 hmx0 hin hall
          simp (maxSteps := 10000000) only [wW, reduceCtorEq, Nat.reduceEqDiff, wL, Nat.reduceAdd, y1, sl41, hI5.gc]
          rw [hmn]
          simp (maxSteps := 10000000) only [wW, reduceCtorEq, Nat.reduceEqDiff, wL, Nat.reduceAdd, y1, sl41, hI5.gc, hu, true_and]
          by_cases hm0 : mnL ws < 0
          · rw [if_pos hm0]
            exact noR hI5.vc.grew (badRow fun h => by have := hmn0.2 (hall fun k hk => ((h.2 k3).2 k hk).1); omega) rfl rfl
          · rw [if_neg hm0]
            refine ⟨by simp [veq], ?_⟩
            rw [hmx]
            refine ⟨.refl _, ?_⟩
            simp (maxSteps := 10000000) only [wW, reduceCtorEq, Nat.reduceEqDiff]
            by_cases hm1 : mxL ws ≥ g.nv
            · rw [if_pos hm1]
              exact noR hI5.vc.grew (badRow fun h => by have := hmx0.2 (hall fun k hk => ((h.2 k3).2 k hk).2); omega) rfl rfl
            · rw [if_neg hm1]
              have hrow : RowG g i := ⟨hf, fun _ => ⟨hl1, fun k hk => ⟨hmn0.1 (by omega) _ (hin hk), hmx0.1 (by omega) _ (hin hk)⟩⟩⟩
              refine row hrow ?_ ?_ ?_ ?_ ?_ ?_ ?_ (fun τ s' hv hg h2 h3 => noR hg hv h2 h3) (fun τ s' h => h) <;> simp only [U, tset_eq, wW, reduceCtorEq, Nat.reduceEqDiff, t1, t4, t74, t75, t76]
      · rw [if_neg k3]
        refine row ⟨hf, fun h => absurd h k3⟩ ?_ ?_ ?_ ?_ ?_ ?_ ?_ (fun τ s' hv hg h2 h3 => noR hg hv h2 h3) (fun τ s' h => h) <;> simp only [U, tset_eq, wW, reduceCtorEq, Nat.reduceEqDiff, t1, t4, t74, t75, t76]
    · rw [if_pos hf]
      exact noR hI5.vc.grew (badRow fun h => hf h.1) rfl rfl
  · obtain rfl : i = g.rows.length := by omega
    have hlD := hI.len
    have hV : Ints s' (slc A g.nv.toNat) D := by
      have := hI.vc.part (o := 0) (n := g.nv.toNat) (c := g.nv.toNat) (by omega) (Nat.le_refl _)
      rw [List.drop_zero, List.take_of_length_le (by omega)] at this
      unfold Ints
      rw [hlD]
      exact this
    simp (maxSteps := 10000000) only [wW, reduceCtorEq, Nat.reduceEqDiff, t75, t76]
    rw [if_neg (by omega)]
    simp (maxSteps := 10000000) only [U, tset_eq, wW, reduceCtorEq, Nat.reduceEqDiff, t4]
    rw [wContains (-1) hV (by omega)]
    simp (maxSteps := 10000000) only [wW, reduceCtorEq, Nat.reduceEqDiff]
    have hok := deps_ok hb hD (fun x hx => (hdep.2 x hx).1)
    refine wfin_new hw hI.vc.grew rfl fun s2 g2 _ hat => ?_
    by_cases hm : (-1 : Int) ∈ D
    · rw [decide_eq_true hm]
      exact h0 _ _ (hok.1 hm) g2
    · rw [decide_eq_false hm]
      exact h1 D _ _ (hok.2 hm).1 (hok.2 hm).2 g2 (hV.sameAt fun B _ _ _ _ _ => hat B)
theorem wDepths (g : Gp) (hnn : ∀ r ∈ g.rows, r.Nn) {s : St} {ur : Value} (hw : Wf s) (hro : ro ≤ s.n) (hF : FieldsAt s) (hr : RowsS s ur g.rows)
    (h0 : ∀ v s', validM g = false → Grew s s' → K (.tuple (.mk [v, .bool false])) s') (h1 : ∀ D v s', validM g = true → orderM g = some D → Grew s s' → Ints s' v D → K (.tuple (.mk [v, .bool true])) s') :
    CallWP P ro 37 [.agg (.mk (g.cells ur))] s K := by
  refine call_wp b37 rfl ?_
  rw [n37]
  unfold v37
  simp (maxSteps := 10000000) only [wW, reduceCtorEq, Nat.reduceEqDiff]
  refine box_rule hw.ent fun G s1 m1 => ?_
  have e1 := m1.eq
  have n1 := m1.n
  have hn0 : (ent s).n = s.n := rfl
  have hG1 : s1.at G = some (.cells (g.cells ur) 24 false) := m1.here
  have hG := acells_some hG1
  have hr1 : RowsS s1 ur g.rows := (Sl.ent hr).grew m1.grew.same
  have hgl : ∀ s' K, wop P ro (.call ⟨.builtin .len, ⟨[.const ur]⟩, #[22]⟩) 3 s' K = K (.int .i64 (g.rows.length : Nat)) s' := fun s' K => Sl.wlen hr1 se_22 _ K
  have no : ∀ {s' : St}, Grew (ent s) s' → validM g = false → wfin s K (.tuple (.mk [.slice none 0 0, .bool false])) s' := fun hg hf => fin_flat rfl hg (h0 _ _ hf (.refl s))
  have nb : ¬ BaseG g → wfin s K (.tuple (.mk [.slice none 0 0, .bool false])) s1 := fun hb => no m1.grew (base_bad hb)
  simp (maxSteps := 10000000) only [wW, reduceCtorEq, Nat.reduceEqDiff, wL, Nat.reduceAdd, hG, hgl, wfValid]
  by_cases c1 : fV g.f = true
  · rw [c1]
    simp (maxSteps := 10000000) only [wW, reduceCtorEq, Nat.reduceEqDiff, wL, Nat.reduceAdd, hG, hgl]
    by_cases c2 : g.pub < 0
    · rw [if_pos c2]
      exact nb fun h => by have := h.2.1; omega
    · rw [if_neg c2]
      by_cases c3 : g.pub > 16
      · rw [if_pos c3]
        exact nb fun h => by have := h.2.2.1; omega
      · rw [if_neg c3]
        by_cases c4 : g.sec < 0
        · rw [if_pos c4]
          exact nb fun h => by have := h.2.2.2.1; omega
        · rw [if_neg c4]
          by_cases c5 : g.sec > 20000
          · rw [if_pos c5]
            exact nb fun h => by have := h.2.2.2.2.1; omega
          · rw [if_neg c5, wrap_i64 (by omega) (by omega)]
            by_cases c6 : g.nv < g.pub + g.sec
            · rw [if_pos c6]
              exact nb fun h => by have := h.2.2.2.2.2.1; omega
            · rw [if_neg c6]
              by_cases c7 : g.nv > 40000
              · rw [if_pos c7]
                exact nb fun h => by have := h.2.2.2.2.2.2.1; omega
              · rw [if_neg c7]
                by_cases c8 : (g.rows.length : Int) > 8000
                · rw [if_pos c8]
                  exact nb fun h => by have := h.2.2.2.2.2.2.2; omega
                · rw [if_neg c8]
                  have hb : BaseG g := ⟨c1, by omega, by omega, by omega, by omega, by omega, by omega, by omega⟩
                  have hv1 : veq (Value.int .i64 (-1)) (Value.int .i64 (-1)) = true := rfl
                  clear nb c1 c2 c3 c4 c5 c6 c7 c8
                  refine buildSlice_rule se_49 ty_3 m1.wf [.int .i64 (-1)] rfl rfl (by decide) (by simp [Value.cells]) fun A1 s2 m2 => ?_
                  have e2 := m2.eq
                  have n2 := m2.n
                  have hU : Ints s2 (.slice (some ⟨A1, 0, none⟩) 1 1) [-1] := m2.sl rfl
                  have hG2 : s2.at G = some (.cells (g.cells ur) 24 false) := (m2.grew.same G (by omega)).trans hG1
                  have hnv : 0 ≤ g.nv ∧ g.nv ≤ 40000 := ⟨by have := hb.2.1; have := hb.2.2.2.1; have := hb.2.2.2.2.2.1; omega, hb.2.2.2.2.2.2.1⟩
                  simp (maxSteps := 10000000) only [wW, reduceCtorEq, Nat.reduceEqDiff, wL, Nat.reduceAdd, acells_some hG2]
                  refine wRepeat1 (-1) hU hnv.1 (by omega) m2.wf (by omega) fun A s3 V3 => ?_
                  have g13 := V3.grew
                  have hVn := V3.new
                  have hG3 : s3.at G = some (.cells (g.cells ur) 24 false) := (g13.same G (by omega)).trans hG2
                  have hI0 : OrdI ro g ur (ent s) G A s3 (List.replicate 0 0 ++ List.replicate (g.nv.toNat - 0) (-1)) := ⟨⟨V3.here, by omega, V3.wf, (m1.grew.trans m2.grew).trans g13⟩, hG3, by simp, hw.ent, hro, Sl.ent hr, by omega⟩
                  have hn0 : 0 ≤ g.pub + g.sec ∧ g.pub + g.sec ≤ g.nv := ⟨by have := hb.2.1; have := hb.2.2.2.1; omega, hb.2.2.2.2.2.1⟩
                  simp (maxSteps := 10000000) only [wW, reduceCtorEq, Nat.reduceEqDiff, wL, Nat.reduceAdd, acells_some hG3]
                  rw [wrap_i64 (n := g.pub + g.sec) (by omega) (by omega)]
                  have hl0 : (g.pub + g.sec).toNat ≤ g.nv.toNat := by omega
                  refine wloop l37_11110100 m37_11110100 (fun (i : Nat) τ ds s' => i ≤ (g.pub + g.sec).toNat ∧ τ 1 = ptr G ∧ τ 4 = slc A g.nv.toNat ∧ τ 65 = .int .i64 (g.pub + g.sec) ∧ τ 66 = .int .i64 i ∧ ds = [] ∧ OrdI ro g ur (ent s) G A s' (List.replicate i 0 ++ List.replicate (g.nv.toNat - i) (-1))) (fun i => (g.pub + g.sec).toNat - i) ?_ 0 ⟨by omega, rfl, rfl, rfl, rfl, rfl, hI0⟩
                  clear hI0 hU V3 g13 hG3 hG2 hG hG1 hr1
                  rintro i τ ds s' ⟨hi, t1, t4, t65, t66, rfl, hI⟩
                  rw [n37_11110100]
                  unfold v37_11110100
                  by_cases hlt : i < (g.pub + g.sec).toNat
                  · have hix := ixc se_49 isz_3 (A := A) (n := g.nv.toNat) (c := g.nv.toNat) (i := (i : Int)) (by omega) (by omega)
                    simp (maxSteps := 10000000) only [wW, reduceCtorEq, Nat.reduceEqDiff, wL, Nat.reduceAdd, t4, t65, t66, hix]
                    rw [if_pos (by omega)]
                    refine hI.store (i := (i : Int)) (by omega) (by omega) fun s2 hI2 _ => ?_
                    rw [wrap_i64 (by omega) (by omega)]
                    refine ⟨i + 1, by omega, by omega, ?_, ?_, ?_, ?_, trivial, ?_⟩
                    · simp only [U, tset_eq, wW, reduceCtorEq, Nat.reduceEqDiff, t1]
                    · simp only [U, tset_eq, wW, reduceCtorEq, Nat.reduceEqDiff, t4]
                    · simp only [U, tset_eq, wW, reduceCtorEq, Nat.reduceEqDiff, t65]
                    · simp only [U, tset_eq, wW, reduceCtorEq, Nat.reduceEqDiff]; rfl
                    · rw [Int.toNat_natCast, zero_step hlt hl0] at hI2
                      exact hI2
                  · obtain rfl : i = (g.pub + g.sec).toNat := by omega
                    simp (maxSteps := 10000000) only [wW, reduceCtorEq, Nat.reduceEqDiff, t65, t66]
                    rw [if_neg (by omega)]
                    simp (maxSteps := 10000000) only [U, tset_eq, wW, reduceCtorEq, Nat.reduceEqDiff, wL, Nat.reduceAdd, t1, hI.gc, hgl]
                    exact depLoop hb hnn hw hro hF hr hI h0 h1 (by simp only [tset_eq, wW, reduceCtorEq, Nat.reduceEqDiff, t1]) (by simp only [tset_eq, wW, reduceCtorEq, Nat.reduceEqDiff, t4]) (by simp only [tset_eq, wW, reduceCtorEq, Nat.reduceEqDiff]) (by simp only [tset_eq, wW, reduceCtorEq, Nat.reduceEqDiff]) (by simp only [tset_eq, wW, reduceCtorEq, Nat.reduceEqDiff])
  · rw [Bool.not_eq_true] at c1
    rw [c1]
    simp (maxSteps := 10000000) only [wW, reduceCtorEq, Nat.reduceEqDiff]
    exact nb fun h => by have := h.1; rw [c1] at this; cases this
theorem wGvalid (g : Gp) (hnn : ∀ r ∈ g.rows, r.Nn) {s : St} {ur : Value} (hw : Wf s) (hro : ro ≤ s.n) (hF : FieldsAt s) (hr : RowsS s ur g.rows) : CallWP P ro 16 [.agg (.mk (g.cells ur))] s K = K (.bool (validM g)) s := by
  refine callEq (call_wp b16 rfl ?_) K
  rw [n16]
  unfold v16
  simp (maxSteps := 10000000) only [wW, reduceCtorEq, Nat.reduceEqDiff]
  refine box_rule hw.ent fun G s1 m1 => ?_
  have e1 := m1.eq
  have n1 := m1.n
  have hn0 : (ent s).n = s.n := rfl
  have hG1 : s1.at G = some (.cells (g.cells ur) 24 false) := m1.here
  have hF1 : FieldsAt s1 := FieldsAt.grew (s := ent s) hF m1.grew
  rw [wop_load, load_all ap_24 hG1 rfl, wopt_some]
  refine wDepths g hnn m1.wf (by omega) hF1 ((Sl.ent hr).grew m1.grew.same) (fun v s2 hv g2 => ?_) (fun D v s2 hv _ g2 _ => ?_)
  · simp (maxSteps := 10000000) only [wW, reduceCtorEq, Nat.reduceEqDiff, wop_extract, List.getElem?_cons_zero, List.getElem?_cons_succ, wopt_some]
    exact fin_flat rfl (m1.grew.trans g2) ⟨by rw [hv], rfl⟩
  · simp (maxSteps := 10000000) only [wW, reduceCtorEq, Nat.reduceEqDiff, wop_extract, List.getElem?_cons_zero, List.getElem?_cons_succ, wopt_some]
    exact fin_flat rfl (m1.grew.trans g2) ⟨by rw [hv], rfl⟩
end
end Go.VE
/- The gates: Holds, of the program and of the reference. -/
namespace Go.VE
open Go Go.Proofs
set_option maxRecDepth 20000
def HoldsOk (g : Gp) (vals : List Int) (i : Int) : Prop := validM g = true ∧ (vals.length : Int) = g.nv ∧ below g.f vals = true ∧ 0 ≤ i ∧ i < g.rows.length
instance (g : Gp) (vals : List Int) (i : Int) : Decidable (HoldsOk g vals i) := by unfold HoldsOk; infer_instance
noncomputable def holdsM (g : Gp) (vals : List Int) (i : Int) : Bool × Int := if HoldsOk g vals i then (holdsR g.f (rowAt g.rows i.toNat) (nxt g.rows i.toNat) vals, 0) else (false, 1)
section
variable {ro : Nat} {K : Value → St → Prop}
theorem wGHolds (g : Gp) (hnn : ∀ r ∈ g.rows, r.Nn) {s : St} {ur u : Value} {vals : List Int} (i : Int) (hw : Wf s) (hro : ro ≤ s.n) (hF : FieldsAt s) (hr0 : 0 < ro) (hr : RowsS s ur g.rows) (hu : U64s s u vals) (hpos : ∀ x ∈ vals, 0 ≤ x) (hlen : vals.length < 2 ^ 60) (hrl : g.rows.length < 2 ^ 60) :
    CallWP P ro 10 [.agg (.mk (g.cells ur)), u, .int .i64 i] s K = K (.tuple (.mk [.bool (holdsM g vals i).1, .int .i64 (holdsM g vals i).2])) s := by
  refine callEq (call_wp b10 rfl ?_) K
  rw [n10]
  unfold v10
  simp (maxSteps := 10000000) only [wW, reduceCtorEq, Nat.reduceEqDiff]
  refine box_rule hw.ent fun G s1 m1 => ?_
  have e1 := m1.eq
  have n1 := m1.n
  have hn0 : (ent s).n = s.n := rfl
  have hG1 : s1.at G = some (.cells (g.cells ur) 24 false) := m1.here
  have hG := acells_some hG1
  have hF1 : FieldsAt s1 := FieldsAt.grew (s := ent s) hF m1.grew
  have hr1 : RowsS s1 ur g.rows := (Sl.ent hr).grew m1.grew.same
  have hu1 : U64s s1 u vals := (Sl.ent hu).grew m1.grew.same
  have no : ¬ HoldsOk g vals i → wfin s (fun v s' => v = .tuple (.mk [.bool (holdsM g vals i).1, .int .i64 (holdsM g vals i).2]) ∧ s' = s) (.tuple (.mk [.bool false, .int .i64 1])) s1 := fun h => by
    unfold holdsM
    rw [if_neg h]
    exact fin_flat rfl m1.grew ⟨rfl, rfl⟩
  rw [wop_load, load_all ap_24 hG1 rfl, wopt_some, wGvalid g hnn m1.wf (by omega) hF1 hr1]
  have hgl : ∀ s' K, wop P ro (.call ⟨.builtin .len, ⟨[.const ur]⟩, #[22]⟩) 3 s' K = K (.int .i64 (g.rows.length : Nat)) s' := fun s' K => Sl.wlen hr1 se_22 _ K
  simp (maxSteps := 10000000) only [wW, reduceCtorEq, Nat.reduceEqDiff, wL, Nat.reduceAdd, hG, hu1.wlen se_25, hgl]
  by_cases c1 : validM g = true
  · rw [if_neg (by simp [c1])]
    by_cases c2 : (vals.length : Int) = g.nv
    · rw [if_neg (by simpa using c2), wElements g.f hu1 hlen m1.wf (by omega) hF1]
      simp (maxSteps := 10000000) only [wW, reduceCtorEq, Nat.reduceEqDiff, wL, Nat.reduceAdd, hG, hgl]
      by_cases c3 : below g.f vals = true
      · rw [if_neg (by simp [c3])]
        by_cases c4 : i < 0
        · rw [if_pos c4]
          exact no fun h => by have := h.2.2.2.1; omega
        · rw [if_neg c4]
          by_cases c5 : i ≥ (g.rows.length : Nat)
          · rw [if_pos c5]
            exact no fun h => by have := h.2.2.2.2; omega
          · rw [if_neg c5]
            have hL : Limits g := by
              unfold validM at c1
              rw [Bool.and_eq_true, decide_eq_true_eq] at c1
              exact c1.1
            have hi : i.toNat < g.rows.length := by omega
            have hii : i = ((i.toNat : Nat) : Int) := by omega
            have hvl : g.nv.toNat = vals.length := by omega
            have hfit := hL.fit hi (hnn _ (List.mem_of_getElem? (rowAt_get hi)))
            rw [hvl] at hfit
            have hnx : (rowAt g.rows i.toNat).k = 3 → i.toNat + 1 < g.rows.length ∧ ∀ k, k < 4 → 0 ≤ (nxt g.rows i.toNat).w k ∧ (nxt g.rows i.toNat).w k < vals.length := fun h3 => by
              have h := hL.next hi h3
              rw [← nxt_eq, ← c2] at h
              exact h
            have hcall : ∀ K : Value → St → Prop, CallWP P ro 23 [.agg (.mk (g.cells ur)), u, .int .i64 i] s1 K = K (.bool (holdsR g.f (rowAt g.rows i.toNat) (nxt g.rows i.toNat) vals)) s1 := fun K => by
              conv => lhs; rw [hii]
              exact wGholds g hL.1 m1.wf (by omega) hF1 hr0 hr1 hu1 hpos (rowAt_get hi) hrl hfit hnx
            show CallWP P ro 23 [.agg (.mk (g.cells ur)), u, .int .i64 i] s1 _
            rw [hcall]
            refine fin_flat rfl m1.grew ⟨?_, rfl⟩
            unfold holdsM
            rw [if_pos ⟨c1, c2, c3, by omega, by omega⟩]
      · rw [if_pos (by simpa using c3)]
        exact no fun h => c3 h.2.2.1
    · rw [if_pos (by simpa using c2)]
      exact no fun h => c2 h.2.1
  · rw [if_pos (by simpa using c1)]
    exact no fun h => c1 h.1
theorem wRHolds (g : Gp) (hnn : ∀ r ∈ g.rows, r.Nn) {s : St} {ur u : Value} {vals : List Int} (i : Int) (hw : Wf s) (hro : ro ≤ s.n) (hF : FieldsAt s) (hr0 : 0 < ro) (hr : RowsS s ur g.rows) (hu : U64s s u vals) (hpos : ∀ x ∈ vals, 0 ≤ x) (hlen : vals.length < 2 ^ 60) (hrl : g.rows.length < 2 ^ 60) :
    CallWP P ro 11 [.agg (.mk (g.cells ur)), u, .int .i64 i] s K = K (.tuple (.mk [.bool (holdsM g vals i).1, .int .i64 (holdsM g vals i).2])) s := by
  refine callEq (call_wp b11 rfl ?_) K
  rw [n11]
  unfold v11
  simp (maxSteps := 10000000) only [wW, reduceCtorEq, Nat.reduceEqDiff]
  refine box_rule hw.ent fun G s1 m1 => ?_
  have e1 := m1.eq
  have n1 := m1.n
  have hn0 : (ent s).n = s.n := rfl
  have hG1 : s1.at G = some (.cells (g.cells ur) 24 false) := m1.here
  have hG := acells_some hG1
  have hF1 : FieldsAt s1 := FieldsAt.grew (s := ent s) hF m1.grew
  have hr1 : RowsS s1 ur g.rows := (Sl.ent hr).grew m1.grew.same
  have hu1 : U64s s1 u vals := (Sl.ent hu).grew m1.grew.same
  have no : ¬ HoldsOk g vals i → wfin s (fun v s' => v = .tuple (.mk [.bool (holdsM g vals i).1, .int .i64 (holdsM g vals i).2]) ∧ s' = s) (.tuple (.mk [.bool false, .int .i64 1])) s1 := fun h => by
    unfold holdsM
    rw [if_neg h]
    exact fin_flat rfl m1.grew ⟨rfl, rfl⟩
  rw [wop_load, load_all ap_24 hG1 rfl, wopt_some, wValid g m1.wf (by omega) hr1 hrl]
  have hgl : ∀ s' K, wop P ro (.call ⟨.builtin .len, ⟨[.const ur]⟩, #[22]⟩) 3 s' K = K (.int .i64 (g.rows.length : Nat)) s' := fun s' K => Sl.wlen hr1 se_22 _ K
  simp (maxSteps := 10000000) only [wW, reduceCtorEq, Nat.reduceEqDiff, wL, Nat.reduceAdd, hG, hu1.wlen se_25, hgl]
  by_cases c1 : validM g = true
  · rw [if_neg (by simp [c1])]
    by_cases c2 : (vals.length : Int) = g.nv
    · rw [if_neg (by simpa using c2), wBelow g.f hu1 (by omega)]
      simp (maxSteps := 10000000) only [wW, reduceCtorEq, Nat.reduceEqDiff, wL, Nat.reduceAdd, hG, hgl]
      by_cases c3 : below g.f vals = true
      · rw [if_neg (by simp [c3])]
        by_cases c4 : i < 0
        · rw [if_pos c4]
          exact no fun h => by have := h.2.2.2.1; omega
        · rw [if_neg c4]
          by_cases c5 : i ≥ (g.rows.length : Nat)
          · rw [if_pos c5]
            exact no fun h => by have := h.2.2.2.2; omega
          · rw [if_neg c5]
            have hL : Limits g := by
              unfold validM at c1
              rw [Bool.and_eq_true, decide_eq_true_eq] at c1
              exact c1.1
            have hi : i.toNat < g.rows.length := by omega
            have hii : i = ((i.toNat : Nat) : Int) := by omega
            have hvl : g.nv.toNat = vals.length := by omega
            have hfit := hL.fit hi (hnn _ (List.mem_of_getElem? (rowAt_get hi)))
            rw [hvl] at hfit
            have hnx : (rowAt g.rows i.toNat).k = 3 → i.toNat + 1 < g.rows.length ∧ ∀ k, k < 4 → 0 ≤ (nxt g.rows i.toNat).w k ∧ (nxt g.rows i.toNat).w k < vals.length := fun h3 => by
              have h := hL.next hi h3
              rw [← nxt_eq, ← c2] at h
              exact h
            have hcall : ∀ K : Value → St → Prop, CallWP P ro 25 [.agg (.mk (g.cells ur)), u, .int .i64 i] s1 K = K (.bool (holdsR g.f (rowAt g.rows i.toNat) (nxt g.rows i.toNat) vals)) s1 := fun K => by
              conv => lhs; rw [hii]
              exact wHolds g hL.1 m1.wf (by omega) hr1 hu1 hpos (rowAt_get hi) hrl hfit hnx
            show CallWP P ro 25 [.agg (.mk (g.cells ur)), u, .int .i64 i] s1 _
            rw [hcall]
            refine fin_flat rfl m1.grew ⟨?_, rfl⟩
            unfold holdsM
            rw [if_pos ⟨c1, c2, c3, by omega, by omega⟩]
      · rw [if_pos (by simpa using c3)]
        exact no fun h => c3 h.2.2.1
    · rw [if_pos (by simpa using c2)]
      exact no fun h => c2 h.2.1
  · rw [if_pos (by simpa using c1)]
    exact no fun h => c1 h.1
end
end Go.VE
/- What every law's proof begins and ends with. -/
namespace Go.VE
open Go Go.Proofs
set_option maxRecDepth 20000
def fieldsB (l : List AO) : Bool :=
  match (l[0]? : Option AO) with
  | some (AO.cells c _ _) => (match c with
    | [a0, a1, a2, a3, .slice x0 n0 c0, a5, a6, a7, a8, .slice x1 n1 c1, a10, a11, a12, a13, .slice x2 n2 c2, a15, a16, a17, a18, .slice x3 n3 c3] =>
      veqL [a0, a1, a2, a3, a5, a6, a7, a8, a10, a11, a12, a13, a15, a16, a17, a18] [.int .u64 97, .int .u64 5, .int .i64 5, .int .i64 5, .int .u64 257, .int .u64 3, .int .i64 8, .int .i64 3, .int .u64 12289, .int .u64 11, .int .i64 12, .int .i64 5, .int .u64 998244353, .int .u64 3, .int .i64 23, .int .i64 3]
    | _ => false)
  | _ => false
theorem fieldsB_spec {l : List AO} (h : fieldsB l = true) {s : St} (hs : ∀ i, i < l.length → s.at i = l[i]?) : FieldsAt s := by
  unfold fieldsB at h
  split at h
  · rename_i c t o h0
    split at h
    · rename_i a0 a1 a2 a3 x0 n0 c0 a5 a6 a7 a8 x1 n1 c1 a10 a11 a12 a13 x2 n2 c2 a15 a16 a17 a18 x3 n3 c3
      have e := veqL_eq _ _ h
      simp only [List.cons.injEq, and_true] at e
      obtain ⟨rfl, rfl, rfl, rfl, rfl, rfl, rfl, rfl, rfl, rfl, rfl, rfl, rfl, rfl, rfl, rfl⟩ := e
      have hl : 0 < l.length := (List.getElem?_eq_some_iff.1 h0).1
      exact ⟨x0, x1, x2, x3, n0, n1, n2, n3, c0, c1, c2, c3, t, o, (hs 0 hl).trans h0⟩
    · cases h
  · cases h
noncomputable def startB (laid : List (String × DataW Unit)) : Bool :=
  match absLaid P 30 laid P.globals.size with
  | some x => lastIn P.globals.size x.1 && fieldsB (absHeap P.globals.size x)
  | none => false
theorem law_runs' {f : Nat} {fid : FuncId} {ts : List TypeId} {laid : List (String × DataW Unit)} (h : startB laid = true)
    (run : ∀ (s : St) (al : List Value), Wf s → FieldsAt s → 0 < s.n → Args P f ts al s → CallWP P s.n fid al s fun v _ => v = .bool true) : LawRuns P 30 f fid ts laid := by
  unfold startB at h
  refine law_runs ?_ fun gs bl hx s al hw _ hs hl ha => ?_
  · split at h
    · rename_i x hx
      rw [hx]
      simp only [Bool.and_eq_true] at h
      exact h.1
    · cases h
  · rw [hx] at h
    simp only [Bool.and_eq_true] at h
    have hF := fieldsB_spec h.2 hs
    exact run s al hw hF hF.lt ha
theorem fin_K {si s : St} {K : Value → St → Prop} {v : Value} (h : ∀ s', K v s') : wfin si K v s := by
  unfold wfin afinish
  cases (Nat.ble si.n s.lo && flat' v) with
  | true => exact h _
  | false => exact h _
section
variable {ro : Nat} {s : St} {K : Value → St → Prop}
theorem wLiv : CallWP P ro 9 [] s K = K (.bool true) s := callEq (call_known rfl ⟨rfl, rfl⟩) K
theorem bool_eql (a b : Bool) (ty : TypeId) (s : St) (K : Value → St → Prop) : wop P ro (.binOp .eql 4 (.const (.bool a)) (.const (.bool b)) 4) ty s K = K (.bool (a == b)) s := by
  cases a <;> cases b <;> kernel_rfl
end
end Go.VE
/- The arguments of the laws of the gates; small. -/
namespace Go.VE
open Go Go.Proofs
set_option maxRecDepth 20000
theorem mn_int {n : Nat} {a : List Value} {s : St} (h : Mean P (n + 1) 3 a s) : ∃ i, a = [.int .i64 i] ∧ -(2 ^ 63) ≤ i ∧ i < 2 ^ 63 := by
  rw [me_3] at h
  obtain ⟨i, rfl, hi⟩ := h
  exact ⟨i, rfl, wf_i64 hi⟩
theorem mn_u64 {n : Nat} {a : List Value} {s : St} (h : Mean P (n + 1) 38 a s) : ∃ i, a = [.int .u64 i] ∧ 0 ≤ i ∧ i < 2 ^ 64 := by
  rw [me_38] at h
  obtain ⟨i, rfl, hi⟩ := h
  exact ⟨i, rfl, wf_u64 hi⟩
theorem row_of {n : Nat} {a : List Value} {s : St} (h : Mean P (n + 3) 43 a s) : ∃ r : Row, a = r.cells ∧ r.Nn := by
  rw [me_43] at h
  simp only [Parts] at h
  obtain ⟨x0, y0, rfl, h0, x1, y1, rfl, h1, x2, y2, rfl, h2, x3, y3, rfl, h3, x4, y4, rfl, h4, x5, y5, rfl, h5, x6, y6, rfl, h6, x7, y7, rfl, h7, rfl⟩ := h
  rw [me_40] at h0
  obtain ⟨k, rfl, hk⟩ := h0
  rw [me_41] at h1
  obtain ⟨l, rfl, hl, hm⟩ := h1
  obtain ⟨q1, rfl, z1, _⟩ := mn_u64 h2
  obtain ⟨q2, rfl, z2, _⟩ := mn_u64 h3
  obtain ⟨q3, rfl, z3, _⟩ := mn_u64 h4
  obtain ⟨q4, rfl, z4, _⟩ := mn_u64 h5
  obtain ⟨q5, rfl, z5, _⟩ := mn_u64 h6
  obtain ⟨rd, rfl, _⟩ := mn_int h7
  match l, hl, hm with
  | [a0, a1, a2, a3], _, hm =>
    obtain ⟨w0, rfl, _⟩ := mn_int (hm a0 (by simp)).2
    obtain ⟨w1, rfl, _⟩ := mn_int (hm a1 (by simp)).2
    obtain ⟨w2, rfl, _⟩ := mn_int (hm a2 (by simp)).2
    obtain ⟨w3, rfl, _⟩ := mn_int (hm a3 (by simp)).2
    exact ⟨⟨k, w0, w1, w2, w3, q1, q2, q3, q4, q5, rd⟩, rfl, ⟨z1, z2, z3, z4, z5⟩⟩
theorem rows_of : ∀ {l : List (List Value)} (_ : ∀ c ∈ l, ∃ r : Row, c = r.cells ∧ r.Nn), ∃ L : List Row, l.flatten = rowCells L ∧ L.length = l.length ∧ ∀ r ∈ L, r.Nn
  | [], _ => ⟨[], rfl, rfl, fun q hq => by cases hq⟩
  | c :: l, h => by
    obtain ⟨p, rfl, hp⟩ := h c (by simp)
    obtain ⟨L, h1, h2, h3⟩ := rows_of (l := l) fun c hc => h c (by simp [hc])
    refine ⟨p :: L, ?_, by simp [h2], fun q hq => ?_⟩
    · rw [List.flatten_cons, h1]; rfl
    · rcases List.mem_cons.1 hq with rfl | hq
      · exact hp
      · exact h3 q hq
theorem gates_of {n : Nat} {a : List Value} {s : St} (h : Mean P (n + 5) 24 a s) : ∃ (g : Gp) (ur : Value), a = g.cells ur ∧ RowsS s ur g.rows ∧ (∀ r ∈ g.rows, r.Nn) ∧ g.rows.length ≤ maxLen := by
  rw [me_24] at h
  simp only [Parts] at h
  obtain ⟨x0, y0, rfl, h0, x1, y1, rfl, h1, x2, y2, rfl, h2, x3, y3, rfl, h3, x4, y4, rfl, h4, rfl⟩ := h
  obtain ⟨f, rfl, _⟩ := mn_int h0
  obtain ⟨nv, rfl, _⟩ := mn_int h1
  obtain ⟨pub, rfl, _⟩ := mn_int h2
  obtain ⟨sec, rfl, _⟩ := mn_int h3
  rw [me_22] at h4
  obtain ⟨u, l, rfl, hlen, hs, hl⟩ := h4
  obtain ⟨L, hL, hn, hnn⟩ := rows_of (l := l) fun c hc => row_of (hl c hc).2
  refine ⟨⟨f, nv, pub, sec, L⟩, u, rfl, ?_, hnn, by rw [hn]; exact hlen⟩
  unfold RowsS
  rw [hn, ← hL]
  exact hs
theorem u64s_of {n : Nat} {a : List Value} {s : St} (h : Mean P (n + 2) 25 a s) : ∃ (u : Value) (l : List Int), a = [u] ∧ U64s s u l ∧ (∀ x ∈ l, 0 ≤ x) ∧ l.length ≤ maxLen := by
  rw [me_25] at h
  obtain ⟨u, l, rfl, hlen, hs, hl⟩ := h
  simp only [me_38] at hl
  obtain ⟨V, hV, hn, hVw⟩ := ints_flat hl
  refine ⟨u, V, rfl, ?_, fun i hi => (wf_u64 (hVw i hi)).1, by rw [hn]; exact hlen⟩
  unfold U64s
  rw [hn, ← hV]
  exact hs
section
variable {ro : Nat} {s : St} {K : Value → St → Prop}
theorem wSmall (g : Gp) {ur : Value} (hw : Wf s) (hr : RowsS s ur g.rows) : CallWP P ro 8 [.agg (.mk (g.cells ur))] s K = K (.bool (decide (g.nv ≤ 300 ∧ g.rows.length ≤ 300))) s := by
  refine callEq (call_wp b8 rfl ?_) K
  rw [n8]
  unfold v8
  simp (maxSteps := 10000000) only [wW, reduceCtorEq, Nat.reduceEqDiff]
  refine box_rule hw.ent fun G s1 m1 => ?_
  have hG := acells_some (show s1.at G = some (.cells (g.cells ur) 24 false) from m1.here)
  have hr1 : RowsS s1 ur g.rows := (Sl.ent hr).grew m1.grew.same
  have hgl : ∀ s' K, wop P ro (.call ⟨.builtin .len, ⟨[.const ur]⟩, #[22]⟩) 3 s' K = K (.int .i64 (g.rows.length : Nat)) s' := fun s' K => Sl.wlen hr1 se_22 _ K
  simp (maxSteps := 10000000) only [wW, reduceCtorEq, Nat.reduceEqDiff, wL, Nat.reduceAdd, hG, hgl]
  by_cases c : g.nv ≤ 300
  · rw [if_pos c]
    refine fin_flat rfl m1.grew ⟨?_, rfl⟩
    congr 1
    exact decide_eq_decide.2 ⟨fun h => ⟨c, by omega⟩, fun h => by have := h.2; omega⟩
  · rw [if_neg c]
    refine fin_flat rfl m1.grew ⟨?_, rfl⟩
    rw [decide_eq_false (fun h => c h.1)]
end
end Go.VE
/- GatesHold at every start. -/
namespace Go.VE
open Go Go.Proofs
set_option maxRecDepth 20000
section
variable {ro : Nat} {s : St} {K : Value → St → Prop}
theorem errEql (a : Int) (ty : TypeId) (s : St) (K : Value → St → Prop) : wop P ro (.binOp .eql 28 (.const (.int .i64 a)) (.const (.int .i64 a)) 4) ty s K = K (.bool true) s := by
  rw [wop_int, int_eql keq_i64, wopt_some, decide_eq_true rfl]
theorem wGatesHold (g : Gp) (hnn : ∀ r ∈ g.rows, r.Nn) {ur u : Value} {vals : List Int} (i : Int) (hw : Wf s) (hro : ro ≤ s.n) (hF : FieldsAt s) (hr0 : 0 < ro) (hr : RowsS s ur g.rows) (hu : U64s s u vals) (hpos : ∀ x ∈ vals, 0 ≤ x) :
    CallWP P ro 3 [.agg (.mk (g.cells ur)), u, .int .i64 i] s fun v _ => v = .bool true := by
  refine call_wp b3 rfl ?_
  rw [n3]
  unfold v3
  simp (maxSteps := 10000000) only [wW, reduceCtorEq, Nat.reduceEqDiff]
  refine box_rule hw.ent fun G s1 m1 => ?_
  have e1 := m1.eq
  have n1 := m1.n
  have hn0 : (ent s).n = s.n := rfl
  have hG1 : s1.at G = some (.cells (g.cells ur) 24 false) := m1.here
  have hG := acells_some hG1
  have hF1 : FieldsAt s1 := FieldsAt.grew (s := ent s) hF m1.grew
  have hr1 : RowsS s1 ur g.rows := (Sl.ent hr).grew m1.grew.same
  have hu1 : U64s s1 u vals := (Sl.ent hu).grew m1.grew.same
  have live : ∀ {K : Value → St → Prop}, CallWP P ro 9 [] s1 K = K (.bool true) s1 := fun {K} => wLiv
  rw [wop_load, load_all ap_24 hG1 rfl, wopt_some, wSmall g m1.wf hr1]
  simp (maxSteps := 10000000) only [wW, reduceCtorEq, Nat.reduceEqDiff, wL, Nat.reduceAdd, hG, hu1.wlen se_25, live]
  by_cases c1 : g.nv ≤ 300 ∧ g.rows.length ≤ 300
  · rw [if_neg (fun h => h c1)]
    by_cases c2 : (vals.length : Int) > 400
    · rw [if_pos c2]
      exact fin_K fun _ => rfl
    · rw [if_neg c2]
      show CallWP P ro 10 [.agg (.mk (g.cells ur)), u, .int .i64 i] s1 _
      rw [wGHolds g hnn i m1.wf (by omega) hF1 hr0 hr1 hu1 hpos (by omega) (by omega)]
      simp (maxSteps := 10000000) only [wW, reduceCtorEq, Nat.reduceEqDiff, wL, Nat.reduceAdd, wop_extract, List.getElem?_cons_zero, List.getElem?_cons_succ, wopt_some, hG]
      show CallWP P ro 11 [.agg (.mk (g.cells ur)), u, .int .i64 i] s1 _
      rw [wRHolds g hnn i m1.wf (by omega) hF1 hr0 hr1 hu1 hpos (by omega) (by omega)]
      simp (maxSteps := 10000000) only [wW, reduceCtorEq, Nat.reduceEqDiff, wL, Nat.reduceAdd, wop_extract, List.getElem?_cons_zero, List.getElem?_cons_succ, wopt_some, bool_eql, beq_self_eq_true, errEql, live]
      exact fin_K fun _ => rfl
  · rw [if_pos c1]
    exact fin_K fun _ => rfl
end
theorem gh_args {al : List Value} {s : St} (h : Args P 8 [24, 25, 3] al s) : ∃ (g : Gp) (ur u : Value) (vals : List Int) (i : Int), al = [.agg (.mk (g.cells ur)), u, .int .i64 i] ∧ RowsS s ur g.rows ∧ (∀ r ∈ g.rows, r.Nn) ∧ U64s s u vals ∧ ∀ x ∈ vals, 0 ≤ x := by
  obtain ⟨v1, r1, a1, rfl, hv1, hm1, v2, r2, a2, rfl, hv2, hm2, v3, r3, a3, rfl, hv3, hm3, rfl⟩ := h
  rw [av_24] at hv1
  subst hv1
  rw [av_25] at hv2
  subst hv2
  rw [av_3] at hv3
  subst hv3
  obtain ⟨g, ur, rfl, hr, hnn, _⟩ := gates_of hm1
  obtain ⟨u, vals, e2, hu, hpos, _⟩ := u64s_of hm2
  obtain ⟨i, e3, _⟩ := mn_int hm3
  simp only [List.cons.injEq, and_true] at e2 e3
  subst e2 e3
  exact ⟨g, ur, _, vals, i, rfl, hr, hnn, hu, hpos⟩
theorem gh_runs (laid : List (String × DataW Unit)) (h : startB laid = true) : LawRuns P 30 8 3 [24, 25, 3] laid :=
  law_runs' h fun s al hw hF h0 ha => by
    obtain ⟨g, ur, u, vals, i, rfl, hr, hnn, hu, hpos⟩ := gh_args ha
    exact wGatesHold g hnn i hw (Nat.le_refl _) hF h0 hr hu hpos
end Go.VE
