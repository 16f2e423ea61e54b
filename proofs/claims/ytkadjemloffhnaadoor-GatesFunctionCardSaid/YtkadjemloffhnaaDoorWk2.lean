/-
  What the functions compute.
-/
import Derived.Test.YtkadjemloffhnaaDoorWk1
set_option linter.unusedSimpArgs false
set_option linter.unusedVariables false
/- The library's Max, Min, Contains; the program's elements, holds. -/
namespace Go.VE
open Go Go.Proofs
set_option maxRecDepth 20000
def maxI (a b : Int) : Int := if a < b then b else a
def minI (a b : Int) : Int := if b < a then b else a
def mxL (l : List Int) : Int := l.foldl maxI (at0 l 0)
def mnL (l : List Int) : Int := l.foldl minI (at0 l 0)
theorem foldl_mx {p : Int} : ∀ (l : List Int) (a : Int), l.foldl maxI a < p ↔ a < p ∧ ∀ x ∈ l, x < p
  | [], a => by simp
  | x :: l, a => by
    rw [List.foldl_cons, foldl_mx l]
    simp only [List.mem_cons, forall_eq_or_imp]
    unfold maxI
    constructor
    · rintro ⟨h1, h2⟩
      split at h1 <;> refine ⟨?_, ?_, h2⟩ <;> omega
    · rintro ⟨h1, h2, h3⟩
      refine ⟨?_, h3⟩
      split <;> assumption
theorem foldl_mn {p : Int} : ∀ (l : List Int) (a : Int), p ≤ l.foldl minI a ↔ p ≤ a ∧ ∀ x ∈ l, p ≤ x
  | [], a => by simp
  | x :: l, a => by
    rw [List.foldl_cons, foldl_mn l]
    simp only [List.mem_cons, forall_eq_or_imp]
    unfold minI
    constructor
    · rintro ⟨h1, h2⟩
      split at h1 <;> refine ⟨?_, ?_, h2⟩ <;> omega
    · rintro ⟨h1, h2, h3⟩
      refine ⟨?_, h3⟩
      split <;> assumption
theorem at0_mem {l : List Int} (h : 0 < l.length) : at0 l 0 ∈ l := List.mem_of_getElem? (at0_get (Int.le_refl 0) (by omega))
theorem mxL_lt {p : Int} {l : List Int} (h : 0 < l.length) : mxL l < p ↔ ∀ x ∈ l, x < p := by
  unfold mxL
  rw [foldl_mx]
  exact ⟨fun a => a.2, fun a => ⟨a _ (at0_mem h), a⟩⟩
theorem mnL_ge {p : Int} {l : List Int} (h : 0 < l.length) : p ≤ mnL l ↔ ∀ x ∈ l, p ≤ x := by
  unfold mnL
  rw [foldl_mn]
  exact ⟨fun a => a.2, fun a => ⟨a _ (at0_mem h), a⟩⟩
section
variable {ro : Nat} {s : St} {K : Value → St → Prop}
theorem max_u64 (a b : Int) (ty : TypeId) (s : St) (K : Value → St → Prop) : wop P ro (.call ⟨.builtin .max, ⟨[.const (.int .u64 a), .const (.int .u64 b)]⟩, #[38, 38]⟩) ty s K = K (.int .u64 (if a < b then b else a)) s := by kernel_rfl
theorem min_i64' (a b : Int) (ty : TypeId) (s : St) (K : Value → St → Prop) : wop P ro (.call ⟨.builtin .min, ⟨[.const (.int .i64 a), .const (.int .i64 b)]⟩, #[3, 3]⟩) ty s K = K (.int .i64 (if b < a then b else a)) s := by kernel_rfl
theorem wMaxU {u : Value} {l : List Int} (hu : U64s s u l) (h0 : 0 < l.length) (hlen : l.length < 2 ^ 60) : CallWP P ro 46 [u] s K = K (.int .u64 (mxL l)) s := by
  refine callEq (call_wp b46 rfl ?_) K
  rw [n46]
  unfold v46
  simp (maxSteps := 10000000) only [wW, reduceCtorEq, Nat.reduceEqDiff, Sl.wlen hu se_25]
  rw [if_neg (by omega), n46_11]
  unfold v46_11
  obtain ⟨A, o, c, q1, q2, q3⟩ := hu.at1 (i := 0) (x := at0 l 0) (by decide) (at0_get (Int.le_refl 0) (by omega))
  simp (maxSteps := 10000000) only [U, tset_eq, wW, reduceCtorEq, Nat.reduceEqDiff, wL, Nat.reduceAdd, q1, q2, q3]
  refine wloop l46_1110100 m46_1110100 (fun (i : Nat) τ ds s' => 1 ≤ i ∧ i ≤ l.length ∧ τ 0 = u ∧ τ 3 = .int .u64 ((l.take i).foldl maxI (at0 l 0)) ∧ τ 4 = .int .i64 i ∧ ds = [] ∧ s' = ent s) (fun i => l.length - i) ?_ 1 ⟨Nat.le_refl _, h0, ?_, ?_, ?_, rfl, rfl⟩
  · rintro i τ ds s' ⟨h1, hi, t0, t3, t4, rfl, rfl⟩
    rw [n46_1110100]
    unfold v46_1110100
    simp (maxSteps := 10000000) only [wW, reduceCtorEq, Nat.reduceEqDiff, t0, t3, t4, Sl.wlen hu se_25]
    by_cases hlt : i < l.length
    · rw [if_pos (by omega)]
      obtain ⟨A, o, c, q1, q2, q3⟩ := hu.at1 (i := (i : Int)) (x := l[i]) (by omega) (by rw [Int.toNat_natCast]; exact List.getElem?_eq_getElem hlt)
      simp (maxSteps := 10000000) only [wW, reduceCtorEq, Nat.reduceEqDiff, wL, Nat.reduceAdd, q1, q2, q3, max_u64]
      rw [wrap_i64 (by omega) (by omega)]
      refine ⟨i + 1, by omega, by omega, by omega, ?_, ?_, ?_, trivial, trivial⟩
      · simp only [U, tset_eq, wW, reduceCtorEq, Nat.reduceEqDiff, t0]
      · simp only [U, tset_eq, wW, reduceCtorEq, Nat.reduceEqDiff]
        rw [take_succ_eq (List.getElem?_eq_getElem hlt), List.foldl_append]
        rfl
      · simp only [U, tset_eq, wW, reduceCtorEq, Nat.reduceEqDiff]; rfl
    · obtain rfl : i = l.length := by omega
      rw [if_neg (by omega), List.take_length] at *
      simp (maxSteps := 10000000) only [U, tset_eq, wW, reduceCtorEq, Nat.reduceEqDiff, t3]
      rw [xleave_U, r46]
      simp (maxSteps := 10000000) only [U, tset_eq, wW, reduceCtorEq, Nat.reduceEqDiff]
      exact fin_flat rfl (.refl _) ⟨rfl, rfl⟩
  · simp only [U, tset_eq, wW, reduceCtorEq, Nat.reduceEqDiff]
  · simp only [U, tset_eq, wW, reduceCtorEq, Nat.reduceEqDiff]
    rw [show l.take 1 = [at0 l 0] by
      cases l with
      | nil => simp at h0
      | cons x l => rfl]
    simp [maxI]
  · simp only [U, tset_eq, wW, reduceCtorEq, Nat.reduceEqDiff]; rfl
theorem below_mx {f : Int} {l : List Int} (h : 0 < l.length) : decide (mxL l < fP f) = below f l := by
  unfold below
  rw [Bool.eq_iff_iff, decide_eq_true_eq, mxL_lt h, List.all_eq_true]
  exact ⟨fun a x hx => decide_eq_true (a x hx), fun a x hx => of_decide_eq_true (a x hx)⟩
theorem wElements (f : Int) {u : Value} {l : List Int} (hu : U64s s u l) (hlen : l.length < 2 ^ 60) (hw : Wf s) (hro : ro ≤ s.n) (hG : FieldsAt s) : CallWP P ro 22 [.int .i64 f, u] s K = K (.bool (below f l)) s := by
  refine callEq (call_wp b22 rfl ?_) K
  rw [n22]
  unfold v22
  simp (maxSteps := 10000000) only [wW, reduceCtorEq, Nat.reduceEqDiff, Sl.wlen hu se_25]
  by_cases h0 : l.length = 0
  · rw [if_pos (by omega)]
    have : l = [] := List.length_eq_zero_iff.1 h0
    subst this
    exact fin_flat rfl (.refl _) ⟨rfl, rfl⟩
  · rw [if_neg (by omega), wMaxU (Sl.ent hu) (by omega) hlen, wfP f hw.ent hro hG]
    simp (maxSteps := 10000000) only [wW, reduceCtorEq, Nat.reduceEqDiff, below_mx (show 0 < l.length by omega)]
    exact fin_flat rfl (.refl _) ⟨rfl, rfl⟩
end
end Go.VE
/- The program's gates: whether a row holds. -/
namespace Go.VE
open Go Go.Proofs
set_option maxRecDepth 20000
theorem aiU {q : List Int} (hq : q.length = 4) {k : Nat} (hk : k < 4) : aindex P 39 (.agg (.mk (u4 q))) (.int .i64 (k : Int)) = some (.int .u64 (at0 q k)) := by
  obtain ⟨a, b, c, d, rfl⟩ := len4' hq
  have h0 : ∀ a b c d : Int, aindex P 39 (.agg (.mk [.int .u64 a, .int .u64 b, .int .u64 c, .int .u64 d])) (.int .i64 0) = some (.int .u64 a) := fun a b c d => by kernel_rfl
  have h1 : ∀ a b c d : Int, aindex P 39 (.agg (.mk [.int .u64 a, .int .u64 b, .int .u64 c, .int .u64 d])) (.int .i64 1) = some (.int .u64 b) := fun a b c d => by kernel_rfl
  have h2 : ∀ a b c d : Int, aindex P 39 (.agg (.mk [.int .u64 a, .int .u64 b, .int .u64 c, .int .u64 d])) (.int .i64 2) = some (.int .u64 c) := fun a b c d => by kernel_rfl
  have h3 : ∀ a b c d : Int, aindex P 39 (.agg (.mk [.int .u64 a, .int .u64 b, .int .u64 c, .int .u64 d])) (.int .i64 3) = some (.int .u64 d) := fun a b c d => by kernel_rfl
  match k, hk with
  | 0, _ => exact h0 _ _ _ _
  | 1, _ => exact h1 _ _ _ _
  | 2, _ => exact h2 _ _ _ _
  | 3, _ => exact h3 _ _ _ _
theorem hold1 {f : Int} {r : Row} (h : r.k = 1) (vals : List Int) : fAdd f (sumM f r vals) (fMul f r.qo (wireM r vals 2)) = if r.qo ≠ 0 then fAdd f (sumM f r vals) (fMul f r.qo (at0 vals r.w2)) else sumM f r vals := by
  rw [wire_C h]
  by_cases hq : r.qo = 0
  · rw [if_neg (by simpa using hq), if_neg (by simpa using hq), hq]
    have e : sumM f r vals = fAdd f (fAdd f (fAdd f (fMul f r.ql (sumA r vals)) (fMul f r.qr (sumB r vals))) (fMul f r.qm (fMul f (sumA r vals) (sumB r vals)))) r.qc := rfl
    rw [e]
    generalize fAdd f (fAdd f (fMul f r.ql (sumA r vals)) (fMul f r.qr (sumB r vals))) (fMul f r.qm (fMul f (sumA r vals) (sumB r vals))) = x
    unfold fAdd fMul
    by_cases hv : fV f = true
    · simp only [hv, if_true, Int.zero_mul, Int.zero_emod, Int.add_zero, Int.emod_emod]
    · simp only [hv, if_false, Bool.false_eq_true]
  · rw [if_pos hq, if_pos hq]
section
variable {ro : Nat} {s : St} {K : Value → St → Prop}
theorem wGholds (g : Gp) (hv : fV g.f = true) {ur u : Value} {vals : List Int} (hw : Wf s) (hro : ro ≤ s.n) (hG : FieldsAt s) (hr0 : 0 < ro) (hr : RowsS s ur g.rows) (hu : U64s s u vals) (hpos : ∀ x ∈ vals, 0 ≤ x) {i : Nat} {r : Row} (hi : g.rows[i]? = some r) (hlen : g.rows.length < 2 ^ 60)
    (hf : RowFit vals.length r) (hnx : r.k = 3 → i + 1 < g.rows.length ∧ ∀ k, k < 4 → 0 ≤ (nxt g.rows i).w k ∧ (nxt g.rows i).w k < vals.length) :
    CallWP P ro 23 [.agg (.mk (g.cells ur)), u, .int .i64 i] s K = K (.bool (holdsR g.f r (nxt g.rows i) vals)) s := by
  refine callEq (call_wp b23 rfl ?_) K
  rw [n23]
  unfold v23
  simp (maxSteps := 10000000) only [wW, reduceCtorEq, Nat.reduceEqDiff]
  refine box_rule hw.ent fun G s1 m1 => ?_
  have e1 := m1.eq
  have n1 := m1.n
  have hn0 : (ent s).n = s.n := rfl
  have hG1 : s1.at G = some (.cells (g.cells ur) 24 false) := m1.here
  obtain ⟨A, o, c, q1, q2⟩ := RowsS.ix (Sl.grew (Sl.ent hr) m1.grew.same) hi
  simp (maxSteps := 10000000) only [wW, reduceCtorEq, Nat.reduceEqDiff, wL, Nat.reduceAdd, acells_some hG1, q1, q2.blk, q2.all]
  refine alloc_rule ty_43 m1.wf fun R s2 m2 => ?_
  have e2 := m2.eq
  have n2 := m2.n
  have hil : i < g.rows.length := (List.getElem?_eq_some_iff.1 hi).1
  refine storeAll_rule isz_43 m2.here (l := r.cells) rfl (by decide) m2.wf (by omega) rfl rfl fun s3 p3 => ?_
  have g3 := p3.grew _ hw.ent (m1.grew.trans m2.grew) (by omega)
  have n3 := p3.n
  have hG3 : s3.at G = some (.cells (g.cells ur) 24 false) := (p3.rest G (by omega)).trans ((m2.grew.same G (by omega)).trans hG1)
  have hGc : acells (s3.at G) = some (g.cells ur) := acells_some hG3
  have hR : acells (s3.at R) = some r.cells := acells_some p3.here
  have hu3 : U64s s3 u vals := (Sl.ent hu).grew g3.same
  have hF3 : FieldsAt s3 := FieldsAt.grew (s := ent s) hG g3
  have hi1 : ∀ z : Int, veq (.int .u64 z) (.int .u64 z) = true := fun z => by simp [veq]
  have hi2 : ∀ z : Int, veq (.int .i64 z) (.int .i64 z) = true := fun z => by simp [veq]
  simp (maxSteps := 10000000) only [wW, reduceCtorEq, Nat.reduceEqDiff, wL, Nat.reduceAdd, hGc, hR, hi1, hi2, rcVeq, true_and]
  unfold holdsR
  by_cases k1 : r.k = 1
  · rw [if_pos k1, if_pos k1]
    have h2 : rdB r 2 = true → 0 ≤ r.w 2 ∧ r.w 2 < vals.length := fun h => by
      have e : rd2 r = true := h
      unfold rd2 at e
      rw [if_pos k1, decide_eq_true_eq] at e
      exact hf.c k1 e
    have w2 : ∀ K : Value → St → Prop, CallWP P ro 50 [.agg (.mk r.cells), u, .int .i64 2] s3 K = K (.int .u64 (wireM r vals 2)) s3 := fun K => wWire r hu3 (i := 2) (by decide) h2 p3.wf (by omega)
    show CallWP P ro 32 [.int .i64 g.f, .agg (.mk r.cells), u] s3 _
    rw [wTotal g.f k1 hf.nn hu3 hpos (hf.a k1) (hf.b k1) p3.wf (by omega) hF3]
    refine ⟨.refl _, ?_⟩
    show CallWP P ro 50 [.agg (.mk r.cells), u, .int .i64 2] s3 _
    rw [w2]
    refine ⟨.refl _, ?_⟩
    rw [wfMul g.f hf.nn.qo (wireM_nn hpos 2) p3.wf (by omega) hF3]
    refine ⟨.refl _, ?_⟩
    rw [wfAdd g.f (show 0 ≤ sumM g.f r vals from (fAdd_bounds _ _ _).1) (fMul_bounds _ _ _).1 p3.wf (by omega) hF3]
    simp (maxSteps := 10000000) only [wW, reduceCtorEq, Nat.reduceEqDiff]
    refine fin_flat rfl g3 ⟨?_, rfl⟩
    rw [hold1 k1]
  · rw [if_neg k1, if_neg k1]
    by_cases k2 : r.k = 2
    · rw [if_pos k2, if_pos k2]
      have hx := hf.range k2
      obtain ⟨A2, o2, c2, x1, x2, x3⟩ := hu3.at1 hx.1 (at0_get hx.1 hx.2)
      simp (maxSteps := 10000000) only [wW, reduceCtorEq, Nat.reduceEqDiff, wL, Nat.reduceAdd, hGc, hR, x1, x2, x3]
      exact fin_flat rfl g3 ⟨rfl, rfl⟩
    · rw [if_neg k2, if_neg k2]
      by_cases k3 : r.k = 3
      · rw [if_pos k3, if_pos k3]
        have hx := hf.round k3
        have hy := hnx k3
        show CallWP P ro 29 [.int .i64 g.f, .agg (.mk r.cells), u] s3 _
        rw [wTurned g.f hv hx.1 p3.wf (by omega) hF3 hr0 hu3 hpos hx.2]
        have hl2 := roundM_len g.f r.rd (wv vals r)
        generalize roundM g.f r.rd (wv vals r) = q at hl2 ⊢
        have hnr : g.rows[i + 1]? = some (nxt g.rows i) := by
          unfold nxt
          rw [List.getElem?_eq_getElem hy.1]; rfl
        have hr3 : RowsS s3 ur g.rows := (Sl.ent hr).grew g3.same
        obtain ⟨A3, o3, c3, y1, y2⟩ := hr3.ix hnr
        have hwv : (wv vals (nxt g.rows i)).length = 4 := rfl
        refine wloop l23_11010111110100 m23_11010111110100 (fun (k : Nat) τ ds s' => k ≤ 4 ∧ τ 1 = u ∧ τ 2 = .int .i64 i ∧ τ 3 = ptr G ∧ τ 51 = .agg (.mk (u4 q)) ∧ τ 52 = .int .i64 k ∧ ds = [] ∧ s' = s3 ∧ ∀ j, j < k → at0 (wv vals (nxt g.rows i)) j = at0 q j) (fun k => 4 - k) ?_ 0 ⟨by omega, rfl, rfl, rfl, rfl, rfl, rfl, rfl, fun j hj => by omega⟩
        rintro k τ ds s' ⟨hk, h1, h2, h3, h51, h52, rfl, rfl, hall⟩
        rw [n23_11010111110100]
        unfold v23_11010111110100
        by_cases hk4 : k < 4
        · have hx := hy.2 k hk4
          obtain ⟨A4, o4, c4, z1, z2, z3⟩ := hu3.at1 hx.1 (at0_get hx.1 hx.2)
          have hiw : IntKind.i64.wrap ((i : Int) + 1) = ((i + 1 : Nat) : Int) := by rw [wrap_i64 (by omega) (by omega)]; rfl
          have hw3 := y2.wire hk4
          have hb2 := y2.blk
          simp (maxSteps := 10000000) only [wW, reduceCtorEq, Nat.reduceEqDiff, wL, Nat.reduceAdd, h1, h2, h3, h51, h52, hGc, hiw, y1, hb2, wix _ _ hk4, aiU hl2 hk4, hw3, z1, z2, z3]
          rw [if_pos (by omega)]
          by_cases he : at0 vals ((nxt g.rows i).w k) = at0 q k
          · rw [if_neg (by simpa using he)]
            refine ⟨k + 1, by omega, by omega, h1, h2, h3, h51, ?_, trivial, trivial, fun j hj => ?_⟩
            · show Value.int .i64 (IntKind.i64.wrap ((k : Int) + 1)) = _
              rw [wrap_i64 (by omega) (by omega)]
              rfl
            · rcases Nat.lt_or_ge j k with h | h
              · exact hall j h
              · obtain rfl : j = k := by omega
                rw [wv_get _ _ hk4]
                exact he
          · rw [if_pos (by simpa using he), r23]
            simp (maxSteps := 10000000) only [U, tset_eq, wW, reduceCtorEq, Nat.reduceEqDiff]
            refine fin_flat rfl g3 ⟨?_, rfl⟩
            rw [decide_eq_false]
            intro hh
            rw [eq4 hwv hl2] at hh
            have := hh k hk4
            rw [wv_get _ _ hk4] at this
            exact he this
        · obtain rfl : k = 4 := by omega
          simp (maxSteps := 10000000) only [wW, reduceCtorEq, Nat.reduceEqDiff, h52]
          rw [if_neg (by omega)]
          refine fin_flat rfl g3 ⟨?_, rfl⟩
          rw [decide_eq_true]
          exact (eq4 hwv hl2).2 hall
      · rw [if_neg k3, if_neg k3]
        exact fin_flat rfl g3 ⟨rfl, rfl⟩
end
end Go.VE
/- The program's gates: formed. -/
namespace Go.VE
open Go Go.Proofs
set_option maxRecDepth 20000
theorem rdB_mem (r : Row) {k : Nat} (hk : k < 4) : rdB r k = true ↔ (k : Int) ∈ rds r := by
  unfold rds
  match k, hk with
  | 0, _ =>
    show rd0 r = true ↔ _
    unfold rd0
    by_cases h1 : r.k = 1 <;> by_cases h2 : r.k = 2 <;> by_cases h3 : r.k = 3 <;> simp [h1, h2, h3] <;> (try omega) <;> (try (split <;> split <;> simp_all))
  | 1, _ =>
    show rd1 r = true ↔ _
    unfold rd1
    by_cases h1 : r.k = 1 <;> by_cases h2 : r.k = 2 <;> by_cases h3 : r.k = 3 <;> simp [h1, h2, h3] <;> (try omega)
  | 2, _ =>
    show rd2 r = true ↔ _
    unfold rd2
    by_cases h1 : r.k = 1 <;> by_cases h2 : r.k = 2 <;> by_cases h3 : r.k = 3 <;> simp [h1, h2, h3] <;> (try omega)
  | 3, _ =>
    show rd3 r = true ↔ _
    unfold rd3
    by_cases h1 : r.k = 1 <;> by_cases h2 : r.k = 2 <;> by_cases h3 : r.k = 3 <;> simp [h1, h2, h3] <;> (try omega)
def WireOk (nv : Int) (r : Row) (k : Nat) : Prop := -1 ≤ r.w k ∧ r.w k < nv ∧ (rdB r k = true → 0 ≤ r.w k)
instance (nv : Int) (r : Row) (k : Nat) : Decidable (WireOk nv r k) := by unfold WireOk; infer_instance
def FormG (f nv : Int) (r : Row) : Prop := r.k ≤ 3 ∧ 0 ≤ r.rd ∧ r.rd < 8 ∧ (r.k ≠ 3 → r.rd = 0) ∧ mxL r.qs < fP f ∧ (r.k ≠ 1 → mxL r.qs = 0) ∧ ∀ k : Nat, k < 4 → WireOk nv r k
instance (f nv : Int) (r : Row) : Decidable (FormG f nv r) := by unfold FormG; infer_instance
theorem formed_iff {f nv : Int} {r : Row} (hnn : r.Nn) : Formed f nv r ↔ FormG f nv r := by
  unfold FormG
  have hl : 0 < r.qs.length := by show 0 < 5; decide
  have hn : ∀ q ∈ r.qs, 0 ≤ q := by
    intro q hq
    simp only [Row.qs, List.mem_cons, List.not_mem_nil, or_false] at hq
    rcases hq with rfl | rfl | rfl | rfl | rfl
    · exact hnn.ql
    · exact hnn.qr
    · exact hnn.qm
    · exact hnn.qo
    · exact hnn.qc
  have h0 : mxL r.qs = 0 ↔ ∀ q ∈ r.qs, q = 0 := by
    have h1 := mxL_lt (p := 1) hl
    have h2 := mxL_lt (p := 0) hl
    constructor
    · intro h q hq
      have a := h1.1 (by omega) q hq
      have b := hn q hq
      omega
    · intro h
      have a := h1.2 (fun q hq => by rw [h q hq]; decide)
      have b : ¬ mxL r.qs < 0 := fun hh => by
        have := h2.1 hh _ (at0_mem hl)
        have := hn _ (at0_mem hl)
        omega
      omega
  have hm := mxL_lt (p := fP f) hl
  constructor
  · rintro ⟨a, b, c, d, e, w, j⟩
    refine ⟨a, b, by omega, d, hm.2 fun q hq => (e q hq).1, fun h => h0.2 fun q hq => (e q hq).2 h, fun k hk => ⟨(w k hk).1, (w k hk).2, fun h => ?_⟩⟩
    have := j _ ((rdB_mem r hk).1 h)
    rwa [Int.toNat_natCast] at this
  · rintro ⟨a, b, c, d, e, e2, w⟩
    refine ⟨a, b, by omega, d, fun q hq => ⟨hm.1 e q hq, fun h => h0.1 (e2 h) q hq⟩, fun k hk => ⟨(w k hk).1, (w k hk).2.1⟩, fun j hj => ?_⟩
    have hj4 := rds_lt r j hj
    refine (w j.toNat (by omega)).2.2 ((rdB_mem r (by omega)).2 ?_)
    rwa [show ((j.toNat : Nat) : Int) = j by omega]
section
variable {ro : Nat} {s : St} {K : Value → St → Prop}
theorem wGformed (g : Gp) (r : Row) (hnn : r.Nn) {ur : Value} (hw : Wf s) (hro : ro ≤ s.n) (hF : FieldsAt s) : CallWP P ro 60 [.agg (.mk (g.cells ur)), .agg (.mk r.cells)] s K = K (.bool (decide (Formed g.f g.nv r))) s := by
  rw [show decide (Formed g.f g.nv r) = decide (FormG g.f g.nv r) from decide_eq_decide.2 (formed_iff hnn)]
  refine callEq (call_wp b60 rfl ?_) K
  rw [n60]
  unfold v60
  simp (maxSteps := 10000000) only [wW, reduceCtorEq, Nat.reduceEqDiff]
  refine box_rule hw.ent fun G s1 m1 => ?_
  refine box_rule m1.wf fun R s2 m2 => ?_
  have e1 := m1.eq
  have e2 := m2.eq
  have n1 := m1.n
  have n2 := m2.n
  have hn0 : (ent s).n = s.n := rfl
  have g2 := m1.grew.trans m2.grew
  have hG2 : s2.at G = some (.cells (g.cells ur) 24 false) := (m2.grew.same G (by omega)).trans m1.here
  have hR2 : s2.at R = some (.cells r.cells 43 false) := m2.here
  have hG := acells_some hG2
  have hR := acells_some hR2
  have no : ∀ {s' : St}, Grew (ent s) s' → ¬ FormG g.f g.nv r → wfin s (fun v s' => v = .bool (decide (FormG g.f g.nv r)) ∧ s' = s) (.bool false) s' := fun hg hf => by
    refine fin_flat rfl hg ⟨?_, rfl⟩
    rw [decide_eq_false hf]
  have noR : ∀ {τ : Tau} {al : AL} {s' : St}, Grew (ent s) s' → ¬ FormG g.f g.nv r → U τ al 4 = .bool false → xleave (prims P ro) s Tryd.f60.results.toList (fun v s' => v = .bool (decide (FormG g.f g.nv r)) ∧ s' = s) .ret (U τ al) [] [] s' := fun {τ al s'} hg hf h4 => by
    rw [r60]
    simp (maxSteps := 10000000) only [wW, reduceCtorEq, Nat.reduceEqDiff]
    rw [h4]
    exact no hg hf
  simp (maxSteps := 10000000) only [wW, reduceCtorEq, Nat.reduceEqDiff, wL, Nat.reduceAdd, hG, hR]
  refine buildSlice_rule se_25 ty_38 m2.wf [.int .u64 r.ql, .int .u64 r.qr, .int .u64 r.qm, .int .u64 r.qo, .int .u64 r.qc] rfl rfl (by decide) (by simp [Value.cells]) fun A s3 m3 => ?_
  have e3 := m3.eq
  have n3 := m3.n
  have hQ : U64s s3 (.slice (some ⟨A, 0, none⟩) 5 5) r.qs := m3.sl rfl
  have g3 := g2.trans m3.grew
  have hG3 : acells (s3.at G) = some (g.cells ur) := acells_some ((m3.grew.same G (by omega)).trans hG2)
  have hR3' := (m3.grew.same R (by omega)).trans hR2
  have hR3 : acells (s3.at R) = some r.cells := acells_some hR3'
  simp (maxSteps := 10000000) only [wW, reduceCtorEq, Nat.reduceEqDiff, wL, Nat.reduceAdd, hG3, hR3]
  have noX : ∀ {τ : Tau} {al : AL}, ¬ FormG g.f g.nv r → U τ al 4 = .bool false → (xleave (prims P ro) s Tryd.f60.results.toList fun v s' => v = Value.bool (decide (FormG g.f g.nv r)) ∧ s' = s) .ret τ al [] s3 := fun {τ al} hf h4 => by
    rw [xleave_U]
    exact noR g3 hf h4
  have sc : ∀ {τ : Tau}, τ 2 = ptr G → τ 3 = ptr R → (r.k ≤ 3 ∧ 0 ≤ r.rd ∧ r.rd < 8) → ((r.k ≠ 3 → r.rd = 0) ∧ mxL r.qs < fP g.f) → (r.k ≠ 1 → mxL r.qs = 0) →
      xp (prims P ro) none 80 k60 c60_111 [1, 1, 1] τ [] [] s3 (xleave (prims P ro) s Tryd.f60.results.toList fun v s' => v = Value.bool (decide (FormG g.f g.nv r)) ∧ s' = s) := fun {τ} h2 h3 hp hq hz => by
    rw [n60_111]
    unfold v60_111
    have hl : s3.at R = some (.cells r.cells 43 false) := hR3'
    simp (maxSteps := 10000000) only [wW, reduceCtorEq, Nat.reduceEqDiff, h3]
    rw [wop_load, load_all ap_43 hl rfl, wopt_some, wGreads r m3.wf (by omega)]
    refine wloop l60_1110100 m60_1110100 (fun (i : Nat) τ ds s' => i ≤ 4 ∧ τ 2 = ptr G ∧ τ 3 = ptr R ∧ τ 55 = .agg (.mk (rdVs r)) ∧ τ 56 = .int .i64 i ∧ ds = [] ∧ s3 = s' ∧ ∀ k : Nat, k < i → WireOk g.nv r k) (fun i => 4 - i) ?_ 0 ⟨by omega, ?_, ?_, rfl, rfl, rfl, rfl, fun k hk => by omega⟩
    · rintro i τ ds s' ⟨hi, h2, h3, h55, h56, rfl, rfl, hall⟩
      rw [n60_1110100]
      unfold v60_1110100
      by_cases hlt : i < 4
      · simp (maxSteps := 10000000) only [wW, reduceCtorEq, Nat.reduceEqDiff, wL, Nat.reduceAdd, h2, h3, h55, h56, hG3, hR3, wix _ _ hlt, rcw r hlt, aiR r hlt]
        rw [if_pos (by omega)]
        by_cases hlo : r.w i < -1
        · rw [if_pos hlo]
          refine noR g3 (fun hf => ?_) (by simp only [U, tset_eq, wW, reduceCtorEq, Nat.reduceEqDiff])
          have := (hf.2.2.2.2.2.2 i hlt).1
          omega
        · rw [if_neg hlo]
          by_cases hhi : r.w i ≥ g.nv
          · rw [if_pos hhi]
            refine noR g3 (fun hf => ?_) (by simp only [U, tset_eq, wW, reduceCtorEq, Nat.reduceEqDiff])
            have := (hf.2.2.2.2.2.2 i hlt).2.1
            omega
          · rw [if_neg hhi]
            have next : (rdB r i = true → 0 ≤ r.w i) → ∀ al : AL, U τ al 2 = ptr G → U τ al 3 = ptr R → U τ al 55 = .agg (.mk (rdVs r)) → U τ al 56 = .int .i64 (IntKind.i64.wrap ((i : Int) + 1)) → ∃ y, 4 - y < 4 - i ∧ y ≤ 4 ∧ U τ al 2 = ptr G ∧ U τ al 3 = ptr R ∧ U τ al 55 = .agg (.mk (rdVs r)) ∧ U τ al 56 = .int .i64 (y : Nat) ∧ True ∧ True ∧ ∀ k : Nat, k < y → WireOk g.nv r k := fun hr al a2 a3 a5 a6 => by
              rw [wrap_i64 (by omega) (by omega)] at a6
              refine ⟨i + 1, by omega, by omega, a2, a3, a5, a6, trivial, trivial, fun k hk => ?_⟩
              rcases Nat.lt_or_ge k i with h | h
              · exact hall k h
              · obtain rfl : k = i := by omega
                exact ⟨by omega, by omega, hr⟩
            cases hb : rdB r i with
            | false =>
              simp (maxSteps := 10000000) only [wW, reduceCtorEq, Nat.reduceEqDiff]
              refine next (fun h => by rw [hb] at h; cases h) _ ?_ ?_ ?_ ?_ <;> simp only [U, tset_eq, wW, reduceCtorEq, Nat.reduceEqDiff, h2, h3, h55, h56]
            | true =>
              simp (maxSteps := 10000000) only [wW, reduceCtorEq, Nat.reduceEqDiff]
              by_cases hneg : r.w i < 0
              · rw [if_pos hneg]
                refine noR g3 (fun hf => ?_) (by simp only [U, tset_eq, wW, reduceCtorEq, Nat.reduceEqDiff])
                have := (hf.2.2.2.2.2.2 i hlt).2.2 hb
                omega
              · rw [if_neg hneg]
                refine next (fun _ => by omega) _ ?_ ?_ ?_ ?_ <;> simp only [U, tset_eq, wW, reduceCtorEq, Nat.reduceEqDiff, h2, h3, h55, h56]
      · obtain rfl : i = 4 := by omega
        simp (maxSteps := 10000000) only [wW, reduceCtorEq, Nat.reduceEqDiff, h56]
        rw [if_neg (by omega), xleave_U, r60]
        simp (maxSteps := 10000000) only [U, tset_eq, wW, reduceCtorEq, Nat.reduceEqDiff]
        refine fin_flat rfl g3 ⟨?_, rfl⟩
        rw [decide_eq_true]
        exact ⟨hp.1, hp.2.1, hp.2.2, hq.1, hq.2, hz, hall⟩
    · simp only [U, tset_eq, wW, reduceCtorEq, Nat.reduceEqDiff, h2]
    · simp only [U, tset_eq, wW, reduceCtorEq, Nat.reduceEqDiff, h3]
  have sb : ∀ {τ : Tau} {b : Bool}, τ 30 = .bool b → τ 2 = ptr G → τ 3 = ptr R → τ 5 = .slice (some ⟨A, 0, none⟩) 5 5 → (r.k ≤ 3 ∧ 0 ≤ r.rd ∧ r.rd < 8) → (b = true → ¬ FormG g.f g.nv r) → (b = false → (r.k ≠ 3 → r.rd = 0) ∧ mxL r.qs < fP g.f) →
      xp (prims P ro) none 80 k60 c60_1100111 [1, 1, 1, 0, 0, 1, 1] τ [] [] s3 (blkX 0 (sX (prims P ro) none 80 k60 c60_111 [1, 1, 1] (xleave (prims P ro) s Tryd.f60.results.toList fun v s' => v = Value.bool (decide (FormG g.f g.nv r)) ∧ s' = s))) := fun {τ b} h30 h2 h3 h5 hp hT hF' => by
    rw [n60_1100111]
    unfold v60_1100111
    simp (maxSteps := 10000000) only [wW, reduceCtorEq, Nat.reduceEqDiff, wL, Nat.reduceAdd, h30, h2, h3, h5, hG3, hR3]
    by_cases hb : b = true
    · rw [if_pos hb]
      exact noX (hT hb) rfl
    · rw [if_neg hb]
      have hq := hF' (by simpa using hb)
      by_cases k1 : r.k = 1
      · rw [if_neg (by simpa using k1), blkX_n, sX_n QOk.leave]
        refine sc ?_ ?_ hp hq (fun h => absurd k1 h) <;> simp only [U, tset_eq, wW, reduceCtorEq, Nat.reduceEqDiff, h2, h3]
      · rw [if_pos k1, wMaxU hQ (by show 0 < 5; decide) (by show 5 < _; decide)]
        simp (maxSteps := 10000000) only [wW, reduceCtorEq, Nat.reduceEqDiff]
        by_cases hz : mxL r.qs = 0
        · rw [if_neg (by simpa using hz), blkX_n, sX_n QOk.leave]
          refine sc ?_ ?_ hp hq (fun _ => hz) <;> simp only [U, tset_eq, wW, reduceCtorEq, Nat.reduceEqDiff, h2, h3]
        · rw [if_pos hz]
          exact noX (fun hf => hz (hf.2.2.2.2.2.1 k1)) rfl
  have sa : ∀ {τ : Tau} {b : Bool}, τ 20 = .bool b → τ 2 = ptr G → τ 3 = ptr R → τ 5 = .slice (some ⟨A, 0, none⟩) 5 5 → (b = true → ¬ FormG g.f g.nv r) → (b = false → r.k ≤ 3 ∧ 0 ≤ r.rd ∧ r.rd < 8) →
      xp (prims P ro) none 80 k60 c60_11001 [1, 0, 0, 1, 1] τ [] [] s3 (blkX 0 (sX (prims P ro) none 80 k60 c60_111 [1, 1, 1] (xleave (prims P ro) s Tryd.f60.results.toList fun v s' => v = Value.bool (decide (FormG g.f g.nv r)) ∧ s' = s))) := fun {τ b} h20 h2 h3 h5 hT hF' => by
    rw [n60_11001]
    unfold v60_11001
    simp (maxSteps := 10000000) only [wW, reduceCtorEq, Nat.reduceEqDiff, wL, Nat.reduceAdd, h20, h2, h3, h5, hG3, hR3]
    by_cases hb : b = true
    · rw [if_pos hb]
      exact noX (hT hb) rfl
    · rw [if_neg hb]
      have hp := hF' (by simpa using hb)
      have mx : ∀ K : Value → St → Prop, CallWP P ro 46 [.slice (some ⟨A, 0, none⟩) 5 5] s3 K = K (.int .u64 (mxL r.qs)) s3 := fun K => wMaxU hQ (by show 0 < 5; decide) (by show 5 < _; decide)
      have hF3 : FieldsAt s3 := FieldsAt.grew (s := ent s) hF g3
      have pp : ∀ K : Value → St → Prop, CallWP P ro 47 [.int .i64 g.f] s3 K = K (.int .u64 (fP g.f)) s3 := fun K => wfP g.f m3.wf (by omega) hF3
      by_cases k3 : r.k = 3
      · rw [if_neg (by simpa using k3)]
        refine ⟨by simp [veq], ?_⟩
        rw [mx]
        refine ⟨.refl _, ?_⟩
        rw [pp]
        simp (maxSteps := 10000000) only [wW, reduceCtorEq, Nat.reduceEqDiff]
        refine sb (b := decide (mxL r.qs ≥ fP g.f)) ?_ ?_ ?_ ?_ hp (fun hb h => ?_) (fun hb => ⟨fun h => absurd k3 h, ?_⟩)
        · simp only [U, tset_eq, wW, reduceCtorEq, Nat.reduceEqDiff]
        · simp only [U, tset_eq, wW, reduceCtorEq, Nat.reduceEqDiff, h2]
        · simp only [U, tset_eq, wW, reduceCtorEq, Nat.reduceEqDiff, h3]
        · simp only [U, tset_eq, wW, reduceCtorEq, Nat.reduceEqDiff, h5]
        · have := of_decide_eq_true hb
          have := h.2.2.2.2.1
          omega
        · have := of_decide_eq_false hb
          omega
      · rw [if_pos k3]
        by_cases k0 : r.rd = 0
        · rw [if_neg (by simpa using k0)]
          refine ⟨by simp [veq], ?_⟩
          rw [mx]
          refine ⟨.refl _, ?_⟩
          rw [pp]
          simp (maxSteps := 10000000) only [wW, reduceCtorEq, Nat.reduceEqDiff]
          refine sb (b := decide (mxL r.qs ≥ fP g.f)) ?_ ?_ ?_ ?_ hp (fun hb h => ?_) (fun hb => ⟨fun _ => k0, ?_⟩)
          · simp only [U, tset_eq, wW, reduceCtorEq, Nat.reduceEqDiff]
          · simp only [U, tset_eq, wW, reduceCtorEq, Nat.reduceEqDiff, h2]
          · simp only [U, tset_eq, wW, reduceCtorEq, Nat.reduceEqDiff, h3]
          · simp only [U, tset_eq, wW, reduceCtorEq, Nat.reduceEqDiff, h5]
          · have := of_decide_eq_true hb
            have := h.2.2.2.2.1
            omega
          · have := of_decide_eq_false hb
            omega
        · rw [if_pos k0]
          refine sb (b := true) ?_ ?_ ?_ ?_ hp (fun _ h => k0 (h.2.2.2.1 k3)) (fun h => by cases h)
          · simp only [U, tset_eq, wW, reduceCtorEq, Nat.reduceEqDiff]
          · simp only [U, tset_eq, wW, reduceCtorEq, Nat.reduceEqDiff, h2]
          · simp only [U, tset_eq, wW, reduceCtorEq, Nat.reduceEqDiff, h3]
          · simp only [U, tset_eq, wW, reduceCtorEq, Nat.reduceEqDiff, h5]
  by_cases c1 : r.k > 3
  · rw [if_pos c1]
    exact sa (b := true) rfl rfl rfl rfl (fun _ h => by have := h.1; omega) (fun h => by cases h)
  · rw [if_neg c1]
    by_cases c2 : r.rd < 0
    · rw [if_pos c2]
      exact sa (b := true) rfl rfl rfl rfl (fun _ h => by have := h.2.1; omega) (fun h => by cases h)
    · rw [if_neg c2]
      refine sa (b := decide (r.rd ≥ 8)) rfl rfl rfl rfl (fun hb h => ?_) (fun hb => ?_)
      · have := of_decide_eq_true hb
        have := h.2.2.1
        omega
      · have := of_decide_eq_false hb
        omega
end
end Go.VE
/- The program's gates: the library's slices of ints. -/
namespace Go.VE
open Go Go.Proofs
set_option maxRecDepth 20000
def mxF (l : List Int) : Int := l.foldl maxI 0
section
variable {ro : Nat} {s : St} {K : Value → St → Prop}
theorem wMaxI {u : Value} {l : List Int} (hu : Ints s u l) (h0 : 0 < l.length) (hlen : l.length < 2 ^ 60) : CallWP P ro 62 [u] s K = K (.int .i64 (mxL l)) s := by
  refine callEq (call_wp b62 rfl ?_) K
  rw [n62]
  unfold v62
  simp (maxSteps := 10000000) only [wW, reduceCtorEq, Nat.reduceEqDiff, Sl.wlen hu se_49]
  rw [if_neg (by omega), n62_11]
  unfold v62_11
  obtain ⟨A, o, c, q1, q2, q3⟩ := hu.at1 (i := 0) (x := at0 l 0) (by decide) (at0_get (Int.le_refl 0) (by omega))
  simp (maxSteps := 10000000) only [U, tset_eq, wW, reduceCtorEq, Nat.reduceEqDiff, wL, Nat.reduceAdd, q1, q2, q3]
  refine wloop l62_1110100 m62_1110100 (fun (i : Nat) τ ds s' => 1 ≤ i ∧ i ≤ l.length ∧ τ 0 = u ∧ τ 3 = .int .i64 ((l.take i).foldl maxI (at0 l 0)) ∧ τ 4 = .int .i64 i ∧ ds = [] ∧ s' = ent s) (fun i => l.length - i) ?_ 1 ⟨Nat.le_refl _, h0, ?_, ?_, ?_, rfl, rfl⟩
  · rintro i τ ds s' ⟨h1, hi, t0, t3, t4, rfl, rfl⟩
    rw [n62_1110100]
    unfold v62_1110100
    simp (maxSteps := 10000000) only [wW, reduceCtorEq, Nat.reduceEqDiff, t0, t3, t4, Sl.wlen hu se_49]
    by_cases hlt : i < l.length
    · rw [if_pos (by omega)]
      obtain ⟨A, o, c, q1, q2, q3⟩ := hu.at1 (i := (i : Int)) (x := l[i]) (by omega) (by rw [Int.toNat_natCast]; exact List.getElem?_eq_getElem hlt)
      simp (maxSteps := 10000000) only [wW, reduceCtorEq, Nat.reduceEqDiff, wL, Nat.reduceAdd, q1, q2, q3, max_i64]
      rw [wrap_i64 (by omega) (by omega)]
      refine ⟨i + 1, by omega, by omega, by omega, ?_, ?_, ?_, trivial, trivial⟩
      · simp only [U, tset_eq, wW, reduceCtorEq, Nat.reduceEqDiff, t0]
      · simp only [U, tset_eq, wW, reduceCtorEq, Nat.reduceEqDiff]
        rw [take_succ_eq (List.getElem?_eq_getElem hlt), List.foldl_append]
        rfl
      · simp only [U, tset_eq, wW, reduceCtorEq, Nat.reduceEqDiff]; rfl
    · obtain rfl : i = l.length := by omega
      rw [if_neg (by omega), List.take_length] at *
      simp (maxSteps := 10000000) only [U, tset_eq, wW, reduceCtorEq, Nat.reduceEqDiff, t3]
      rw [xleave_U, r62]
      simp (maxSteps := 10000000) only [U, tset_eq, wW, reduceCtorEq, Nat.reduceEqDiff]
      exact fin_flat rfl (.refl _) ⟨rfl, rfl⟩
  · simp only [U, tset_eq, wW, reduceCtorEq, Nat.reduceEqDiff]
  · simp only [U, tset_eq, wW, reduceCtorEq, Nat.reduceEqDiff]
    rw [show l.take 1 = [at0 l 0] by
      cases l with
      | nil => simp at h0
      | cons x l => rfl]
    simp [maxI]
  · simp only [U, tset_eq, wW, reduceCtorEq, Nat.reduceEqDiff]; rfl
theorem wMinI {u : Value} {l : List Int} (hu : Ints s u l) (h0 : 0 < l.length) (hlen : l.length < 2 ^ 60) : CallWP P ro 61 [u] s K = K (.int .i64 (mnL l)) s := by
  refine callEq (call_wp b61 rfl ?_) K
  rw [n61]
  unfold v61
  simp (maxSteps := 10000000) only [wW, reduceCtorEq, Nat.reduceEqDiff, Sl.wlen hu se_49]
  rw [if_neg (by omega), n61_11]
  unfold v61_11
  obtain ⟨A, o, c, q1, q2, q3⟩ := hu.at1 (i := 0) (x := at0 l 0) (by decide) (at0_get (Int.le_refl 0) (by omega))
  simp (maxSteps := 10000000) only [U, tset_eq, wW, reduceCtorEq, Nat.reduceEqDiff, wL, Nat.reduceAdd, q1, q2, q3]
  refine wloop l61_1110100 m61_1110100 (fun (i : Nat) τ ds s' => 1 ≤ i ∧ i ≤ l.length ∧ τ 0 = u ∧ τ 3 = .int .i64 ((l.take i).foldl minI (at0 l 0)) ∧ τ 4 = .int .i64 i ∧ ds = [] ∧ s' = ent s) (fun i => l.length - i) ?_ 1 ⟨Nat.le_refl _, h0, ?_, ?_, ?_, rfl, rfl⟩
  · rintro i τ ds s' ⟨h1, hi, t0, t3, t4, rfl, rfl⟩
    rw [n61_1110100]
    unfold v61_1110100
    simp (maxSteps := 10000000) only [wW, reduceCtorEq, Nat.reduceEqDiff, t0, t3, t4, Sl.wlen hu se_49]
    by_cases hlt : i < l.length
    · rw [if_pos (by omega)]
      obtain ⟨A, o, c, q1, q2, q3⟩ := hu.at1 (i := (i : Int)) (x := l[i]) (by omega) (by rw [Int.toNat_natCast]; exact List.getElem?_eq_getElem hlt)
      simp (maxSteps := 10000000) only [wW, reduceCtorEq, Nat.reduceEqDiff, wL, Nat.reduceAdd, q1, q2, q3, min_i64']
      rw [wrap_i64 (by omega) (by omega)]
      refine ⟨i + 1, by omega, by omega, by omega, ?_, ?_, ?_, trivial, trivial⟩
      · simp only [U, tset_eq, wW, reduceCtorEq, Nat.reduceEqDiff, t0]
      · simp only [U, tset_eq, wW, reduceCtorEq, Nat.reduceEqDiff]
        rw [take_succ_eq (List.getElem?_eq_getElem hlt), List.foldl_append]
        rfl
      · simp only [U, tset_eq, wW, reduceCtorEq, Nat.reduceEqDiff]; rfl
    · obtain rfl : i = l.length := by omega
      rw [if_neg (by omega), List.take_length] at *
      simp (maxSteps := 10000000) only [U, tset_eq, wW, reduceCtorEq, Nat.reduceEqDiff, t3]
      rw [xleave_U, r61]
      simp (maxSteps := 10000000) only [U, tset_eq, wW, reduceCtorEq, Nat.reduceEqDiff]
      exact fin_flat rfl (.refl _) ⟨rfl, rfl⟩
  · simp only [U, tset_eq, wW, reduceCtorEq, Nat.reduceEqDiff]
  · simp only [U, tset_eq, wW, reduceCtorEq, Nat.reduceEqDiff]
    rw [show l.take 1 = [at0 l 0] by
      cases l with
      | nil => simp at h0
      | cons x l => rfl]
    simp [minI]
  · simp only [U, tset_eq, wW, reduceCtorEq, Nat.reduceEqDiff]; rfl
theorem wDeepest {u : Value} {l : List Int} (hu : Ints s u l) (hlen : l.length < 2 ^ 60) : CallWP P ro 38 [u] s K = K (.int .i64 (mxF l)) s := by
  refine callEq (call_wp b38 rfl ?_) K
  rw [n38]
  unfold v38
  simp (maxSteps := 10000000) only [wW, reduceCtorEq, Nat.reduceEqDiff, Sl.wlen hu se_49]
  refine wloop l38_110100 m38_110100 (fun (i : Nat) τ ds s' => i ≤ l.length ∧ τ 6 = u ∧ τ 7 = .int .i64 l.length ∧ τ 3 = .int .i64 ((l.take i).foldl maxI 0) ∧ τ 8 = .int .i64 i ∧ ds = [] ∧ s' = ent s) (fun i => l.length - i) ?_ 0 ⟨Nat.zero_le _, ?_, ?_, ?_, ?_, rfl, rfl⟩
  · rintro i τ ds s' ⟨hi, t6, t7, t3, t8, rfl, rfl⟩
    rw [n38_110100]
    unfold v38_110100
    simp (maxSteps := 10000000) only [wW, reduceCtorEq, Nat.reduceEqDiff, t6, t7, t3, t8]
    by_cases hlt : i < l.length
    · rw [if_pos (by omega)]
      obtain ⟨A, o, c, q1, q2, q3⟩ := hu.at1 (i := (i : Int)) (x := l[i]) (by omega) (by rw [Int.toNat_natCast]; exact List.getElem?_eq_getElem hlt)
      simp (maxSteps := 10000000) only [wW, reduceCtorEq, Nat.reduceEqDiff, wL, Nat.reduceAdd, q1, q2, q3, max_i64]
      rw [wrap_i64 (by omega) (by omega)]
      refine ⟨i + 1, by omega, by omega, ?_, ?_, ?_, ?_, trivial, trivial⟩
      · simp only [U, tset_eq, wW, reduceCtorEq, Nat.reduceEqDiff, t6]
      · simp only [U, tset_eq, wW, reduceCtorEq, Nat.reduceEqDiff, t7]
      · simp only [U, tset_eq, wW, reduceCtorEq, Nat.reduceEqDiff]
        rw [take_succ_eq (List.getElem?_eq_getElem hlt), List.foldl_append]
        rfl
      · simp only [U, tset_eq, wW, reduceCtorEq, Nat.reduceEqDiff]; rfl
    · obtain rfl : i = l.length := by omega
      rw [if_neg (by omega), List.take_length] at *
      simp (maxSteps := 10000000) only [U, tset_eq, wW, reduceCtorEq, Nat.reduceEqDiff, t3]
      exact fin_flat rfl (.refl _) ⟨rfl, rfl⟩
  · simp only [U, tset_eq, wW, reduceCtorEq, Nat.reduceEqDiff]
  · simp only [U, tset_eq, wW, reduceCtorEq, Nat.reduceEqDiff]
  · simp only [U, tset_eq, wW, reduceCtorEq, Nat.reduceEqDiff]; rfl
  · simp only [U, tset_eq, wW, reduceCtorEq, Nat.reduceEqDiff]; rfl
theorem wContains {u : Value} {l : List Int} (x : Int) (hu : Ints s u l) (hlen : l.length < 2 ^ 60) : CallWP P ro 64 [u, .int .i64 x] s K = K (.bool (decide (x ∈ l))) s := by
  have hix : ∀ (s : St) (K : Value → St → Prop), Ints s u l → (∀ i : Int, (0 ≤ i ↔ x ∈ l) → K (.int .i64 i) s) → CallWP P ro 73 [u, .int .i64 x] s K := fun s K hu hk => by
    refine call_wp b73 rfl ?_
    rw [n73]
    unfold v73
    simp (maxSteps := 10000000) only [wW, reduceCtorEq, Nat.reduceEqDiff, Sl.wlen hu se_49]
    refine wloop l73_10100 m73_10100 (fun (i : Nat) τ ds s' => i ≤ l.length ∧ τ 0 = u ∧ τ 1 = .int .i64 x ∧ τ 7 = .int .i64 l.length ∧ τ 8 = .int .i64 i ∧ ds = [] ∧ s' = ent s ∧ ∀ y ∈ l.take i, y ≠ x) (fun i => l.length - i) ?_ 0 ⟨Nat.zero_le _, ?_, ?_, ?_, ?_, rfl, rfl, fun y hy => by cases hy⟩
    · rintro i τ ds s' ⟨hi, t0, t1, t7, t8, rfl, rfl, hall⟩
      rw [n73_10100]
      unfold v73_10100
      simp (maxSteps := 10000000) only [wW, reduceCtorEq, Nat.reduceEqDiff, t0, t1, t7, t8]
      by_cases hlt : i < l.length
      · rw [if_pos (by omega)]
        obtain ⟨A, o, c, q1, q2, q3⟩ := hu.at1 (i := (i : Int)) (x := l[i]) (by omega) (by rw [Int.toNat_natCast]; exact List.getElem?_eq_getElem hlt)
        simp (maxSteps := 10000000) only [wW, reduceCtorEq, Nat.reduceEqDiff, wL, Nat.reduceAdd, q1, q2, q3]
        by_cases he : x = l[i]
        · rw [if_pos he, r73]
          simp (maxSteps := 10000000) only [U, tset_eq, wW, reduceCtorEq, Nat.reduceEqDiff]
          refine fin_flat rfl (.refl _) (hk _ ⟨fun _ => ?_, fun _ => by omega⟩)
          rw [he]
          exact List.getElem_mem _
        · rw [if_neg he, wrap_i64 (by omega) (by omega)]
          refine ⟨i + 1, by omega, by omega, ?_, ?_, ?_, ?_, trivial, trivial, fun y hy => ?_⟩
          · simp only [U, tset_eq, wW, reduceCtorEq, Nat.reduceEqDiff, t0]
          · simp only [U, tset_eq, wW, reduceCtorEq, Nat.reduceEqDiff, t1]
          · simp only [U, tset_eq, wW, reduceCtorEq, Nat.reduceEqDiff, t7]
          · simp only [U, tset_eq, wW, reduceCtorEq, Nat.reduceEqDiff]; rfl
          · rw [take_succ_eq (List.getElem?_eq_getElem hlt), List.mem_append] at hy
            rcases hy with hy | hy
            · exact hall y hy
            · simp only [List.mem_cons, List.not_mem_nil, or_false] at hy
              subst hy
              exact fun h => he h.symm
      · rw [if_neg (by omega)]
        rw [List.take_of_length_le (by omega)] at hall
        refine fin_flat rfl (.refl _) (hk _ ⟨fun h => absurd h (by decide), fun h => absurd rfl (hall x h)⟩)
    · simp only [U, tset_eq, wW, reduceCtorEq, Nat.reduceEqDiff]
    · simp only [U, tset_eq, wW, reduceCtorEq, Nat.reduceEqDiff]
    · simp only [U, tset_eq, wW, reduceCtorEq, Nat.reduceEqDiff]
    · simp only [U, tset_eq, wW, reduceCtorEq, Nat.reduceEqDiff]; rfl
  refine callEq (call_wp b64 rfl ?_) K
  rw [n64]
  unfold v64
  show CallWP P ro 73 [u, .int .i64 x] (ent s) _
  refine hix _ _ (Sl.ent hu) fun i hi => ?_
  simp (maxSteps := 10000000) only [wW, reduceCtorEq, Nat.reduceEqDiff]
  refine fin_flat rfl (.refl _) ⟨?_, rfl⟩
  rw [show decide (i ≥ 0) = decide (x ∈ l) from decide_eq_decide.2 hi]
end
end Go.VE
/- The program's gates: the library's Repeat. -/
namespace Go.VE
open Go Go.Proofs
set_option maxRecDepth 20000
theorem and32 {x : Int} (h0 : 0 ≤ x) (h1 : x < 2 ^ 32) : ((BitVec.ofInt 64 x &&& BitVec.ofInt 64 4294967295).toNat : Int) = x := by
  rw [BitVec.toNat_and]
  have e1 : (BitVec.ofInt 64 x).toNat = x.toNat := by
    rw [BitVec.toNat_ofInt]
    congr 1
    exact Int.emod_eq_of_lt h0 (by omega)
  have e2 : (BitVec.ofInt 64 4294967295).toNat = 2 ^ 32 - 1 := rfl
  rw [e1, e2, Nat.and_two_pow_sub_one_eq_mod]
  omega
theorem andU32 {x : Int} (h0 : 0 ≤ x) (h1 : x < 2 ^ 32) : abinInt P .and .u64 x .u64 4294967295 = some (.int .u64 x) := by
  rw [int_and keq_u64]
  have e : IntKind.u64.bits = 64 := rfl
  rw [e, and32 h0 h1, wrap_u64 (by omega) (by omega)]
theorem shrU32 {x : Int} (h0 : 0 ≤ x) (h1 : x < 2 ^ 32) : abinInt P .shr .u64 x .u64 32 = some (.int .u64 0) := by
  rw [int_shr _ _ _ _ (by decide)]
  have e : (2 : Int) ^ min (32 : Int).toNat IntKind.u64.bits = 2 ^ 32 := rfl
  rw [e, Int.fdiv_eq_ediv_of_nonneg _ (by decide), Int.ediv_eq_zero_of_lt h0 h1]
section
variable {ro : Nat} {s : St} {K : Value → St → Prop}
theorem conv_int_uint (a : Int) (ty : TypeId) (s : St) (K : Value → St → Prop) : wop P ro (.convert 3 84 (.const (.int .i64 a))) ty s K = K (.int .u64 (IntKind.u64.wrap a)) s := by kernel_rfl
theorem conv_uint_int (a : Int) (ty : TypeId) (s : St) (K : Value → St → Prop) : wop P ro (.convert 84 3 (.const (.int .u64 a))) ty s K = K (.int .i64 (IntKind.i64.wrap a)) s := by kernel_rfl
theorem wMul1 {n : Int} (h0 : 0 ≤ n) (h1 : n < 2 ^ 31) : CallWP P ro 72 [.int .u64 1, .int .u64 n] s K = K (.tuple (.mk [.int .u64 0, .int .u64 n])) s := by
  have h64 : ∀ (s : St) (K : Value → St → Prop), CallWP P ro 78 [.int .u64 1, .int .u64 n] s K = K (.tuple (.mk [.int .u64 0, .int .u64 n])) s := fun s K => by
    refine callEq (call_wp b78 rfl ?_) K
    rw [n78]
    unfold v78
    simp (maxSteps := 10000000) only [wW, reduceCtorEq, Nat.reduceEqDiff, andU32 (show (0 : Int) ≤ 1 by decide) (by decide), andU32 h0 (show n < 2 ^ 32 by omega), shrU32 (show (0 : Int) ≤ 1 by decide) (by decide), shrU32 h0 (show n < 2 ^ 32 by omega)]
    have w1 : IntKind.u64.wrap (1 * n) = n := by rw [Int.one_mul]; exact wrap_u64 (by omega) (by omega)
    have w2 : IntKind.u64.wrap (0 * n) = 0 := by rw [Int.zero_mul]; rfl
    have w3 : IntKind.u64.wrap (1 * 0) = 0 := rfl
    have w4 : IntKind.u64.wrap (0 * 0) = 0 := rfl
    have w5 : IntKind.u64.wrap (0 + 0) = 0 := rfl
    have z1 := andU32 (x := 0) (by decide) (by decide)
    have z2 := shrU32 (x := 0) (by decide) (by decide)
    simp (maxSteps := 10000000) only [wW, reduceCtorEq, Nat.reduceEqDiff, w1, w2, w3, w4, w5, z1, z2, shrU32 h0 (show n < 2 ^ 32 by omega)]
    exact fin_flat rfl (.refl _) ⟨rfl, rfl⟩
  refine callEq (call_wp b72 rfl ?_) K
  rw [n72]
  unfold v72
  show CallWP P ro 78 [.int .u64 1, .int .u64 n] (ent s) _
  rw [h64]
  simp (maxSteps := 10000000) only [wW, reduceCtorEq, Nat.reduceEqDiff, wop_extract, List.getElem?_cons_zero, List.getElem?_cons_succ, wopt_some]
  exact fin_flat rfl (.refl _) ⟨rfl, rfl⟩
end
end Go.VE
/- The program's gates: the library's Repeat. -/
namespace Go.VE
open Go Go.Proofs
set_option maxRecDepth 20000
section
variable {ro : Nat} {s : St} {K : Value → St → Prop}
theorem Sl.firstN {s : St} {v : Value} {n : Nat} {cs : List Value} (h : Sl s v 1 n cs) {j : Nat} (hj : j ≤ n) : afirst s 1 j v = some (cs.take j) := by
  obtain ⟨a, c, rfl, hl, _, h⟩ := h
  cases j with
  | zero =>
    cases a with
    | none => rfl
    | some x => rfl
  | succ k =>
    obtain ⟨A, o, m, cells, t, op, rfl, hm, hA, hc⟩ := h (by omega)
    rw [Nat.mul_one] at hc
    have hlen : n ≤ cells.length - o := by
      have := congrArg List.length hc
      simp only [List.length_take, List.length_drop] at this
      omega
    simp only [afirst, Nat.mul_one, hm, cond_true, hA, acells, Option.bind_some]
    rw [cut_eq (by omega), ← hc, List.take_take, Nat.min_eq_left hj]
theorem map_spliceL {α : Type} (mk : α → Value) (l x : List α) (o : Nat) : splice (l.map mk) o (x.map mk) = (l.take o ++ x ++ l.drop (o + x.length)).map mk := by
  unfold splice
  simp [List.map_take, List.map_drop]
theorem Vc.copy {α : Type} {t u e : TypeId} {mk : α → Value} {s0 s : St} {A : Nat} {l : List α} (h : Vc e mk s0 s A l) (hse : sliceElem P t = some e) (hs : isz P e = some 1) (hw0 : Wf s0) (hro : ro ≤ s0.n) {o n c : Nat} {m : Option Nat} (hfit : o + n ≤ l.length) {w : Value} {k : Nat} {cs : List α} (hsrc : Sl s w 1 k (cs.map mk)) (h1 : ∀ x, (mk x).oneCell' = true) {ty : TypeId} {K : Value → St → Prop}
    (hk : ∀ s', Vc e mk s0 s' A (l.take o ++ cs.take (min k n) ++ l.drop (o + min k n)) → (∀ B, B ≠ A → s'.at B = s.at B) → s'.n = s.n → K (.int .i64 (min k n : Nat)) s') :
    wop P ro (.call ⟨.builtin .copy, ⟨[.const (.slice (some ⟨A, o, m⟩) n c), .const w]⟩, #[t, u]⟩) ty s K := by
  have hn := h.new
  have hcl : cs.length = k := by
    have := hsrc.len
    rw [List.length_map, Nat.mul_one] at this
    exact this
  rw [wop_copy]
  simp only [acopy, hse, hs, hsrc.first.1, hsrc.firstN (Nat.min_le_left k n), Option.bind_some]
  have hmin : (cs.take (min k n)).length = min k n := by rw [List.length_take]; omega
  rw [← List.map_take]
  cases hx : cs.take (min k n) with
  | nil =>
    have hz : min k n = 0 := by rw [hx] at hmin; exact hmin.symm
    have e : awrite ro s A o (List.map mk []) = some s := rfl
    rw [e, Option.map_some, wopt_some]
    refine hk s ?_ (fun _ _ => rfl) rfl
    rw [hx, hz, Nat.add_zero, List.append_nil, List.take_append_drop]
    exact h
  | cons x r =>
    have hall : (List.map mk (x :: r)).all (·.oneCell') = true := by
      rw [List.all_eq_true]
      intro v hv
      obtain ⟨y, _, rfl⟩ := List.mem_map.1 hv
      exact h1 y
    have hln : (List.map mk (x :: r)).length = min k n := by rw [List.length_map, ← hx]; exact hmin
    have ew : awrite ro s A o (List.map mk (x :: r)) = some (s.put A (.cells (splice (l.map mk) o (List.map mk (x :: r))) e false)) := by
      show awriteIn ro s A o (List.map mk (x :: r)) (s.at A) = _
      rw [h.here]
      have hb : (Nat.ble ro A && (Nat.ble (o + (List.map mk (x :: r)).length) (l.map mk).length && (List.map mk (x :: r)).all (·.oneCell'))) = true := by
        rw [hall, hln, Nat.ble_eq_true_of_le (show ro ≤ A by omega), Nat.ble_eq_true_of_le (show o + min k n ≤ (l.map mk).length by rw [List.length_map]; omega)]
        rfl
      simp only [awriteIn, hb, cond_true]
    rw [ew, Option.map_some, wopt_some]
    have p := Put.mk' h.wf (St.at_lt h.here) (.cells (splice (l.map mk) o (List.map mk (x :: r))) e false)
    refine hk _ ⟨?_, h.new, p.wf, p.grew _ hw0 h.grew h.new⟩ p.rest p.n
    rw [p.here, map_spliceL, hx]
    have : (x :: r).length = min k n := by rw [← hx]; exact hmin
    rw [this]
theorem Vc.part {α : Type} {e : TypeId} {mk : α → Value} {s0 s : St} {A : Nat} {l : List α} (h : Vc e mk s0 s A l) {o n c : Nat} (hfit : o + n ≤ l.length) (hc : n ≤ c) : Sl s (.slice (some ⟨A, o, none⟩) n c) 1 n (((l.drop o).take n).map mk) := by
  refine ⟨_, _, rfl, ?_, ⟨hc, fun h => (by cases h), fun x hx => by cases hx; exact .inl rfl⟩, fun _ => ⟨A, o, none, _, _, _, rfl, rfl, h.here, ?_⟩⟩
  · rw [List.length_map, List.length_take, List.length_drop]; omega
  · rw [Nat.mul_one, ← List.map_drop, ← List.map_take]
theorem rep_step {x z : Int} {n c : Nat} (hc : c ≤ n) : (List.replicate c x ++ List.replicate (n - c) z).take c ++ (List.replicate c x).take (min c (n - c)) ++ (List.replicate c x ++ List.replicate (n - c) z).drop (c + min c (n - c)) = List.replicate (c + min c (n - c)) x ++ List.replicate (n - (c + min c (n - c))) z := by
  rw [List.take_left' (by simp), List.take_replicate, List.replicate_append_replicate, List.drop_append, List.drop_of_length_le (by simp), List.nil_append, List.drop_replicate, List.length_replicate]
  congr 2
  · omega
  · omega
theorem slc_from (A n c : Nat) (hc : c < n) : asliceOp P 49 (slc A n) (some (.int .i64 (c : Int))) none none = some (.slice (some ⟨A, c, none⟩) (n - c) (n - c)) := by
  have hlo : abound (some (.int .i64 (c : Int))) 0 n = some c := by
    simp only [abound]
    rw [if_pos (by omega)]; rfl
  have hhi : abound none n n = some n := rfl
  simp only [asliceOp, sliceElem_un se_49, isz_3, sliceTwo, hhi, hlo, Option.bind_some, show ¬ n = c by omega, if_false, Nat.mul_one, Nat.zero_add]
theorem slc_to (A n c : Nat) (hc : c ≤ n) : asliceOp P 49 (slc A n) none (some (.int .i64 (c : Int))) none = some (.slice (some ⟨A, 0, none⟩) c n) := by
  have hhi : abound (some (.int .i64 (c : Int))) n n = some c := by
    simp only [abound]
    rw [if_pos (by omega)]; rfl
  have hlo : abound none 0 c = some 0 := rfl
  simp only [asliceOp, sliceElem_un se_49, isz_3, sliceTwo, hhi, hlo, Option.bind_some, Nat.zero_mul, Nat.zero_add, Nat.sub_zero, ite_self]
theorem wRepeat1 {u : Value} (x : Int) (hu : Ints s u [x]) {n : Int} (h0 : 0 ≤ n) (hn : n ≤ 2 ^ 30) (hw : Wf s) (hro : ro ≤ s.n) (hk : ∀ A s', Vc 3 (.int .i64) s s' A (List.replicate n.toNat x) → K (slc A n.toNat) s') :
    CallWP P ro 59 [u, .int .i64 n] s K := by
  refine call_wp b59 rfl ?_
  rw [n59]
  unfold v59
  simp (maxSteps := 10000000) only [wW, reduceCtorEq, Nat.reduceEqDiff]
  rw [if_neg (by omega), n59_11]
  unfold v59_11
  simp (maxSteps := 10000000) only [U, tset_eq, wW, reduceCtorEq, Nat.reduceEqDiff, Sl.wlen hu se_49, conv_int_uint]
  rw [show IntKind.u64.wrap (([x] : List Int).length : Nat) = 1 from rfl, wrap_u64 (by omega) (by omega), wMul1 h0 (by omega)]
  simp (maxSteps := 10000000) only [wW, reduceCtorEq, Nat.reduceEqDiff, wop_extract, List.getElem?_cons_zero, List.getElem?_cons_succ, wopt_some]
  rw [if_neg (by decide), if_neg (by omega), n59_1111]
  unfold v59_1111
  simp (maxSteps := 10000000) only [U, tset_eq, wW, reduceCtorEq, Nat.reduceEqDiff, conv_uint_int]
  rw [wrap_i64 (by omega) (by omega)]
  refine make_rule (mk := Value.int .i64) (x := 0) se_49 ty_3 rfl hw.ent h0 hn (by decide) fun A s1 m1 => ?_
  have e1 := m1.eq
  have n1 := m1.n
  have hn0 : (ent s).n = s.n := rfl
  have V1 : Vc 3 (.int .i64) (ent s) s1 A (List.replicate n.toNat 0) := ⟨m1.here, by omega, m1.wf, m1.grew⟩
  have hu1 : Sl s1 u 1 1 ([x].map (Value.int .i64)) := (Sl.ent hu).grew m1.grew.same
  refine V1.copy se_49 isz_3 hw.ent hro (by simp) hu1 (fun _ => rfl) fun s2 V2 _ _ => ?_
  have hV2 : Vc 3 (.int .i64) (ent s) s2 A (List.replicate (min 1 n.toNat) x ++ List.replicate (n.toNat - min 1 n.toNat) 0) := by
    have e : (List.replicate n.toNat (0 : Int)).take 0 ++ ([x].take (min 1 n.toNat)) ++ (List.replicate n.toNat (0 : Int)).drop (0 + min 1 n.toNat) = List.replicate (min 1 n.toNat) x ++ List.replicate (n.toNat - min 1 n.toNat) 0 := by
      rw [List.take_zero, List.nil_append, List.drop_replicate, Nat.zero_add]
      congr 1
      rcases Nat.eq_zero_or_pos n.toNat with h | h
      · rw [h]; rfl
      · rw [show min 1 n.toNat = 1 by omega]; rfl
    rw [← e]
    exact V2
  clear V2 V1
  generalize hc0 : min 1 n.toNat = c0 at hV2 ⊢
  have hc1 : c0 ≤ n.toNat ∧ (n.toNat = 0 ∨ 1 ≤ c0) := by omega
  refine wloop l59_111111000 m59_111111000 (fun (c : Nat) τ ds s' => c ≤ n.toNat ∧ (n.toNat = 0 ∨ 1 ≤ c) ∧ τ 7 = slc A n.toNat ∧ τ 8 = .int .i64 c ∧ ds = [] ∧ Vc 3 (.int .i64) (ent s) s' A (List.replicate c x ++ List.replicate (n.toNat - c) 0)) (fun c => n.toNat - c) ?_ c0 ⟨hc1.1, hc1.2, ?_, ?_, rfl, hV2⟩
  · clear hV2
    rintro c τ ds s' ⟨hc, hc2, t7, t8, rfl, V⟩
    rw [n59_111111000]
    unfold v59_111111000
    have hlI : ∀ {s : St} {K : Value → St → Prop}, wop P ro (.call ⟨.builtin .len, ⟨[.const (slc A n.toNat)]⟩, #[49]⟩) 3 s K = K (.int .i64 (n.toNat : Nat)) s := fun {s K} => wop_len se_49 _ _ _ _ _ _
    simp (maxSteps := 10000000) only [wW, reduceCtorEq, Nat.reduceEqDiff, t7, t8, hlI]
    by_cases hlt : c < n.toNat
    · rw [if_pos (by omega), wop_slice]
      simp (maxSteps := 10000000) only [wW, reduceCtorEq, Nat.reduceEqDiff, slc_from _ _ _ hlt, slc_to _ _ _ hc, wop_slice, aval, Option.map_some, Option.map_none]
      have hl : (List.replicate c x ++ List.replicate (n.toNat - c) (0 : Int)).length = n.toNat := by simp; omega
      have hsrc := V.part (o := 0) (n := c) (c := n.toNat) (by omega) hc
      rw [List.drop_zero, List.take_left' (by simp)] at hsrc
      refine V.copy se_49 isz_3 hw.ent hro (by omega) hsrc (fun _ => rfl) fun s2 V2 _ _ => ?_
      rw [rep_step hc] at V2
      simp (maxSteps := 10000000) only [wW, reduceCtorEq, Nat.reduceEqDiff]
      rw [wrap_i64 (by omega) (by omega)]
      refine ⟨c + min c (n.toNat - c), by omega, by omega, by omega, ?_, ?_, trivial, V2⟩
      · simp only [U, tset_eq, wW, reduceCtorEq, Nat.reduceEqDiff, t7]
      · simp only [U, tset_eq, wW, reduceCtorEq, Nat.reduceEqDiff]; rfl
    · obtain rfl : c = n.toNat := by omega
      rw [if_neg (by omega), xleave_U, r59]
      simp (maxSteps := 10000000) only [U, tset_eq, wW, reduceCtorEq, Nat.reduceEqDiff, t7]
      rw [Nat.sub_self, List.replicate_zero, List.append_nil] at V
      refine wfin_new hw V.grew rfl fun s2 g2 _ hat => hk A s2 ⟨(hat A).trans V.here, V.new, hw.grew g2, g2⟩
  · simp only [U, tset_eq, wW, reduceCtorEq, Nat.reduceEqDiff]
  · simp only [U, tset_eq, wW, reduceCtorEq, Nat.reduceEqDiff]
end
end Go.VE
/- The program's gates: what depths computes. -/
namespace Go.VE
open Go Go.Proofs
set_option maxRecDepth 20000
theorem rds_filter (r : Row) : rds r = ((List.range 4).filter (rdB r)).map (fun (n : Nat) => (n : Int)) := by
  have h4 : List.range 4 = [0, 1, 2, 3] := rfl
  rw [h4]
  unfold rds
  by_cases h1 : r.k = 1
  · by_cases a : (r.ql ≠ 0 ∨ r.qm ≠ 0) <;> by_cases b : (r.qr ≠ 0 ∨ r.qm ≠ 0) <;> by_cases c : r.qo = 0 <;>
      simp only [List.filter, rdB, rd0, rd1, rd2, rd3, h1, a, b, c, ne_eq, not_true, not_false_eq_true, if_true, if_false, decide_true, decide_false] <;> rfl
  · by_cases h2 : r.k = 2
    · simp [List.filter, rdB, rd0, rd1, rd2, rd3, h2]
    · by_cases h3 : r.k = 3
      · simp [List.filter, rdB, rd0, rd1, rd2, rd3, h3]
      · simp [List.filter, rdB, rd0, rd1, rd2, rd3, h1, h2, h3]
def mostF (r : Row) (D : List Int) : List Nat → Int → Option Int
  | [], m => some m
  | n :: l, m => if rdB r n = true then (if at0 D (r.w n) < 0 ∧ ¬ (r.k = 1 ∧ n = 2) then none else mostF r D l (if m < at0 D (r.w n) then at0 D (r.w n) else m)) else mostF r D l m
theorem mostF_eq (r : Row) (D : List Int) : ∀ (l : List Nat) (m : Int), mostM r D ((l.filter (rdB r)).map (fun (n : Nat) => (n : Int))) m = mostF r D l m
  | [], m => rfl
  | n :: l, m => by
    rw [mostF]
    cases hb : rdB r n with
    | false =>
      rw [List.filter_cons_of_neg (show ¬ rdB r n = true by rw [hb]; decide), if_neg (by decide)]
      exact mostF_eq r D l m
    | true =>
      rw [List.filter_cons_of_pos hb, if_pos rfl, List.map_cons, mostM, Int.toNat_natCast, mostF_eq r D l]
      by_cases hc : at0 D (r.w n) < 0 ∧ ¬ (r.k = 1 ∧ n = 2)
      · rw [if_pos hc, if_pos ⟨hc.1, fun h => hc.2 ⟨h.1, by omega⟩⟩]
      · rw [if_neg hc, if_neg (fun h => hc ⟨h.1, fun h2 => h.2 ⟨h2.1, by omega⟩⟩)]
theorem most_eq (r : Row) (D : List Int) : mostM r D (rds r) 0 = mostF r D (List.range 4) 0 := by rw [rds_filter, mostF_eq]
theorem range_drop {n k : Nat} (h : k < n) : (List.range n).drop k = k :: (List.range n).drop (k + 1) := by
  rw [List.drop_eq_getElem_cons (by simpa using h), List.getElem_range]
def upd1 (m : Int) (D : List Int) (w : Int) : List Int := if at0 D w < 0 then D.set w.toNat (m + 1) else D
def updL (m : Int) (ws : List Int) (D : List Int) : List Int := ws.foldl (upd1 m) D
def rowWs (r nx : Row) : List Int := if r.k = 3 then [nx.w 0, nx.w 1, nx.w 2, nx.w 3] else if r.qo ≠ 0 then [r.w 2] else []
theorem dRow_upd {r nx : Row} {m : Int} {D : List Int} (h : r.k ≠ 1 → r.qo = 0) : dRow r nx m D = updL m (rowWs r nx) D := by
  unfold dRow rowWs
  by_cases h3 : r.k = 3
  · have h1 : r.k ≠ 1 := by omega
    have e : dArith r m D = D := by unfold dArith; rw [if_neg (fun h => h1 h.1)]
    rw [if_pos h3, if_pos h3, e]
    rfl
  · rw [if_neg h3, if_neg h3]
    by_cases hq : r.qo ≠ 0
    · have h1 : r.k = 1 := Decidable.byContradiction fun h1 => hq (h h1)
      rw [if_pos hq]
      unfold dArith updL
      rw [List.foldl_cons, List.foldl_nil, upd1]
      by_cases hn : at0 D r.w2 < 0
      · rw [if_pos ⟨h1, hq, hn⟩, if_pos (show at0 D (r.w 2) < 0 from hn)]; rfl
      · rw [if_neg (fun h => hn h.2.2), if_neg (show ¬ at0 D (r.w 2) < 0 from hn)]
    · rw [if_neg hq]
      unfold dArith
      rw [if_neg (fun h => hq h.2.1)]; rfl
def RowG (g : Gp) (i : Nat) : Prop := Formed g.f g.nv (rowAt g.rows i) ∧ ((rowAt g.rows i).k = 3 → i + 1 < g.rows.length ∧ ∀ k : Nat, k < 4 → 0 ≤ (rowAt g.rows (i + 1)).w k ∧ (rowAt g.rows (i + 1)).w k < g.nv)
instance (g : Gp) (i : Nat) : Decidable (RowG g i) := by unfold RowG; infer_instance
def BaseG (g : Gp) : Prop := fV g.f = true ∧ 0 ≤ g.pub ∧ g.pub ≤ 16 ∧ 0 ≤ g.sec ∧ g.sec ≤ 20000 ∧ g.pub + g.sec ≤ g.nv ∧ g.nv ≤ 40000 ∧ g.rows.length ≤ 8000
def depsD (g : Gp) : Nat → Option (List Int)
  | 0 => some (List.replicate (g.pub + g.sec).toNat 0 ++ List.replicate (g.nv.toNat - (g.pub + g.sec).toNat) (-1))
  | i + 1 => (depsD g i).bind fun D => if RowG g i then stepD g i D else none
theorem Limits.base {g : Gp} (h : Limits g) : BaseG g := ⟨h.1, h.2.1, h.2.2.1, h.2.2.2.1, h.2.2.2.2.1, h.2.2.2.2.2.1, h.2.2.2.2.2.2.1, h.2.2.2.2.2.2.2.1⟩
theorem Limits.rowG {g : Gp} (h : Limits g) {i : Nat} (hi : i < g.rows.length) : RowG g i := ⟨(h.row hi).1, fun h3 => h.next hi h3⟩
theorem limits_of {g : Gp} (hb : BaseG g) (h : ∀ i, i < g.rows.length → RowG g i) : Limits g :=
  ⟨hb.1, hb.2.1, hb.2.2.1, hb.2.2.2.1, hb.2.2.2.2.1, hb.2.2.2.2.2.1, hb.2.2.2.2.2.2.1, hb.2.2.2.2.2.2.2, fun i hi => ⟨(h i hi).1, fun h3 => ⟨((h i hi).2 h3).1, fun k hk => (((h i hi).2 h3).2 k hk).1⟩⟩⟩
theorem depsD_none {g : Gp} {i : Nat} (h : depsD g i = none) : ∀ {n : Nat}, i ≤ n → depsD g n = none
  | 0, hn => by obtain rfl : i = 0 := by omega
                exact h
  | n + 1, hn => by
    rcases Nat.lt_or_ge i (n + 1) with hlt | hge
    · rw [depsD, depsD_none h (by omega)]; rfl
    · obtain rfl : i = n + 1 := by omega
      exact h
theorem depsD_rows {g : Gp} : ∀ {n : Nat} {D : List Int}, depsD g n = some D → ∀ i, i < n → RowG g i
  | 0, D, h, i, hi => by omega
  | n + 1, D, h, i, hi => by
    rw [depsD] at h
    cases hd : depsD g n with
    | none => rw [hd] at h; cases h
    | some E =>
      rw [hd, Option.bind_some] at h
      rcases Nat.lt_or_ge i n with hlt | hge
      · exact depsD_rows hd i hlt
      · obtain rfl : i = n := by omega
        by_cases hr : RowG g i
        · exact hr
        · rw [if_neg hr] at h; cases h
theorem dInit_get {n0 : Int} {N : Nat} : ∀ {k : Nat}, k ≤ N → ∀ j, j < N → (it (dInit n0) k (List.replicate N 0))[j]? = some (if j < k then (if (j : Int) < n0 then 0 else -1) else 0)
  | 0, _, j, hj => by
    rw [it, List.getElem?_replicate, if_pos hj, if_neg (by omega)]
  | k + 1, hk, j, hj => by
    have ih := dInit_get (n0 := n0) (N := N) (k := k) (by omega) j hj
    have hl : (it (dInit n0) k (List.replicate N 0)).length = N := by
      rw [it_len (fun n l => by unfold dInit; split <;> simp)]; simp
    rw [it]
    generalize it (dInit n0) k (List.replicate N 0) = X at ih hl ⊢
    unfold dInit
    by_cases hp : (k : Int) < n0
    · rw [if_pos hp, List.set_set]
      rcases Nat.lt_trichotomy j k with h | h | h
      · rw [List.getElem?_set_ne (by omega), ih, if_pos h, if_pos (show j < k + 1 by omega)]
      · subst h
        rw [List.getElem?_set_self (by omega), if_pos (show j < j + 1 by omega), if_pos hp]
      · rw [List.getElem?_set_ne (by omega), ih, if_neg (show ¬ j < k by omega), if_neg (show ¬ j < k + 1 by omega)]
    · rw [if_neg hp]
      rcases Nat.lt_trichotomy j k with h | h | h
      · rw [List.getElem?_set_ne (by omega), ih, if_pos h, if_pos (show j < k + 1 by omega)]
      · subst h
        rw [List.getElem?_set_self (by omega), if_pos (show j < j + 1 by omega), if_neg hp]
      · rw [List.getElem?_set_ne (by omega), ih, if_neg (show ¬ j < k by omega), if_neg (show ¬ j < k + 1 by omega)]
theorem init_eq {g : Gp} (h0 : 0 ≤ g.pub + g.sec) (h1 : g.pub + g.sec ≤ g.nv) : it (dInit (g.pub + g.sec)) g.nv.toNat (List.replicate g.nv.toNat 0) = List.replicate (g.pub + g.sec).toNat 0 ++ List.replicate (g.nv.toNat - (g.pub + g.sec).toNat) (-1) := by
  refine List.ext_getElem? fun j => ?_
  rcases Nat.lt_or_ge j g.nv.toNat with hj | hj
  · rw [dInit_get (Nat.le_refl _) j hj, if_pos hj]
    by_cases hp : (j : Int) < g.pub + g.sec
    · rw [if_pos hp, List.getElem?_append_left (by rw [List.length_replicate]; omega), List.getElem?_replicate, if_pos (by omega)]
    · rw [if_neg hp, List.getElem?_append_right (by rw [List.length_replicate]; omega), List.getElem?_replicate, if_pos (by rw [List.length_replicate]; omega)]
  · rw [List.getElem?_eq_none, List.getElem?_eq_none]
    · simp; omega
    · rw [it_len (fun n l => by unfold dInit; split <;> simp)]; simpa using hj
theorem deps_order {g : Gp} (hL : Limits g) : ∀ {n : Nat}, n ≤ g.rows.length → depsD g n = orderD g n
  | 0, _ => by
    have := hL.2.1
    have := hL.2.2.2.1
    rw [depsD, orderD, init_eq (by omega) hL.2.2.2.2.2.1]
  | n + 1, hn => by
    rw [depsD, orderD, deps_order hL (by omega)]
    congr 1
    funext D
    rw [if_pos (hL.rowG (by omega))]
theorem deps_bad {g : Gp} (h : depsD g g.rows.length = none) : validM g = false := by
  unfold validM
  by_cases hL : Limits g
  · rw [decide_eq_true hL, Bool.true_and]
    unfold orderM
    rw [← deps_order hL (Nat.le_refl _), h]; rfl
  · rw [decide_eq_false hL]; rfl
theorem deps_ok {g : Gp} (hb : BaseG g) {D : List Int} (h : depsD g g.rows.length = some D) (hD : ∀ x ∈ D, -1 ≤ x) : (-1 ∈ D → validM g = false) ∧ (-1 ∉ D → validM g = true ∧ orderM g = some D) := by
  have hL := limits_of hb (depsD_rows h)
  have ho : orderD g g.rows.length = some D := by rw [← deps_order hL (Nat.le_refl _)]; exact h
  have hv : validM g = (orderM g).isSome := by unfold validM; rw [decide_eq_true hL, Bool.true_and]
  have hm : orderM g = if D.all (fun x => decide (0 ≤ x)) then some D else none := by unfold orderM; rw [ho]; rfl
  constructor
  · intro hn
    rw [hv, hm, if_neg]; rfl
    intro ha
    have := of_decide_eq_true (List.all_eq_true.1 ha _ hn)
    omega
  · intro hn
    have ha : D.all (fun x => decide (0 ≤ x)) = true := List.all_eq_true.2 fun x hx => decide_eq_true (by
      have h1 := hD x hx
      have h2 : x ≠ -1 := fun h => hn (h ▸ hx)
      omega)
    rw [hv, hm, if_pos ha]
    exact ⟨rfl, rfl⟩
theorem base_bad {g : Gp} (h : ¬ BaseG g) : validM g = false := by
  unfold validM
  rw [decide_eq_false (fun hL => h hL.base)]; rfl
theorem Dep.upd1 {N : Nat} {i m : Int} {D : List Int} (h : Dep N (i + 1) D) (hm : -1 ≤ m ∧ m ≤ i) (w : Int) : Dep N (i + 1) (Go.VE.upd1 m D w) := by
  unfold Go.VE.upd1
  split
  · exact h.set (by omega)
  · exact h
theorem Dep.updL {N : Nat} {i m : Int} (hm : -1 ≤ m ∧ m ≤ i) : ∀ (ws : List Int) {D : List Int}, Dep N (i + 1) D → Dep N (i + 1) (Go.VE.updL m ws D)
  | [], D, h => h
  | w :: ws, D, h => Dep.updL hm ws (h.upd1 hm w)
end Go.VE
/- The program's gates: depths. -/
namespace Go.VE
open Go Go.Proofs
set_option maxRecDepth 20000
section
variable {ro : Nat} {K : Value → St → Prop} {g : Gp} {ur : Value} {s0 : St} {G A : Nat} {s : St} {D : List Int}
theorem zero_step {n0 N i : Nat} (hi : i < n0) (hn : n0 ≤ N) : (List.replicate i (0 : Int) ++ List.replicate (N - i) (-1)).set i 0 = List.replicate (i + 1) 0 ++ List.replicate (N - (i + 1)) (-1) := by
  rw [List.set_append_right _ _ (by simp), List.length_replicate, Nat.sub_self, show N - i = (N - (i + 1)) + 1 by omega, List.replicate_succ, List.set_cons_zero, List.replicate_succ', List.append_assoc]
  rfl
structure RdI (ro : Nat) (g : Gp) (ur : Value) (s0 : St) (G A : Nat) (D : List Int) (τ0 : Tau) (ds0 : List Deferred) (sb : St) (i R : Nat) (k : Nat) (τ : Tau) (ds : List Deferred) (s : St) : Prop where
  k4 : k ≤ 4
  a1 : τ 1 = τ0 1
  a4 : τ 4 = slc A g.nv.toNat
  a74 : τ 74 = τ0 74
  a75 : τ 75 = τ0 75
  a76 : τ 76 = τ0 76
  a6 : τ 6 = τ0 6
  a7 : τ 7 = ptr R
  a123 : τ 123 = .agg (.mk (rdVs (rowAt g.rows i)))
  a124 : τ 124 = .int .i64 k
  ads : ds = ds0
  gr : Grew sb s
  ord : OrdI ro g ur s0 G A s D
  most : ∃ m, τ 8 = .int .i64 m ∧ 0 ≤ m ∧ m ≤ i ∧ mostF (rowAt g.rows i) D ((List.range 4).drop k) m = mostF (rowAt g.rows i) D (List.range 4) 0
theorem mxF2 {m d : Int} (hm : 0 ≤ m) : mxF [m, d] = if m < d then d else m := by
  unfold mxF
  simp only [List.foldl_cons, List.foldl_nil, maxI]
  split
  · rfl
  · rw [show m = 0 by omega]
theorem sl41 (A o : Nat) (ty : TypeId) (s : St) (K : Value → St → Prop) : wop P ro (.slice 41 (.const (.pointer (some ⟨A, o, none⟩))) none none none) ty s K = K (.slice (some ⟨A, o, none⟩) 4 4) s := by
  have e : asliceOp P 41 (.pointer (some ⟨A, o, none⟩)) none none none = some (.slice (some ⟨A, o, none⟩) 4 4) := by kernel_rfl
  rw [wop_sliceArr]
  simp only [Option.map_none, e, wopt_some]
theorem sl41_23 (A o : Nat) (ty : TypeId) (s : St) (K : Value → St → Prop) : wop P ro (.slice 41 (.const (.pointer (some ⟨A, o, none⟩))) (some (.const (.int .i64 2))) (some (.const (.int .i64 3))) none) ty s K = K (.slice (some ⟨A, o + 2, none⟩) 1 2) s := by
  have e : asliceOp P 41 (.pointer (some ⟨A, o, none⟩)) (some (.int .i64 2)) (some (.int .i64 3)) none = some (.slice (some ⟨A, o + 2, none⟩) 1 2) := by kernel_rfl
  rw [wop_sliceArr]
  simp only [Option.map_none, Option.map_some, aval, e, wopt_some]
theorem acells_inv {s : St} {A : Nat} {c : List Value} (h : acells (s.at A) = some c) : ∃ t op, s.at A = some (.cells c t op) := by
  cases hx : s.at A with
  | none => rw [hx] at h; cases h
  | some o =>
    cases o with
    | cells c' t op => rw [hx] at h; cases h; exact ⟨t, op, rfl⟩
    | _ => rw [hx] at h; cases h
theorem part_ints {s : St} {A o n c : Nat} {cs : List Value} {t : TypeId} {op : Bool} {ws : List Int} (h : s.at A = some (.cells cs t op)) (hd : (cs.drop o).take n = ws.map (.int .i64)) (hn : ws.length = n) (hc : n ≤ c) : Ints s (.slice (some ⟨A, o, none⟩) n c) ws := by
  subst hn
  refine ⟨_, _, rfl, by simp, ⟨hc, fun h => (by cases h), fun x hx => by cases hx; exact .inl rfl⟩, fun _ => ⟨A, o, none, _, _, _, rfl, rfl, h, ?_⟩⟩
  rw [Nat.mul_one, hd]
theorem RowIn.wires {s : St} {A o : Nat} {c : List Value} {r : Row} (h : RowIn s A o c r) : (c.drop (o + 1)).take 4 = [r.w 0, r.w 1, r.w 2, r.w 3].map (.int .i64) := by
  refine List.ext_getElem? fun j => ?_
  rcases Nat.lt_or_ge j 4 with hj | hj
  · rw [List.getElem?_take, if_pos hj, List.getElem?_drop, h.wire hj]
    match j, hj with
    | 0, _ => rfl
    | 1, _ => rfl
    | 2, _ => rfl
    | 3, _ => rfl
  · rw [List.getElem?_eq_none, List.getElem?_eq_none]
    · simpa using hj
    · rw [List.length_take]; omega
theorem depUpd (hI : OrdI ro g ur s0 G A s D) {ws : List Int} {v : Value} (hnv : g.nv ≤ 40000) (hv : ∀ s', (∀ B, B ≠ A → s'.at B = s.at B) → Ints s' v ws) (hl : ws.length ≤ 4) (hws : ∀ w ∈ ws, 0 ≤ w ∧ w < g.nv) {m : Int} (hm : 0 ≤ m ∧ m ≤ 8000)
    {τ : Tau} {ds : List Deferred} {Kr : WK} {kx : WK} (h4 : τ 4 = slc A g.nv.toNat) (h8 : τ 8 = .int .i64 m) (h175 : τ 175 = v) (h176 : τ 176 = .int .i64 ws.length) (h177 : τ 177 = .int .i64 0)
    (hk : ∀ τ' s', τ' 1 = τ 1 → τ' 4 = τ 4 → τ' 74 = τ 74 → τ' 75 = τ 75 → τ' 76 = τ 76 → OrdI ro g ur s0 G A s' (updL m ws D) → kx τ' ds s') :
    WLoop P ro 197 none c37_1111101001100111111100 τ ds s Kr [(7, kx)] := by
  refine wloop l37_1111101001100111111100 m37_1111101001100111111100 (fun (i : Nat) τ' ds' s' => i ≤ ws.length ∧ τ' 1 = τ 1 ∧ τ' 4 = τ 4 ∧ τ' 74 = τ 74 ∧ τ' 75 = τ 75 ∧ τ' 76 = τ 76 ∧ τ' 8 = .int .i64 m ∧ τ' 175 = v ∧ τ' 176 = .int .i64 ws.length ∧ τ' 177 = .int .i64 i ∧ ds' = ds ∧ (∀ B, B ≠ A → s'.at B = s.at B) ∧ OrdI ro g ur s0 G A s' (updL m (ws.take i) D)) (fun i => ws.length - i) ?_ 0 ⟨Nat.zero_le _, rfl, rfl, rfl, rfl, rfl, h8, h175, h176, h177, rfl, fun _ _ => rfl, hI⟩
  rintro i τ' ds' s' ⟨hi, t1, t4, t74, t75, t76, t8, t175, t176, t177, rfl, hs, hI'⟩
  rw [n37_1111101001100111111100]
  unfold v37_1111101001100111111100
  by_cases hlt : i < ws.length
  · obtain ⟨A6, o6, c6, z1, z2, z3⟩ := (hv s' hs).at1 (i := (i : Int)) (x := ws[i]) (by omega) (by rw [Int.toNat_natCast]; exact List.getElem?_eq_getElem hlt)
    have hw := hws ws[i] (List.getElem_mem _)
    have hix := ixc se_49 isz_3 (A := A) (n := g.nv.toNat) (c := g.nv.toNat) (i := ws[i]) hw.1 (by omega)
    have hgt := hI'.get hw.1 hw.2
    rw [h4] at t4
    simp (maxSteps := 10000000) only [wW, reduceCtorEq, Nat.reduceEqDiff, wL, Nat.reduceAdd, t4, t8, t175, t176, t177, z1, z2, z3, hix, hI'.dc, hgt]
    rw [if_pos (by omega)]
    have hup : updL m (ws.take (i + 1)) D = upd1 m (updL m (ws.take i) D) ws[i] := by
      unfold updL
      rw [take_succ_eq (List.getElem?_eq_getElem hlt), List.foldl_append]; rfl
    have hnx : IntKind.i64.wrap ((i : Int) + 1) = ((i + 1 : Nat) : Int) := by rw [wrap_i64 (by omega) (by omega)]; rfl
    have hmx : IntKind.i64.wrap (m + 1) = m + 1 := wrap_i64 (by omega) (by omega)
    by_cases hneg : at0 (updL m (ws.take i) D) ws[i] < 0
    · rw [if_pos hneg, hmx]
      refine hI'.store hw.1 hw.2 fun s2 hI2 hs2 => ?_
      rw [hnx]
      refine ⟨i + 1, by omega, by omega, ?_, ?_, ?_, ?_, ?_, ?_, ?_, ?_, ?_, trivial, fun B hB => (hs2 B hB).trans (hs B hB), ?_⟩
      · simp only [U, tset_eq, wW, reduceCtorEq, Nat.reduceEqDiff, t1]
      · simp only [U, tset_eq, wW, reduceCtorEq, Nat.reduceEqDiff, t4, h4]
      · simp only [U, tset_eq, wW, reduceCtorEq, Nat.reduceEqDiff, t74]
      · simp only [U, tset_eq, wW, reduceCtorEq, Nat.reduceEqDiff, t75]
      · simp only [U, tset_eq, wW, reduceCtorEq, Nat.reduceEqDiff, t76]
      · simp only [U, tset_eq, wW, reduceCtorEq, Nat.reduceEqDiff, t8]
      · simp only [U, tset_eq, wW, reduceCtorEq, Nat.reduceEqDiff, t175]
      · simp only [U, tset_eq, wW, reduceCtorEq, Nat.reduceEqDiff, t176]
      · simp only [U, tset_eq, wW, reduceCtorEq, Nat.reduceEqDiff]
      · rw [hup, upd1, if_pos hneg]; exact hI2
    · rw [if_neg hneg, hnx]
      refine ⟨i + 1, by omega, by omega, ?_, ?_, ?_, ?_, ?_, ?_, ?_, ?_, ?_, trivial, hs, ?_⟩
      · simp only [U, tset_eq, wW, reduceCtorEq, Nat.reduceEqDiff, t1]
      · simp only [U, tset_eq, wW, reduceCtorEq, Nat.reduceEqDiff, t4, h4]
      · simp only [U, tset_eq, wW, reduceCtorEq, Nat.reduceEqDiff, t74]
      · simp only [U, tset_eq, wW, reduceCtorEq, Nat.reduceEqDiff, t75]
      · simp only [U, tset_eq, wW, reduceCtorEq, Nat.reduceEqDiff, t76]
      · simp only [U, tset_eq, wW, reduceCtorEq, Nat.reduceEqDiff, t8]
      · simp only [U, tset_eq, wW, reduceCtorEq, Nat.reduceEqDiff, t175]
      · simp only [U, tset_eq, wW, reduceCtorEq, Nat.reduceEqDiff, t176]
      · simp only [U, tset_eq, wW, reduceCtorEq, Nat.reduceEqDiff]
      · rw [hup, upd1, if_neg hneg]; exact hI'
  · obtain rfl : i = ws.length := by omega
    rw [List.take_length] at hI'
    simp (maxSteps := 10000000) only [wW, reduceCtorEq, Nat.reduceEqDiff, t176, t177]
    rw [if_neg (by omega)]
    refine hk _ _ ?_ ?_ ?_ ?_ ?_ hI'
    · simp only [U, tset_eq, wW, reduceCtorEq, Nat.reduceEqDiff, t1]
    · simp only [U, tset_eq, wW, reduceCtorEq, Nat.reduceEqDiff, t4]
    · simp only [U, tset_eq, wW, reduceCtorEq, Nat.reduceEqDiff, t74]
    · simp only [U, tset_eq, wW, reduceCtorEq, Nat.reduceEqDiff, t75]
    · simp only [U, tset_eq, wW, reduceCtorEq, Nat.reduceEqDiff, t76]
theorem depRow (hnv : g.nv ≤ 40000) (hlen : g.rows.length ≤ 8000) {i : Nat} (hi : i < g.rows.length) (hrow : RowG g i) (hdep : Dep g.nv.toNat i D) (hI : OrdI ro g ur s0 G A s D) {R : Nat} (hR : s.at R = some (.cells (rowAt g.rows i).cells 43 false)) (hRA : R ≠ A)
    {τ : Tau} {ds : List Deferred} {Qe : Ex → XK} (t1 : τ 1 = ptr G) (t4 : τ 4 = slc A g.nv.toNat) (t6 : τ 6 = .int .i64 i) (t7 : τ 7 = ptr R)
    (hno : ∀ τ' al s', stepD g i D = none → Grew s0 s' → U τ' al 2 = .slice none 0 0 → U τ' al 3 = .bool false → Qe .ret (U τ' al) [] ds s')
    (hk : ∀ τ' al s' D', U τ' al 1 = τ 1 → U τ' al 4 = τ 4 → U τ' al 74 = τ 74 → U τ' al 75 = τ 75 → U τ' al 76 = τ 76 → stepD g i D = some D' → Dep g.nv.toNat (i + 1 : Nat) D' → OrdI ro g ur s0 G A s' D' → Qe .normal τ' al ds s') :
    xp (prims P ro) none 197 k37_111110100 c37_111110100110011 [1, 1, 0, 0, 1, 1] τ [] ds s Qe := by
  rw [n37_111110100110011]
  unfold v37_111110100110011
  simp (maxSteps := 10000000) only [wW, reduceCtorEq, Nat.reduceEqDiff, t7]
  rw [wop_load, load_all ap_43 hR rfl, wopt_some, wGreads (rowAt g.rows i) hI.vc.wf (by have := hI.vc.grew.n; have := hI.ro; omega)]
  have hstep : stepD g i D = (mostF (rowAt g.rows i) D (List.range 4) 0).map fun m => dRow (rowAt g.rows i) (rowAt g.rows (i + 1)) m D := by unfold stepD; rw [most_eq]
  have hwi : ∀ {k : Nat}, k < 4 → WireOk g.nv (rowAt g.rows i) k := fun {k} hk => by
    have h := hrow.1.2.2.2.2.2
    refine ⟨(h.1 k hk).1, (h.1 k hk).2, fun hb => ?_⟩
    have := h.2 _ ((rdB_mem _ hk).1 hb)
    rwa [Int.toNat_natCast] at this
  have hqo : (rowAt g.rows i).k ≠ 1 → (rowAt g.rows i).qo = 0 := fun h => (hrow.1.2.2.2.2.1 _ (by simp [Row.qs])).2 h
  have hn3 := hrow.2
  refine wloop l37_11111010011001110100 m37_11111010011001110100 (RdI ro g ur s0 G A D τ ds s i R) (fun k => 4 - k) ?_ 0 ⟨by omega, rfl, t4, rfl, rfl, rfl, rfl, t7, rfl, rfl, rfl, .refl _, hI, 0, rfl, by omega, by omega, rfl⟩
  rintro k τ' ds' s' ⟨hk4, a1, a4, a74, a75, a76, a6, a7, a123, a124, rfl, gs, hI', m, a8, hm0, hm1, hmost⟩
  rw [n37_11111010011001110100]
  unfold v37_11111010011001110100
  have hR' : s'.at R = some (.cells (rowAt g.rows i).cells 43 false) := (gs.same R (St.at_lt hR)).trans hR
  have hRc' := acells_some hR'
  generalize hrr : rowAt g.rows i = r at *
  by_cases hlk : k < 4
  · have hnx : IntKind.i64.wrap ((k : Int) + 1) = ((k + 1 : Nat) : Int) := by rw [wrap_i64 (by omega) (by omega)]; rfl
    simp (maxSteps := 10000000) only [wW, reduceCtorEq, Nat.reduceEqDiff, wL, Nat.reduceAdd, a123, a124, a7, aiR _ hlk, hRc', wix _ _ hlk, rcw _ hlk, hnx]
    rw [if_pos (by omega)]
    rw [range_drop hlk, mostF] at hmost
    have next : ∀ {τ2 : Tau} {s2 : St} {m' : Int}, τ2 1 = τ' 1 → τ2 4 = τ' 4 → τ2 74 = τ' 74 → τ2 75 = τ' 75 → τ2 76 = τ' 76 → τ2 6 = τ' 6 → τ2 7 = ptr R → τ2 123 = .agg (.mk (rdVs r)) → τ2 124 = .int .i64 ((k + 1 : Nat) : Int) → τ2 8 = .int .i64 m' → Grew s' s2 → 0 ≤ m' → m' ≤ i → mostF r D ((List.range 4).drop (k + 1)) m' = mostF r D (List.range 4) 0 →
        ∃ y, 4 - y < 4 - k ∧ RdI ro g ur s0 G A D τ ds' s i R y τ2 ds' s2 := fun {τ2 s2 m'} b1 b4 b74 b75 b76 b6 b7 b123 b124 b8 hg h0 h1 hmo => ⟨k + 1, by omega, by omega, b1.trans a1, b4.trans a4, b74.trans a74, b75.trans a75, b76.trans a76, b6.trans a6, b7, by rw [hrr]; exact b123, b124, rfl, gs.trans hg, hI'.grew hg, m', b8, h0, h1, by rw [hrr]; exact hmo⟩
    by_cases hb : rdB r k = false
    · rw [if_pos hb]
      rw [if_neg (by rw [hb]; decide)] at hmost
      refine next ?_ ?_ ?_ ?_ ?_ ?_ ?_ ?_ ?_ ?_ (.refl _) hm0 hm1 hmost <;> simp only [U, tset_eq, wW, reduceCtorEq, Nat.reduceEqDiff, a7, a123, a8]
    · rw [if_neg hb]
      have hb' : rdB r k = true := by simpa using hb
      rw [if_pos hb'] at hmost
      have hw := hwi hlk
      have hw0 := hw.2.2 hb'
      have hix := ixc se_49 isz_3 (A := A) (n := g.nv.toNat) (c := g.nv.toNat) (i := r.w k) hw0 (by have := hw.2.1; omega)
      have hgt := hI'.get hw0 hw.2.1
      have hdb := hdep.at0 (by omega) (r.w k)
      have mid : ∀ {τ2 : Tau} {X : Ex → WK}, ¬ (at0 D (r.w k) < 0 ∧ ¬ (r.k = 1 ∧ k = 2)) → τ2 1 = τ' 1 → τ2 4 = τ' 4 → τ2 74 = τ' 74 → τ2 75 = τ' 75 → τ2 76 = τ' 76 → τ2 6 = τ' 6 → τ2 7 = ptr R → τ2 123 = .agg (.mk (rdVs r)) → τ2 124 = .int .i64 (k : Int) → τ2 8 = .int .i64 m → τ2 9 = .int .i64 (k : Int) →
          xp (prims P ro) none 197 k37_11111010011001110100 c37_111110100110011101001100111 [1, 1, 1, 0, 0, 1, 1] τ2 [] ds' s' (blkX 5 (sX (prims P ro) none 197 k37_11111010011001110100 c37_11111010011001110100111 [1, 1, 1] (lift (thenW (fun τ_1 ds s_1 => ∃ y, 4 - y < 4 - k ∧ RdI ro g ur s0 G A D τ ds' s i R y τ_1 ds s_1) X)))) := fun {τ2 X} hc b1 b4 b74 b75 b76 b6 b7 b123 b124 b8 b9 => by
        rw [if_neg hc] at hmost
        rw [n37_111110100110011101001100111]
        unfold v37_111110100110011101001100111
        rw [a4] at b4
        simp (maxSteps := 10000000) only [wW, reduceCtorEq, Nat.reduceEqDiff, wL, Nat.reduceAdd, b4, b7, b8, b9, hRc', wix _ _ hlk, rcw _ hlk, hix, hI'.dc, hgt]
        refine buildSlice_rule se_49 ty_3 hI'.vc.wf [.int .i64 m, .int .i64 (at0 D (r.w k))] rfl rfl (by decide) (by simp [Value.cells]) fun A2 s2 m2 => ?_
        have hU : Ints s2 (.slice (some ⟨A2, 0, none⟩) 2 2) [m, at0 D (r.w k)] := m2.sl rfl
        rw [wDeepest hU (by show 2 < _; decide), mxF2 hm0, blkX_n, sX_n (.lift _), n37_11111010011001110100111]
        unfold v37_11111010011001110100111
        simp (maxSteps := 10000000) only [U, tset_eq, wW, reduceCtorEq, Nat.reduceEqDiff, b124, hnx]
        unfold lift
        refine next ?_ ?_ ?_ ?_ ?_ ?_ ?_ ?_ ?_ ?_ m2.grew ?_ ?_ hmost
        · simp only [U, tset_eq, wW, reduceCtorEq, Nat.reduceEqDiff, b1]
        · simp only [U, tset_eq, wW, reduceCtorEq, Nat.reduceEqDiff, b4, a4]
        · simp only [U, tset_eq, wW, reduceCtorEq, Nat.reduceEqDiff, b74]
        · simp only [U, tset_eq, wW, reduceCtorEq, Nat.reduceEqDiff, b75]
        · simp only [U, tset_eq, wW, reduceCtorEq, Nat.reduceEqDiff, b76]
        · simp only [U, tset_eq, wW, reduceCtorEq, Nat.reduceEqDiff, b6]
        · simp only [U, tset_eq, wW, reduceCtorEq, Nat.reduceEqDiff, b7]
        · simp only [U, tset_eq, wW, reduceCtorEq, Nat.reduceEqDiff, b123]
        · simp only [U, tset_eq, wW, reduceCtorEq, Nat.reduceEqDiff]
        · simp only [U, tset_eq, wW, reduceCtorEq, Nat.reduceEqDiff]
        · split <;> omega
        · split <;> omega
      have bad : (at0 D (r.w k) < 0 ∧ ¬ (r.k = 1 ∧ k = 2)) → stepD g i D = none := fun hc => by
        rw [if_pos hc] at hmost
        rw [hstep, ← hmost]; rfl
      simp (maxSteps := 10000000) only [wW, reduceCtorEq, Nat.reduceEqDiff, wL, Nat.reduceAdd, a4, a7, hix, hI'.dc, hgt, hRc']
      by_cases hneg : at0 D (r.w k) < 0
      · rw [if_pos hneg]
        by_cases k1 : r.k = 1
        · rw [if_neg (by simpa using k1)]
          by_cases k2 : (k : Int) = 2
          · rw [if_neg (by simpa using k2)]
            refine mid (fun h => h.2 ⟨k1, by omega⟩) ?_ ?_ ?_ ?_ ?_ ?_ ?_ ?_ ?_ ?_ ?_ <;> simp only [U, tset_eq, wW, reduceCtorEq, Nat.reduceEqDiff, a7, a123, a124, a8, a4]
          · rw [if_pos k2]
            exact hno _ _ _ (bad ⟨hneg, fun h => k2 (by omega)⟩) hI'.vc.grew rfl rfl
        · rw [if_pos k1]
          exact hno _ _ _ (bad ⟨hneg, fun h => k1 h.1⟩) hI'.vc.grew rfl rfl
      · rw [if_neg hneg]
        refine mid (fun h => hneg h.1) ?_ ?_ ?_ ?_ ?_ ?_ ?_ ?_ ?_ ?_ ?_ <;> simp only [U, tset_eq, wW, reduceCtorEq, Nat.reduceEqDiff, a7, a123, a124, a8, a4]
  · obtain rfl : k = 4 := by omega
    rw [List.drop_of_length_le (by simp), mostF] at hmost
    have hD1 : stepD g i D = some (updL m (rowWs r (rowAt g.rows (i + 1))) D) := by
      rw [hstep, ← hmost, Option.map_some, dRow_upd hqo]
    have hdep1 : Dep g.nv.toNat ((i + 1 : Nat) : Int) (updL m (rowWs r (rowAt g.rows (i + 1))) D) := Dep.updL ⟨by omega, hm1⟩ _ (hdep.mono (by omega))
    simp (maxSteps := 10000000) only [wW, reduceCtorEq, Nat.reduceEqDiff, a124]
    rw [if_neg (by omega)]
    have hA := hI'.vc.new
    rw [t6] at a6
    simp (maxSteps := 10000000) only [U, tset_eq, wW, reduceCtorEq, Nat.reduceEqDiff, wL, Nat.reduceAdd, a7, hRc', a1, t1, hI'.gc, a6]
    by_cases k3 : r.k = 3
    · rw [if_pos k3]
      have hn := hn3 k3
      have hw4 : IntKind.i64.wrap ((i : Int) + 1) = ((i + 1 : Nat) : Int) := by rw [wrap_i64 (by omega) (by omega)]; rfl
      obtain ⟨A6, o6, c6, q1, q2⟩ := hI.rows.ix (rowAt_get hn.1)
      obtain ⟨T6, op6, hA6⟩ := acells_inv q2.blk
      have hlt6 := St.at_lt hA6
      have hA6' : s'.at A6 = some (.cells c6 T6 op6) := (hI'.vc.grew.same A6 hlt6).trans hA6
      have hws : rowWs r (rowAt g.rows (i + 1)) = [(rowAt g.rows (i + 1)).w 0, (rowAt g.rows (i + 1)).w 1, (rowAt g.rows (i + 1)).w 2, (rowAt g.rows (i + 1)).w 3] := by unfold rowWs; rw [if_pos k3]
      simp (maxSteps := 10000000) only [wW, reduceCtorEq, Nat.reduceEqDiff, wL, Nat.reduceAdd, hw4, q1, sl41, wop_len se_49]
      refine depUpd hI' hnv (ws := [(rowAt g.rows (i + 1)).w 0, (rowAt g.rows (i + 1)).w 1, (rowAt g.rows (i + 1)).w 2, (rowAt g.rows (i + 1)).w 3]) (fun s2 h2 => part_ints ((h2 A6 (by omega)).trans hA6') q2.wires rfl (Nat.le_refl _)) (Nat.le_refl _) (fun w hw => ?_) ⟨hm0, by omega⟩ ?_ ?_ ?_ ?_ ?_ fun τ3 s3 b1 b4 b74 b75 b76 hI3 => ?_
      · simp only [List.mem_cons, List.not_mem_nil, or_false] at hw
        rcases hw with rfl | rfl | rfl | rfl
        · exact hn.2 0 (by decide)
        · exact hn.2 1 (by decide)
        · exact hn.2 2 (by decide)
        · exact hn.2 3 (by decide)
      · simp only [tset_eq, wW, reduceCtorEq, Nat.reduceEqDiff, a4]
      · simp only [tset_eq, wW, reduceCtorEq, Nat.reduceEqDiff, a8]
      · simp only [tset_eq, wW, reduceCtorEq, Nat.reduceEqDiff]
      · simp only [tset_eq, wW, reduceCtorEq, Nat.reduceEqDiff]; rfl
      · simp only [tset_eq, wW, reduceCtorEq, Nat.reduceEqDiff]
      · rw [← hws] at hI3
        simp only [tset_eq, wW, reduceCtorEq, Nat.reduceEqDiff] at b1 b4 b74 b75 b76
        exact hk τ3 [] s3 _ (b1.trans a1) (b4.trans (a4.trans t4.symm)) (b74.trans a74) (b75.trans a75) (b76.trans a76) hD1 hdep1 hI3
    · rw [if_neg k3]
      by_cases kq : r.qo = 0
      · rw [if_neg (by simpa using kq)]
        have hws : rowWs r (rowAt g.rows (i + 1)) = [] := by unfold rowWs; rw [if_neg k3, if_neg (by simpa using kq)]
        have hln : ∀ (ty : TypeId) (s : St) (K : Value → St → Prop), wop P ro (.call ⟨.builtin .len, ⟨[.const (.slice none 0 0)]⟩, #[49]⟩) ty s K = K (.int .i64 0) s := fun ty s K => wop_len se_49 none 0 0 ty s K
        simp (maxSteps := 10000000) only [wW, reduceCtorEq, Nat.reduceEqDiff, hln]
        refine depUpd hI' hnv (ws := []) (fun s2 h2 => Sl.nil _ _) (by decide) (fun w hw => by cases hw) ⟨hm0, by omega⟩ ?_ ?_ ?_ ?_ ?_ fun τ3 s3 b1 b4 b74 b75 b76 hI3 => ?_
        · simp only [tset_eq, wW, reduceCtorEq, Nat.reduceEqDiff, a4]
        · simp only [tset_eq, wW, reduceCtorEq, Nat.reduceEqDiff, a8]
        · simp only [tset_eq, wW, reduceCtorEq, Nat.reduceEqDiff]
        · simp only [tset_eq, wW, reduceCtorEq, Nat.reduceEqDiff]; rfl
        · simp only [tset_eq, wW, reduceCtorEq, Nat.reduceEqDiff]
        · rw [← hws] at hI3
          simp only [tset_eq, wW, reduceCtorEq, Nat.reduceEqDiff] at b1 b4 b74 b75 b76
          exact hk τ3 [] s3 _ (b1.trans a1) (b4.trans (a4.trans t4.symm)) (b74.trans a74) (b75.trans a75) (b76.trans a76) hD1 hdep1 hI3
      · rw [if_pos kq]
        have k1 : r.k = 1 := Decidable.byContradiction fun h => kq (hqo h)
        have hws : rowWs r (rowAt g.rows (i + 1)) = [r.w 2] := by unfold rowWs; rw [if_neg k3, if_pos kq]
        have hw2 := hwi (k := 2) (by decide)
        have hr2 : rdB r 2 = true := by
          show rd2 r = true
          unfold rd2
          rw [if_pos k1, decide_eq_true kq]
        simp (maxSteps := 10000000) only [wW, reduceCtorEq, Nat.reduceEqDiff, sl41_23, wop_len se_49]
        refine depUpd hI' hnv (ws := [r.w 2]) (fun s2 h2 => part_ints (o := 3) (n := 1) (c := 2) ((h2 R hRA).trans hR') rfl rfl (by decide)) (by show 1 ≤ 4; decide) (fun w hw => ?_) ⟨hm0, by omega⟩ ?_ ?_ ?_ ?_ ?_ fun τ3 s3 b1 b4 b74 b75 b76 hI3 => ?_
        · simp only [List.mem_cons, List.not_mem_nil, or_false] at hw
          subst hw
          exact ⟨hw2.2.2 hr2, hw2.2.1⟩
        · simp only [tset_eq, wW, reduceCtorEq, Nat.reduceEqDiff, a4]
        · simp only [tset_eq, wW, reduceCtorEq, Nat.reduceEqDiff, a8]
        · simp only [tset_eq, wW, reduceCtorEq, Nat.reduceEqDiff]
        · simp only [tset_eq, wW, reduceCtorEq, Nat.reduceEqDiff]; rfl
        · simp only [tset_eq, wW, reduceCtorEq, Nat.reduceEqDiff]
        · rw [← hws] at hI3
          simp only [tset_eq, wW, reduceCtorEq, Nat.reduceEqDiff] at b1 b4 b74 b75 b76
          exact hk τ3 [] s3 _ (b1.trans a1) (b4.trans (a4.trans t4.symm)) (b74.trans a74) (b75.trans a75) (b76.trans a76) hD1 hdep1 hI3
end
end Go.VE
/- The program's gates: depths. -/
namespace Go.VE
open Go Go.Proofs
set_option maxRecDepth 20000
section
variable {ro : Nat} {K : Value → St → Prop} {g : Gp} {ur : Value} {G A : Nat}
theorem depLoop {s s3 : St} (hb : BaseG g) (hnn : ∀ r ∈ g.rows, r.Nn) (hw : Wf s) (hro : ro ≤ s.n) (hF : FieldsAt s) (hr : RowsS s ur g.rows) (hI : OrdI ro g ur (ent s) G A s3 (List.replicate (g.pub + g.sec).toNat 0 ++ List.replicate (g.nv.toNat - (g.pub + g.sec).toNat) (-1)))
    (h0 : ∀ v s', validM g = false → Grew s s' → K (.tuple (.mk [v, .bool false])) s') (h1 : ∀ D v s', validM g = true → orderM g = some D → Grew s s' → Ints s' v D → K (.tuple (.mk [v, .bool true])) s')
    {τ : Tau} {X Y Z : WK} (t1 : τ 1 = ptr G) (t4 : τ 4 = slc A g.nv.toNat) (t74 : τ 74 = ur) (t75 : τ 75 = .int .i64 g.rows.length) (t76 : τ 76 = .int .i64 0) :
    WLoop P ro 197 none c37_111110100 τ [] s3 (fun τ ds s_1 => xleave (prims P ro) s Tryd.f37.results.toList K Ex.ret τ [] ds s_1)
      [(2, fun τ45 ds45 s45 =>
          CallWP P ro 64 [τ45 4, Value.int IntKind.i64 (-1)] s45 fun v195_46 s46 =>
            wop P ro (Op.unOp UnOp.not 4 (Operand.const v195_46)) 4 s46 fun v196_47 s47 =>
              wdefers P ro ds45 s47 fun s48 => wfin s K (Value.tuple { toList := [τ45 4, v196_47] }) s48),
        (4, X), (5, Y), (7, Z)] := by
  have hnv := hb.2.2.2.2.2.2.1
  have hlen := hb.2.2.2.2.2.2.2
  have hnv0 : 0 ≤ g.nv := by have := hb.2.1; have := hb.2.2.2.1; have := hb.2.2.2.2.2.1; omega
  have hn0 : (ent s).n = s.n := rfl
  have noR : ∀ {τ : Tau} {s' : St}, Grew (ent s) s' → validM g = false → τ 2 = .slice none 0 0 → τ 3 = .bool false → xleave (prims P ro) s Tryd.f37.results.toList K .ret τ [] [] s' := fun {τ s'} hg hf h2 h3 => by
    rw [r37]
    simp (maxSteps := 10000000) only [wW, reduceCtorEq, Nat.reduceEqDiff]
    rw [h2, h3]
    exact fin_flat rfl hg (h0 _ _ hf (.refl s))
  have hdep0 : Dep g.nv.toNat 0 (List.replicate (g.pub + g.sec).toNat 0 ++ List.replicate (g.nv.toNat - (g.pub + g.sec).toNat) (-1)) := by
    have h2 := hb.2.2.2.2.2.1
    refine ⟨by simp; omega, fun x hx => ?_⟩
    rcases List.mem_append.1 hx with hx | hx <;> rw [List.eq_of_mem_replicate hx] <;> decide
  refine wloop l37_111110100 m37_111110100 (fun (i : Nat) τ ds s' => i ≤ g.rows.length ∧ τ 1 = ptr G ∧ τ 4 = slc A g.nv.toNat ∧ τ 74 = ur ∧ τ 75 = .int .i64 g.rows.length ∧ τ 76 = .int .i64 i ∧ ds = [] ∧ ∃ D, depsD g i = some D ∧ Dep g.nv.toNat i D ∧ OrdI ro g ur (ent s) G A s' D) (fun i => g.rows.length - i) ?_ 0 ⟨by omega, t1, t4, t74, t75, t76, rfl, _, rfl, hdep0, hI⟩
  clear hI hdep0 t1 t4 t74 t75 t76
  rintro i τ ds s' ⟨hi, t1, t4, t74, t75, t76, rfl, D, hD, hdep, hI⟩
  rw [n37_111110100]
  unfold v37_111110100
  by_cases hlt : i < g.rows.length
  · obtain ⟨A5, o5, c5, q1, q2⟩ := hI.rs.ix (rowAt_get hlt)
    simp (maxSteps := 10000000) only [wW, reduceCtorEq, Nat.reduceEqDiff, wL, Nat.reduceAdd, t1, t74, t75, t76, q1, q2.blk, q2.all]
    rw [if_pos (by omega)]
    refine alloc_rule ty_43 hI.vc.wf fun R s4 m4 => ?_
    have e4 := m4.eq
    have n4 := m4.n
    have gn := hI.vc.grew.n
    have hAlt := St.at_lt hI.vc.here
    have hGlt := St.at_lt hI.gat
    refine storeAll_rule isz_43 m4.here (l := (rowAt g.rows i).cells) rfl (by decide) m4.wf (by omega) rfl rfl fun s5 p5 => ?_
    have hI5 : OrdI ro g ur (ent s) G A s5 D := ⟨⟨(p5.rest A (by omega)).trans ((m4.grew.same A hAlt).trans hI.vc.here), hI.vc.new, p5.wf, p5.grew _ hw.ent (hI.vc.grew.trans m4.grew) (by omega)⟩, (p5.rest G (by omega)).trans ((m4.grew.same G hGlt).trans hI.gat), hI.len, hI.w0, hI.ro, hI.rows, hI.ne⟩
    have hR5 : s5.at R = some (.cells (rowAt g.rows i).cells 43 false) := p5.here
    have n5 := p5.n
    have hRc := acells_some hR5
    have hRA : R ≠ A := by omega
    have hGv := gcVeq g (slVeq hr)
    have hmem : rowAt g.rows i ∈ g.rows := List.mem_of_getElem? (rowAt_get hlt)
    have hF5 : FieldsAt s5 := FieldsAt.grew (s := ent s) hF hI5.vc.grew
    simp (maxSteps := 10000000) only [wW, reduceCtorEq, Nat.reduceEqDiff, wL, Nat.reduceAdd, hI5.gc, hRc, hGv, rcVeq, true_and]
    have hDn : depsD g (i + 1) = if RowG g i then stepD g i D else none := by rw [depsD, hD]; rfl
    have badRow : ¬ RowG g i → validM g = false := fun h => deps_bad (depsD_none (by rw [hDn, if_neg h]) (show i + 1 ≤ g.rows.length by omega))
    have hi1 : IntKind.i64.wrap ((i : Int) + 1) = ((i + 1 : Nat) : Int) := by rw [wrap_i64 (by omega) (by omega)]; rfl
    have row : ∀ {τ2 : Tau} {Q : Ex → WK}, RowG g i → τ2 1 = ptr G → τ2 4 = slc A g.nv.toNat → τ2 6 = .int .i64 i → τ2 7 = ptr R → τ2 74 = ur → τ2 75 = .int .i64 g.rows.length → τ2 76 = .int .i64 i →
        (∀ τ s', validM g = false → Grew (ent s) s' → τ 2 = .slice none 0 0 → τ 3 = .bool false → Q .ret τ [] s') →
        (∀ τ s', (∃ y, g.rows.length - y < g.rows.length - i ∧ y ≤ g.rows.length ∧ τ 1 = ptr G ∧ τ 4 = slc A g.nv.toNat ∧ τ 74 = ur ∧ τ 75 = .int .i64 g.rows.length ∧ τ 76 = .int .i64 (y : Nat) ∧ ([] : List Deferred) = [] ∧ ∃ D, depsD g y = some D ∧ Dep g.nv.toNat y D ∧ OrdI ro g ur (ent s) G A s' D) → Q .normal τ [] s') →
        xp (prims P ro) none 197 k37_111110100 c37_111110100110011 [1, 1, 0, 0, 1, 1] τ2 [] [] s5 (blkX 3 (sX (prims P ro) none 197 k37_111110100 c37_111110100111 [1, 1, 1] (lift Q))) := fun {τ2 Q} hrow b1 b4 b6 b7 b74 b75 b76 hret hnorm => by
      rw [if_pos hrow] at hDn
      refine depRow hnv hlen hlt hrow hdep hI5 hR5 hRA b1 b4 b6 b7 (fun τ' al s2 hn hg h2 h3 => ?_) fun τ' al s2 D' c1 c4 c74 c75 c76 hs hd hI2 => ?_
      · exact hret _ _ (deps_bad (depsD_none (hDn.trans hn) (show i + 1 ≤ g.rows.length by omega))) hg h2 h3
      · rw [blkX_n, sX_n (.lift _), n37_111110100111]
        unfold v37_111110100111
        rw [c76, b76]
        simp (maxSteps := 10000000) only [wW, reduceCtorEq, Nat.reduceEqDiff, hi1]
        unfold lift
        refine hnorm _ _ ⟨i + 1, by omega, by omega, ?_, ?_, ?_, ?_, ?_, rfl, D', hDn.trans hs, hd, hI2⟩
        · rw [← b1, ← c1]; simp only [U, tset_eq, wW, reduceCtorEq, Nat.reduceEqDiff]
        · rw [← b4, ← c4]; simp only [U, tset_eq, wW, reduceCtorEq, Nat.reduceEqDiff]
        · rw [← b74, ← c74]; simp only [U, tset_eq, wW, reduceCtorEq, Nat.reduceEqDiff]
        · rw [← b75, ← c75]; simp only [U, tset_eq, wW, reduceCtorEq, Nat.reduceEqDiff]
        · simp only [U, tset_eq, wW, reduceCtorEq, Nat.reduceEqDiff]
    show CallWP P ro 60 [.agg (.mk (g.cells ur)), .agg (.mk (rowAt g.rows i).cells)] s5 _
    rw [wGformed g (rowAt g.rows i) (hnn _ hmem) p5.wf (by omega) hF5]
    have hu := slVeq hr
    have hk2 : veq (Value.int .u8 (rowAt g.rows i).k) (Value.int .u8 (rowAt g.rows i).k) = true := by simp [veq]
    have hgl : ∀ s' K, wop P ro (.call ⟨.builtin .len, ⟨[.const ur]⟩, #[22]⟩) 3 s' K = K (.int .i64 (g.rows.length : Nat)) s' := fun s' K => Sl.wlen hr se_22 _ K
    simp (maxSteps := 10000000) only [wW, reduceCtorEq, Nat.reduceEqDiff, wL, Nat.reduceAdd, hI5.gc, hRc, hk2, hu, hgl, hi1, true_and, decide_eq_false_iff_not]
    by_cases hf : Formed g.f g.nv (rowAt g.rows i)
    · rw [if_neg (fun h => h hf)]
      by_cases k3 : (rowAt g.rows i).k = 3
      · rw [if_pos k3]
        by_cases hl : ((i + 1 : Nat) : Int) = (g.rows.length : Nat)
        · rw [if_pos hl]
          exact noR hI5.vc.grew (badRow fun h => by have := (h.2 k3).1; omega) rfl rfl
        · rw [if_neg hl]
          have hl1 : i + 1 < g.rows.length := by omega
          obtain ⟨A6, o6, c6, y1, y2⟩ := hI5.rs.ix (rowAt_get hl1)
          obtain ⟨T6, op6, hA6⟩ := acells_inv y2.blk
          have hW : Ints s5 (.slice (some ⟨A6, o6 + 1, none⟩) 4 4) [(rowAt g.rows (i + 1)).w 0, (rowAt g.rows (i + 1)).w 1, (rowAt g.rows (i + 1)).w 2, (rowAt g.rows (i + 1)).w 3] := part_ints hA6 y2.wires rfl (Nat.le_refl _)
          have hmn : ∀ (K : Value → St → Prop), CallWP P ro 61 [.slice (some ⟨A6, o6 + 1, none⟩) 4 4] s5 K = K (.int .i64 (mnL [(rowAt g.rows (i + 1)).w 0, (rowAt g.rows (i + 1)).w 1, (rowAt g.rows (i + 1)).w 2, (rowAt g.rows (i + 1)).w 3])) s5 := fun K => wMinI hW (by show 0 < 4; decide) (by show 4 < _; decide)
          have hmx : ∀ (K : Value → St → Prop), CallWP P ro 62 [.slice (some ⟨A6, o6 + 1, none⟩) 4 4] s5 K = K (.int .i64 (mxL [(rowAt g.rows (i + 1)).w 0, (rowAt g.rows (i + 1)).w 1, (rowAt g.rows (i + 1)).w 2, (rowAt g.rows (i + 1)).w 3])) s5 := fun K => wMaxI hW (by show 0 < 4; decide) (by show 4 < _; decide)
          have hmn0 := mnL_ge (p := 0) (l := [(rowAt g.rows (i + 1)).w 0, (rowAt g.rows (i + 1)).w 1, (rowAt g.rows (i + 1)).w 2, (rowAt g.rows (i + 1)).w 3]) (by show 0 < 4; decide)
          have hmx0 := mxL_lt (p := g.nv) (l := [(rowAt g.rows (i + 1)).w 0, (rowAt g.rows (i + 1)).w 1, (rowAt g.rows (i + 1)).w 2, (rowAt g.rows (i + 1)).w 3]) (by show 0 < 4; decide)
          have hin : ∀ {k : Nat}, k < 4 → (rowAt g.rows (i + 1)).w k ∈ [(rowAt g.rows (i + 1)).w 0, (rowAt g.rows (i + 1)).w 1, (rowAt g.rows (i + 1)).w 2, (rowAt g.rows (i + 1)).w 3] := fun {k} hk => by
            match k, hk with
            | 0, _ => simp
            | 1, _ => simp
            | 2, _ => simp
            | 3, _ => simp
          have hall : ∀ {p : Int → Prop}, (∀ k : Nat, k < 4 → p ((rowAt g.rows (i + 1)).w k)) → ∀ x ∈ [(rowAt g.rows (i + 1)).w 0, (rowAt g.rows (i + 1)).w 1, (rowAt g.rows (i + 1)).w 2, (rowAt g.rows (i + 1)).w 3], p x := fun {p} h x hx => by
            simp only [List.mem_cons, List.not_mem_nil, or_false] at hx
            rcases hx with rfl | rfl | rfl | rfl
            · exact h 0 (by decide)
            · exact h 1 (by decide)
            · exact h 2 (by decide)
            · exact h 3 (by decide)
          generalize [(rowAt g.rows (i + 1)).w 0, (rowAt g.rows (i + 1)).w 1, (rowAt g.rows (i + 1)).w 2, (rowAt g.rows (i + 1)).w 3] = ws at hmn hmx hmn0 hmx0 hin hall
          simp (maxSteps := 10000000) only [wW, reduceCtorEq, Nat.reduceEqDiff, wL, Nat.reduceAdd, y1, sl41, hI5.gc]
          rw [hmn]
          simp (maxSteps := 10000000) only [wW, reduceCtorEq, Nat.reduceEqDiff, wL, Nat.reduceAdd, y1, sl41, hI5.gc, hu, true_and]
          by_cases hm0 : mnL ws < 0
          · rw [if_pos hm0]
            exact noR hI5.vc.grew (badRow fun h => by have := hmn0.2 (hall fun k hk => ((h.2 k3).2 k hk).1); omega) rfl rfl
          · rw [if_neg hm0]
            refine ⟨by simp [veq], ?_⟩
            rw [hmx]
            refine ⟨.refl _, ?_⟩
            simp (maxSteps := 10000000) only [wW, reduceCtorEq, Nat.reduceEqDiff]
            by_cases hm1 : mxL ws ≥ g.nv
            · rw [if_pos hm1]
              exact noR hI5.vc.grew (badRow fun h => by have := hmx0.2 (hall fun k hk => ((h.2 k3).2 k hk).2); omega) rfl rfl
            · rw [if_neg hm1]
              have hrow : RowG g i := ⟨hf, fun _ => ⟨hl1, fun k hk => ⟨hmn0.1 (by omega) _ (hin hk), hmx0.1 (by omega) _ (hin hk)⟩⟩⟩
              refine row hrow ?_ ?_ ?_ ?_ ?_ ?_ ?_ (fun τ s' hv hg h2 h3 => noR hg hv h2 h3) (fun τ s' h => h) <;> simp only [U, tset_eq, wW, reduceCtorEq, Nat.reduceEqDiff, t1, t4, t74, t75, t76]
      · rw [if_neg k3]
        refine row ⟨hf, fun h => absurd h k3⟩ ?_ ?_ ?_ ?_ ?_ ?_ ?_ (fun τ s' hv hg h2 h3 => noR hg hv h2 h3) (fun τ s' h => h) <;> simp only [U, tset_eq, wW, reduceCtorEq, Nat.reduceEqDiff, t1, t4, t74, t75, t76]
    · rw [if_pos hf]
      exact noR hI5.vc.grew (badRow fun h => hf h.1) rfl rfl
  · obtain rfl : i = g.rows.length := by omega
    have hlD := hI.len
    have hV : Ints s' (slc A g.nv.toNat) D := by
      have := hI.vc.part (o := 0) (n := g.nv.toNat) (c := g.nv.toNat) (by omega) (Nat.le_refl _)
      rw [List.drop_zero, List.take_of_length_le (by omega)] at this
      unfold Ints
      rw [hlD]
      exact this
    simp (maxSteps := 10000000) only [wW, reduceCtorEq, Nat.reduceEqDiff, t75, t76]
    rw [if_neg (by omega)]
    simp (maxSteps := 10000000) only [U, tset_eq, wW, reduceCtorEq, Nat.reduceEqDiff, t4]
    rw [wContains (-1) hV (by omega)]
    simp (maxSteps := 10000000) only [wW, reduceCtorEq, Nat.reduceEqDiff]
    have hok := deps_ok hb hD (fun x hx => (hdep.2 x hx).1)
    refine wfin_new hw hI.vc.grew rfl fun s2 g2 _ hat => ?_
    by_cases hm : (-1 : Int) ∈ D
    · rw [decide_eq_true hm]
      exact h0 _ _ (hok.1 hm) g2
    · rw [decide_eq_false hm]
      exact h1 D _ _ (hok.2 hm).1 (hok.2 hm).2 g2 (hV.sameAt fun B _ _ _ _ _ => hat B)
theorem wDepths (g : Gp) (hnn : ∀ r ∈ g.rows, r.Nn) {s : St} {ur : Value} (hw : Wf s) (hro : ro ≤ s.n) (hF : FieldsAt s) (hr : RowsS s ur g.rows)
    (h0 : ∀ v s', validM g = false → Grew s s' → K (.tuple (.mk [v, .bool false])) s') (h1 : ∀ D v s', validM g = true → orderM g = some D → Grew s s' → Ints s' v D → K (.tuple (.mk [v, .bool true])) s') :
    CallWP P ro 37 [.agg (.mk (g.cells ur))] s K := by
  refine call_wp b37 rfl ?_
  rw [n37]
  unfold v37
  simp (maxSteps := 10000000) only [wW, reduceCtorEq, Nat.reduceEqDiff]
  refine box_rule hw.ent fun G s1 m1 => ?_
  have e1 := m1.eq
  have n1 := m1.n
  have hn0 : (ent s).n = s.n := rfl
  have hG1 : s1.at G = some (.cells (g.cells ur) 24 false) := m1.here
  have hG := acells_some hG1
  have hr1 : RowsS s1 ur g.rows := (Sl.ent hr).grew m1.grew.same
  have hgl : ∀ s' K, wop P ro (.call ⟨.builtin .len, ⟨[.const ur]⟩, #[22]⟩) 3 s' K = K (.int .i64 (g.rows.length : Nat)) s' := fun s' K => Sl.wlen hr1 se_22 _ K
  have no : ∀ {s' : St}, Grew (ent s) s' → validM g = false → wfin s K (.tuple (.mk [.slice none 0 0, .bool false])) s' := fun hg hf => fin_flat rfl hg (h0 _ _ hf (.refl s))
  have nb : ¬ BaseG g → wfin s K (.tuple (.mk [.slice none 0 0, .bool false])) s1 := fun hb => no m1.grew (base_bad hb)
  simp (maxSteps := 10000000) only [wW, reduceCtorEq, Nat.reduceEqDiff, wL, Nat.reduceAdd, hG, hgl, wfValid]
  by_cases c1 : fV g.f = true
  · rw [c1]
    simp (maxSteps := 10000000) only [wW, reduceCtorEq, Nat.reduceEqDiff, wL, Nat.reduceAdd, hG, hgl]
    by_cases c2 : g.pub < 0
    · rw [if_pos c2]
      exact nb fun h => by have := h.2.1; omega
    · rw [if_neg c2]
      by_cases c3 : g.pub > 16
      · rw [if_pos c3]
        exact nb fun h => by have := h.2.2.1; omega
      · rw [if_neg c3]
        by_cases c4 : g.sec < 0
        · rw [if_pos c4]
          exact nb fun h => by have := h.2.2.2.1; omega
        · rw [if_neg c4]
          by_cases c5 : g.sec > 20000
          · rw [if_pos c5]
            exact nb fun h => by have := h.2.2.2.2.1; omega
          · rw [if_neg c5, wrap_i64 (by omega) (by omega)]
            by_cases c6 : g.nv < g.pub + g.sec
            · rw [if_pos c6]
              exact nb fun h => by have := h.2.2.2.2.2.1; omega
            · rw [if_neg c6]
              by_cases c7 : g.nv > 40000
              · rw [if_pos c7]
                exact nb fun h => by have := h.2.2.2.2.2.2.1; omega
              · rw [if_neg c7]
                by_cases c8 : (g.rows.length : Int) > 8000
                · rw [if_pos c8]
                  exact nb fun h => by have := h.2.2.2.2.2.2.2; omega
                · rw [if_neg c8]
                  have hb : BaseG g := ⟨c1, by omega, by omega, by omega, by omega, by omega, by omega, by omega⟩
                  have hv1 : veq (Value.int .i64 (-1)) (Value.int .i64 (-1)) = true := rfl
                  clear nb c1 c2 c3 c4 c5 c6 c7 c8
                  refine buildSlice_rule se_49 ty_3 m1.wf [.int .i64 (-1)] rfl rfl (by decide) (by simp [Value.cells]) fun A1 s2 m2 => ?_
                  have e2 := m2.eq
                  have n2 := m2.n
                  have hU : Ints s2 (.slice (some ⟨A1, 0, none⟩) 1 1) [-1] := m2.sl rfl
                  have hG2 : s2.at G = some (.cells (g.cells ur) 24 false) := (m2.grew.same G (by omega)).trans hG1
                  have hnv : 0 ≤ g.nv ∧ g.nv ≤ 40000 := ⟨by have := hb.2.1; have := hb.2.2.2.1; have := hb.2.2.2.2.2.1; omega, hb.2.2.2.2.2.2.1⟩
                  simp (maxSteps := 10000000) only [wW, reduceCtorEq, Nat.reduceEqDiff, wL, Nat.reduceAdd, acells_some hG2]
                  refine wRepeat1 (-1) hU hnv.1 (by omega) m2.wf (by omega) fun A s3 V3 => ?_
                  have g13 := V3.grew
                  have hVn := V3.new
                  have hG3 : s3.at G = some (.cells (g.cells ur) 24 false) := (g13.same G (by omega)).trans hG2
                  have hI0 : OrdI ro g ur (ent s) G A s3 (List.replicate 0 0 ++ List.replicate (g.nv.toNat - 0) (-1)) := ⟨⟨V3.here, by omega, V3.wf, (m1.grew.trans m2.grew).trans g13⟩, hG3, by simp, hw.ent, hro, Sl.ent hr, by omega⟩
                  have hn0 : 0 ≤ g.pub + g.sec ∧ g.pub + g.sec ≤ g.nv := ⟨by have := hb.2.1; have := hb.2.2.2.1; omega, hb.2.2.2.2.2.1⟩
                  simp (maxSteps := 10000000) only [wW, reduceCtorEq, Nat.reduceEqDiff, wL, Nat.reduceAdd, acells_some hG3]
                  rw [wrap_i64 (n := g.pub + g.sec) (by omega) (by omega)]
                  have hl0 : (g.pub + g.sec).toNat ≤ g.nv.toNat := by omega
                  refine wloop l37_11110100 m37_11110100 (fun (i : Nat) τ ds s' => i ≤ (g.pub + g.sec).toNat ∧ τ 1 = ptr G ∧ τ 4 = slc A g.nv.toNat ∧ τ 65 = .int .i64 (g.pub + g.sec) ∧ τ 66 = .int .i64 i ∧ ds = [] ∧ OrdI ro g ur (ent s) G A s' (List.replicate i 0 ++ List.replicate (g.nv.toNat - i) (-1))) (fun i => (g.pub + g.sec).toNat - i) ?_ 0 ⟨by omega, rfl, rfl, rfl, rfl, rfl, hI0⟩
                  clear hI0 hU V3 g13 hG3 hG2 hG hG1 hr1
                  rintro i τ ds s' ⟨hi, t1, t4, t65, t66, rfl, hI⟩
                  rw [n37_11110100]
                  unfold v37_11110100
                  by_cases hlt : i < (g.pub + g.sec).toNat
                  · have hix := ixc se_49 isz_3 (A := A) (n := g.nv.toNat) (c := g.nv.toNat) (i := (i : Int)) (by omega) (by omega)
                    simp (maxSteps := 10000000) only [wW, reduceCtorEq, Nat.reduceEqDiff, wL, Nat.reduceAdd, t4, t65, t66, hix]
                    rw [if_pos (by omega)]
                    refine hI.store (i := (i : Int)) (by omega) (by omega) fun s2 hI2 _ => ?_
                    rw [wrap_i64 (by omega) (by omega)]
                    refine ⟨i + 1, by omega, by omega, ?_, ?_, ?_, ?_, trivial, ?_⟩
                    · simp only [U, tset_eq, wW, reduceCtorEq, Nat.reduceEqDiff, t1]
                    · simp only [U, tset_eq, wW, reduceCtorEq, Nat.reduceEqDiff, t4]
                    · simp only [U, tset_eq, wW, reduceCtorEq, Nat.reduceEqDiff, t65]
                    · simp only [U, tset_eq, wW, reduceCtorEq, Nat.reduceEqDiff]; rfl
                    · rw [Int.toNat_natCast, zero_step hlt hl0] at hI2
                      exact hI2
                  · obtain rfl : i = (g.pub + g.sec).toNat := by omega
                    simp (maxSteps := 10000000) only [wW, reduceCtorEq, Nat.reduceEqDiff, t65, t66]
                    rw [if_neg (by omega)]
                    simp (maxSteps := 10000000) only [U, tset_eq, wW, reduceCtorEq, Nat.reduceEqDiff, wL, Nat.reduceAdd, t1, hI.gc, hgl]
                    exact depLoop hb hnn hw hro hF hr hI h0 h1 (by simp only [tset_eq, wW, reduceCtorEq, Nat.reduceEqDiff, t1]) (by simp only [tset_eq, wW, reduceCtorEq, Nat.reduceEqDiff, t4]) (by simp only [tset_eq, wW, reduceCtorEq, Nat.reduceEqDiff]) (by simp only [tset_eq, wW, reduceCtorEq, Nat.reduceEqDiff]) (by simp only [tset_eq, wW, reduceCtorEq, Nat.reduceEqDiff])
  · rw [Bool.not_eq_true] at c1
    rw [c1]
    simp (maxSteps := 10000000) only [wW, reduceCtorEq, Nat.reduceEqDiff]
    exact nb fun h => by have := h.1; rw [c1] at this; cases this
theorem wGvalid (g : Gp) (hnn : ∀ r ∈ g.rows, r.Nn) {s : St} {ur : Value} (hw : Wf s) (hro : ro ≤ s.n) (hF : FieldsAt s) (hr : RowsS s ur g.rows) : CallWP P ro 16 [.agg (.mk (g.cells ur))] s K = K (.bool (validM g)) s := by
  refine callEq (call_wp b16 rfl ?_) K
  rw [n16]
  unfold v16
  simp (maxSteps := 10000000) only [wW, reduceCtorEq, Nat.reduceEqDiff]
  refine box_rule hw.ent fun G s1 m1 => ?_
  have e1 := m1.eq
  have n1 := m1.n
  have hn0 : (ent s).n = s.n := rfl
  have hG1 : s1.at G = some (.cells (g.cells ur) 24 false) := m1.here
  have hF1 : FieldsAt s1 := FieldsAt.grew (s := ent s) hF m1.grew
  rw [wop_load, load_all ap_24 hG1 rfl, wopt_some]
  refine wDepths g hnn m1.wf (by omega) hF1 ((Sl.ent hr).grew m1.grew.same) (fun v s2 hv g2 => ?_) (fun D v s2 hv _ g2 _ => ?_)
  · simp (maxSteps := 10000000) only [wW, reduceCtorEq, Nat.reduceEqDiff, wop_extract, List.getElem?_cons_zero, List.getElem?_cons_succ, wopt_some]
    exact fin_flat rfl (m1.grew.trans g2) ⟨by rw [hv], rfl⟩
  · simp (maxSteps := 10000000) only [wW, reduceCtorEq, Nat.reduceEqDiff, wop_extract, List.getElem?_cons_zero, List.getElem?_cons_succ, wopt_some]
    exact fin_flat rfl (m1.grew.trans g2) ⟨by rw [hv], rfl⟩
end
end Go.VE
/- The gates: Holds, of the program and of the reference. -/
namespace Go.VE
open Go Go.Proofs
set_option maxRecDepth 20000
def HoldsOk (g : Gp) (vals : List Int) (i : Int) : Prop := validM g = true ∧ (vals.length : Int) = g.nv ∧ below g.f vals = true ∧ 0 ≤ i ∧ i < g.rows.length
instance (g : Gp) (vals : List Int) (i : Int) : Decidable (HoldsOk g vals i) := by unfold HoldsOk; infer_instance
noncomputable def holdsM (g : Gp) (vals : List Int) (i : Int) : Bool × Int := if HoldsOk g vals i then (holdsR g.f (rowAt g.rows i.toNat) (nxt g.rows i.toNat) vals, 0) else (false, 1)
section
variable {ro : Nat} {K : Value → St → Prop}
theorem wGHolds (g : Gp) (hnn : ∀ r ∈ g.rows, r.Nn) {s : St} {ur u : Value} {vals : List Int} (i : Int) (hw : Wf s) (hro : ro ≤ s.n) (hF : FieldsAt s) (hr0 : 0 < ro) (hr : RowsS s ur g.rows) (hu : U64s s u vals) (hpos : ∀ x ∈ vals, 0 ≤ x) (hlen : vals.length < 2 ^ 60) (hrl : g.rows.length < 2 ^ 60) :
    CallWP P ro 10 [.agg (.mk (g.cells ur)), u, .int .i64 i] s K = K (.tuple (.mk [.bool (holdsM g vals i).1, .int .i64 (holdsM g vals i).2])) s := by
  refine callEq (call_wp b10 rfl ?_) K
  rw [n10]
  unfold v10
  simp (maxSteps := 10000000) only [wW, reduceCtorEq, Nat.reduceEqDiff]
  refine box_rule hw.ent fun G s1 m1 => ?_
  have e1 := m1.eq
  have n1 := m1.n
  have hn0 : (ent s).n = s.n := rfl
  have hG1 : s1.at G = some (.cells (g.cells ur) 24 false) := m1.here
  have hG := acells_some hG1
  have hF1 : FieldsAt s1 := FieldsAt.grew (s := ent s) hF m1.grew
  have hr1 : RowsS s1 ur g.rows := (Sl.ent hr).grew m1.grew.same
  have hu1 : U64s s1 u vals := (Sl.ent hu).grew m1.grew.same
  have no : ¬ HoldsOk g vals i → wfin s (fun v s' => v = .tuple (.mk [.bool (holdsM g vals i).1, .int .i64 (holdsM g vals i).2]) ∧ s' = s) (.tuple (.mk [.bool false, .int .i64 1])) s1 := fun h => by
    unfold holdsM
    rw [if_neg h]
    exact fin_flat rfl m1.grew ⟨rfl, rfl⟩
  rw [wop_load, load_all ap_24 hG1 rfl, wopt_some, wGvalid g hnn m1.wf (by omega) hF1 hr1]
  have hgl : ∀ s' K, wop P ro (.call ⟨.builtin .len, ⟨[.const ur]⟩, #[22]⟩) 3 s' K = K (.int .i64 (g.rows.length : Nat)) s' := fun s' K => Sl.wlen hr1 se_22 _ K
  simp (maxSteps := 10000000) only [wW, reduceCtorEq, Nat.reduceEqDiff, wL, Nat.reduceAdd, hG, hu1.wlen se_25, hgl]
  by_cases c1 : validM g = true
  · rw [if_neg (by simp [c1])]
    by_cases c2 : (vals.length : Int) = g.nv
    · rw [if_neg (by simpa using c2), wElements g.f hu1 hlen m1.wf (by omega) hF1]
      simp (maxSteps := 10000000) only [wW, reduceCtorEq, Nat.reduceEqDiff, wL, Nat.reduceAdd, hG, hgl]
      by_cases c3 : below g.f vals = true
      · rw [if_neg (by simp [c3])]
        by_cases c4 : i < 0
        · rw [if_pos c4]
          exact no fun h => by have := h.2.2.2.1; omega
        · rw [if_neg c4]
          by_cases c5 : i ≥ (g.rows.length : Nat)
          · rw [if_pos c5]
            exact no fun h => by have := h.2.2.2.2; omega
          · rw [if_neg c5]
            have hL : Limits g := by
              unfold validM at c1
              rw [Bool.and_eq_true, decide_eq_true_eq] at c1
              exact c1.1
            have hi : i.toNat < g.rows.length := by omega
            have hii : i = ((i.toNat : Nat) : Int) := by omega
            have hvl : g.nv.toNat = vals.length := by omega
            have hfit := hL.fit hi (hnn _ (List.mem_of_getElem? (rowAt_get hi)))
            rw [hvl] at hfit
            have hnx : (rowAt g.rows i.toNat).k = 3 → i.toNat + 1 < g.rows.length ∧ ∀ k, k < 4 → 0 ≤ (nxt g.rows i.toNat).w k ∧ (nxt g.rows i.toNat).w k < vals.length := fun h3 => by
              have h := hL.next hi h3
              rw [← nxt_eq, ← c2] at h
              exact h
            have hcall : ∀ K : Value → St → Prop, CallWP P ro 23 [.agg (.mk (g.cells ur)), u, .int .i64 i] s1 K = K (.bool (holdsR g.f (rowAt g.rows i.toNat) (nxt g.rows i.toNat) vals)) s1 := fun K => by
              conv => lhs; rw [hii]
              exact wGholds g hL.1 m1.wf (by omega) hF1 hr0 hr1 hu1 hpos (rowAt_get hi) hrl hfit hnx
            show CallWP P ro 23 [.agg (.mk (g.cells ur)), u, .int .i64 i] s1 _
            rw [hcall]
            refine fin_flat rfl m1.grew ⟨?_, rfl⟩
            unfold holdsM
            rw [if_pos ⟨c1, c2, c3, by omega, by omega⟩]
      · rw [if_pos (by simpa using c3)]
        exact no fun h => c3 h.2.2.1
    · rw [if_pos (by simpa using c2)]
      exact no fun h => c2 h.2.1
  · rw [if_pos (by simpa using c1)]
    exact no fun h => c1 h.1
end
end Go.VE
/- What every law's proof begins and ends with. -/
namespace Go.VE
open Go Go.Proofs
set_option maxRecDepth 20000
def fieldsB (l : List AO) : Bool :=
  match (l[0]? : Option AO) with
  | some (AO.cells c _ _) => (match c with
    | [a0, a1, a2, a3, .slice x0 n0 c0, a5, a6, a7, a8, .slice x1 n1 c1, a10, a11, a12, a13, .slice x2 n2 c2, a15, a16, a17, a18, .slice x3 n3 c3] =>
      veqL [a0, a1, a2, a3, a5, a6, a7, a8, a10, a11, a12, a13, a15, a16, a17, a18] [.int .u64 97, .int .u64 5, .int .i64 5, .int .i64 5, .int .u64 257, .int .u64 3, .int .i64 8, .int .i64 3, .int .u64 12289, .int .u64 11, .int .i64 12, .int .i64 5, .int .u64 998244353, .int .u64 3, .int .i64 23, .int .i64 3]
    | _ => false)
  | _ => false
theorem fieldsB_spec {l : List AO} (h : fieldsB l = true) {s : St} (hs : ∀ i, i < l.length → s.at i = l[i]?) : FieldsAt s := by
  unfold fieldsB at h
  split at h
  · rename_i c t o h0
    split at h
    · rename_i a0 a1 a2 a3 x0 n0 c0 a5 a6 a7 a8 x1 n1 c1 a10 a11 a12 a13 x2 n2 c2 a15 a16 a17 a18 x3 n3 c3
      have e := veqL_eq _ _ h
      simp only [List.cons.injEq, and_true] at e
      obtain ⟨rfl, rfl, rfl, rfl, rfl, rfl, rfl, rfl, rfl, rfl, rfl, rfl, rfl, rfl, rfl, rfl⟩ := e
      have hl : 0 < l.length := (List.getElem?_eq_some_iff.1 h0).1
      exact ⟨x0, x1, x2, x3, n0, n1, n2, n3, c0, c1, c2, c3, t, o, (hs 0 hl).trans h0⟩
    · cases h
  · cases h
noncomputable def startB (laid : List (String × DataW Unit)) : Bool :=
  match absLaid P 30 laid P.globals.size with
  | some x => lastIn P.globals.size x.1 && fieldsB (absHeap P.globals.size x)
  | none => false
theorem law_runs' {f : Nat} {fid : FuncId} {ts : List TypeId} {laid : List (String × DataW Unit)} (h : startB laid = true)
    (run : ∀ (s : St) (al : List Value), Wf s → FieldsAt s → 0 < s.n → Args P f ts al s → CallWP P s.n fid al s fun v _ => v = .bool true) : LawRuns P 30 f fid ts laid := by
  unfold startB at h
  refine law_runs ?_ fun gs bl hx s al hw _ hs hl ha => ?_
  · split at h
    · rename_i x hx
      rw [hx]
      simp only [Bool.and_eq_true] at h
      exact h.1
    · cases h
  · rw [hx] at h
    simp only [Bool.and_eq_true] at h
    have hF := fieldsB_spec h.2 hs
    exact run s al hw hF hF.lt ha
theorem fin_K {si s : St} {K : Value → St → Prop} {v : Value} (h : ∀ s', K v s') : wfin si K v s := by
  unfold wfin afinish
  cases (Nat.ble si.n s.lo && flat' v) with
  | true => exact h _
  | false => exact h _
section
variable {ro : Nat} {s : St} {K : Value → St → Prop}
theorem wLiv : CallWP P ro 9 [] s K = K (.bool true) s := callEq (call_known rfl ⟨rfl, rfl⟩) K
theorem bool_eql (a b : Bool) (ty : TypeId) (s : St) (K : Value → St → Prop) : wop P ro (.binOp .eql 4 (.const (.bool a)) (.const (.bool b)) 4) ty s K = K (.bool (a == b)) s := by
  cases a <;> cases b <;> kernel_rfl
end
end Go.VE
/- The program's gates: Depth; the reference's Depth; Equal; the closure that sets a value. -/
namespace Go.VE
open Go Go.Proofs
set_option maxRecDepth 20000
section
variable {ro : Nat} {s : St} {K : Value → St → Prop}
theorem wEqual {u v : Value} {a b : List Int} (hu : U64s s u a) (hv : U64s s v b) (hl : a.length < 2 ^ 60) : CallWP P ro 14 [u, v] s K = K (.bool (decide (a = b))) s := by
  refine callEq (call_wp b14 rfl ?_) K
  rw [n14]
  unfold v14
  simp (maxSteps := 10000000) only [wW, reduceCtorEq, Nat.reduceEqDiff, Sl.wlen hu se_25, Sl.wlen hv se_25]
  by_cases hn : (a.length : Int) = b.length
  · rw [if_neg (by simpa using hn)]
    have hn' : a.length = b.length := by omega
    refine wloop l14_110100 m14_110100 (fun (i : Nat) τ ds s' => i ≤ a.length ∧ τ 0 = u ∧ τ 1 = v ∧ τ 5 = .int .i64 i ∧ ds = [] ∧ s' = ent s ∧ a.take i = b.take i) (fun i => a.length - i) ?_ 0 ⟨Nat.zero_le _, ?_, ?_, ?_, rfl, rfl, rfl⟩
    · rintro i τ ds s' ⟨hi, t0, t1, t5, rfl, rfl, hall⟩
      rw [n14_110100]
      unfold v14_110100
      simp (maxSteps := 10000000) only [wW, reduceCtorEq, Nat.reduceEqDiff, t0, t1, t5, Sl.wlen hu se_25]
      by_cases hlt : i < a.length
      · rw [if_pos (by omega)]
        have hltb : i < b.length := by omega
        obtain ⟨A, o, c, q1, q2, q3⟩ := hu.at1 (i := (i : Int)) (x := a[i]) (by omega) (by rw [Int.toNat_natCast]; exact List.getElem?_eq_getElem hlt)
        obtain ⟨A2, o2, c2, y1, y2, y3⟩ := hv.at1 (i := (i : Int)) (x := b[i]) (by omega) (by rw [Int.toNat_natCast]; exact List.getElem?_eq_getElem hltb)
        simp (maxSteps := 10000000) only [wW, reduceCtorEq, Nat.reduceEqDiff, wL, Nat.reduceAdd, q1, q2, q3, y1, y2, y3]
        by_cases he : a[i] = b[i]
        · rw [if_neg (by simpa using he), wrap_i64 (by omega) (by omega)]
          refine ⟨i + 1, by omega, by omega, ?_, ?_, ?_, trivial, trivial, ?_⟩
          · simp only [U, tset_eq, wW, reduceCtorEq, Nat.reduceEqDiff, t0]
          · simp only [U, tset_eq, wW, reduceCtorEq, Nat.reduceEqDiff, t1]
          · simp only [U, tset_eq, wW, reduceCtorEq, Nat.reduceEqDiff]; rfl
          · rw [take_succ_eq (List.getElem?_eq_getElem hlt), take_succ_eq (List.getElem?_eq_getElem hltb), hall, he]
        · rw [if_pos he, r14]
          simp (maxSteps := 10000000) only [U, tset_eq, wW, reduceCtorEq, Nat.reduceEqDiff]
          refine fin_flat rfl (.refl _) ⟨?_, rfl⟩
          rw [decide_eq_false (fun h => he (by subst h; rfl))]
      · obtain rfl : i = a.length := by omega
        rw [if_neg (by omega)]
        refine fin_flat rfl (.refl _) ⟨?_, rfl⟩
        rw [List.take_length, List.take_of_length_le (by omega)] at hall
        rw [decide_eq_true hall]
    · simp only [U, tset_eq, wW, reduceCtorEq, Nat.reduceEqDiff]
    · simp only [U, tset_eq, wW, reduceCtorEq, Nat.reduceEqDiff]
    · simp only [U, tset_eq, wW, reduceCtorEq, Nat.reduceEqDiff]; rfl
  · rw [if_pos hn]
    refine fin_flat rfl (.refl _) ⟨?_, rfl⟩
    rw [decide_eq_false (fun h => hn (by rw [h]))]
end
end Go.VE
/- The program's gates: Run's closure. -/
namespace Go.VE
open Go Go.Proofs
set_option maxRecDepth 20000
def setIf (w x : Int) (c : List Int × List Bool) : List Int × List Bool := if atB c.2 w = false then setV w x c else c
theorem wfin_old {si s : St} {K : Value → St → Prop} {v : Value} (h : s.lo < si.n) : wfin si K v s = K v { s with lo := min si.lo s.lo } := by
  have : Nat.ble si.n s.lo = false := by
    cases hb : Nat.ble si.n s.lo with
    | false => rfl
    | true => have := Nat.le_of_ble_eq_true hb; omega
  simp only [wfin, afinish, this, Bool.false_and, cond_false]
def rngOff (A : Nat) : Rng → Prop
  | .below n => n ≤ A
  | .blk q => q ≠ A
  | .ptr a => ∀ x, a = .pointer (some x) → x.block ≠ A
theorem Put.keeps {s s' : St} {A : Nat} {o : AO} {l : List (Nat × Rng)} (p : Put s A o s') (h : ∀ x ∈ l, rngOff A x.2) : Keeps l s s' := by
  refine ⟨by rw [p.n]; exact Nat.le_refl _, fun x hx => ?_⟩
  have hh := h x hx
  obtain ⟨j, g⟩ := x
  cases g with
  | below n =>
    intro C h1 h2
    have : n ≤ A := hh
    exact p.rest C (by omega)
  | blk q =>
    intro y hy
    have : q ≠ A := hh
    rw [p.rest q this]; exact hy
  | ptr a =>
    intro y z e hz
    have : y.block ≠ A := hh y e
    rw [p.rest y.block this]; exact hz
section
variable {ro : Nat} {K : Value → St → Prop} {g : Gp} {ur : Value} {s0 : St} {G A B : Nat} {s : St} {c : List Int × List Bool}
theorem wSet (hI : RunI ro g ur s0 G A B s c) {X Y : Nat} (hX : s.at X = some (.cells [slc A g.nv.toNat] 25 false)) (hY : s.at Y = some (.cells [slc B g.nv.toNat] 52 false)) (hXA : X ≠ A) (hXB : X ≠ B) {w : Int} (h0 : 0 ≤ w) (h1 : w < g.nv) {x : Int} (hx : 0 ≤ x)
    (hk : ∀ s', RunI ro g ur s0 G A B s' (setIf w x c) → (∀ C, C ≠ A → C ≠ B → s'.at C = s.at C) → s'.n = s.n → K (.tuple (.mk [])) s') :
    CallWP P ro 28 [.int .i64 w, .int .u64 x, ptr Y, ptr X] s K := by
  refine call_wp b28 rfl ?_
  rw [n28]
  unfold v28
  have hixA := ixc se_25 isz_38 (A := A) (n := g.nv.toNat) (c := g.nv.toNat) (i := w) h0 (by omega)
  have hixB := ixc se_52 isz_4 (A := B) (n := g.nv.toNat) (c := g.nv.toNat) (i := w) h0 (by omega)
  have hgt := hI.getB h0 h1
  have hXc := acells_some hX
  have hYc := acells_some hY
  have hv : ∀ (A n : Nat), veq (slc A n) (slc A n) = true := fun A n => by simp [veq]
  have pX : ptr X = .pointer (some ⟨X, 0, none⟩) := rfl
  have pY : ptr Y = .pointer (some ⟨Y, 0, none⟩) := rfl
  simp (maxSteps := 10000000) only [wW, reduceCtorEq, Nat.reduceEqDiff, wL, Nat.reduceAdd, pX, pY, hYc, hXc, hixB, hI.bc, hgt, hv, true_and, List.getElem?_cons_zero, load1 ap_52, load1 ap_25, load1 ap_4]
  have hl1 := hI.l1
  have hl2 := hI.l2
  have hsn := hI.vv.grew.n
  have hslo := hI.vv.grew.lo
  have hAn := hI.vv.new
  have hBn := hI.vb.new
  have hAl := St.at_lt hI.vv.here
  have hBl := St.at_lt hI.vb.here
  have hro := hI.ro
  have hw0 := hI.w0.lo
  have hwe : Wf (ent s) := hI.vv.wf.ent
  have hn0 : (ent s).n = s.n := rfl
  have hsw := hI.vv.wf.lo
  unfold setIf at hk
  by_cases hb : atB c.2 w = false
  · rw [if_pos hb] at hk ⊢
    refine store1_rule isz_4 (s := ent s) (show (ent s).at B = _ from hI.vb.here) hwe (by omega) (by rw [List.length_map]; omega) rfl fun s2 p2 => ?_
    refine ⟨p2.keeps (fun x hx => ?_), ?_⟩
    · simp only [List.mem_cons, List.not_mem_nil, or_false] at hx
      subst hx
      intro y e
      cases e
      exact hXB
    have hA2 : s2.at A = some (.cells (c.1.map (.int .u64)) 38 false) := (p2.rest A hI.ab).trans hI.vv.here
    rw [hixA, wopt_some]
    refine store1_rule isz_38 hA2 p2.wf (by omega) (by rw [List.length_map]; omega) rfl fun s3 p3 => ?_
    have n2 := p2.n
    have n3 := p3.n
    have l2 := p2.lo
    have l3 := p3.lo
    have hel : (ent s).lo = s.n := rfl
    rw [wfin_old (by omega)]
    have rest : ∀ C, C ≠ A → C ≠ B → s3.at C = s.at C := fun C hC hC2 => (p3.rest C hC).trans (p2.rest C hC2)
    have gr : Grew s0 { s3 with lo := min s.lo s3.lo } := ⟨by show s0.n ≤ s3.n; omega, by show min s.lo s3.lo = s0.lo; omega, fun C hC => (rest C (by omega) (by omega)).trans (hI.vv.grew.same C hC), fun _ => p3.wf.len⟩
    have wf : Wf { s3 with lo := min s.lo s3.lo } := ⟨by show min s.lo s3.lo ≤ s3.n; omega, p3.wf.len⟩
    have e1 : splice (c.1.map (Value.int .u64)) w.toNat [.int .u64 x] = (c.1.set w.toNat x).map (.int .u64) := map_splice _ _ _ _ (by omega)
    have e2 : splice (c.2.map Value.bool) w.toNat [.bool true] = (c.2.set w.toNat true).map .bool := map_splice _ _ _ _ (by omega)
    refine hk _ ⟨⟨?_, hI.vv.new, wf, gr⟩, ⟨?_, hI.vb.new, wf, gr⟩, (rest G hI.ga hI.gb).trans hI.gat, by rw [setV, List.length_set]; exact hl1, by rw [setV, List.length_set]; exact hl2, hI.w0, hI.ro, hI.rows, hI.ga, hI.gb, hI.ab, nn_set hI.nn hx⟩ rest (by show s3.n = s.n; omega)
    · show s3.at A = _
      rw [p3.here, e1]; rfl
    · show s3.at B = _
      rw [p3.rest B (Ne.symm hI.ab), p2.here, e2]; rfl
  · rw [if_neg hb] at hk ⊢
    rw [wfin_flat (Nat.le_refl _) rfl]
    exact hk s hI (fun _ _ _ => rfl) rfl
end
end Go.VE
/- The program's gates: the rows of Run. -/
namespace Go.VE
open Go Go.Proofs
set_option maxRecDepth 20000
structure RgI (ro : Nat) (g : Gp) (ur : Value) (s0 : St) (G A B X Y : Nat) (s : St) (c : List Int × List Bool) : Prop where
  run : RunI ro g ur s0 G A B s c
  x : s.at X = some (.cells [slc A g.nv.toNat] 25 false)
  y : s.at Y = some (.cells [slc B g.nv.toNat] 52 false)
  xa : X ≠ A
  xb : X ≠ B
  ya : Y ≠ A
  yb : Y ≠ B
def clo (X Y : Nat) : Value := .func (.func 28) (.mk []) (.mk [ptr Y, ptr X])
structure Kp (τ τ' : Tau) : Prop where
  a3 : τ' 3 = τ 3
  a9 : τ' 9 = τ 9
  a10 : τ' 10 = τ 10
  a12 : τ' 12 = τ 12
  a79 : τ' 79 = τ 79
  a80 : τ' 80 = τ 80
  a81 : τ' 81 = τ 81
theorem Kp.refl (τ : Tau) : Kp τ τ := ⟨rfl, rfl, rfl, rfl, rfl, rfl, rfl⟩
theorem Kp.trans {a b c : Tau} (h : Kp a b) (k : Kp b c) : Kp a c := ⟨k.a3.trans h.a3, k.a9.trans h.a9, k.a10.trans h.a10, k.a12.trans h.a12, k.a79.trans h.a79, k.a80.trans h.a80, k.a81.trans h.a81⟩
section
variable {ro : Nat} {K : Value → St → Prop} {g : Gp} {ur : Value} {s0 : St} {G A B X Y : Nat} {s : St} {c : List Int × List Bool}
theorem RgI.grew (h : RgI ro g ur s0 G A B X Y s c) {s' : St} (hg : Grew s s') : RgI ro g ur s0 G A B X Y s' c :=
  ⟨h.run.grew hg, (hg.same X (St.at_lt h.x)).trans h.x, (hg.same Y (St.at_lt h.y)).trans h.y, h.xa, h.xb, h.ya, h.yb⟩
theorem RgI.set (h : RgI ro g ur s0 G A B X Y s c) {w : Int} (h0 : 0 ≤ w) (h1 : w < g.nv) {x : Int} (hx : 0 ≤ x)
    (hk : ∀ s', RgI ro g ur s0 G A B X Y s' (setIf w x c) → (∀ C, C ≠ A → C ≠ B → s'.at C = s.at C) → K (.tuple (.mk [])) s') :
    xcallv (prims P ro) (clo X Y) [.int .i64 w, .int .u64 x] s K := by
  unfold clo
  rw [xcallv_fn]
  show CallWP P ro 28 [.int .i64 w, .int .u64 x, ptr Y, ptr X] s K
  exact wSet h.run h.x h.y h.xa h.xb h0 h1 hx fun s' hr rest _ => hk s' ⟨hr, (rest X h.xa h.xb).trans h.x, (rest Y h.ya h.yb).trans h.y, h.xa, h.xb, h.ya, h.yb⟩ rest
theorem rgNext (hL : Limits g) (hI : RgI ro g ur s0 G A B X Y s c) {i : Nat} (hi : i < g.rows.length) (h3 : (rowAt g.rows i).k = 3) {q : List Int} (hq : q.length = 4) (hqn : ∀ x ∈ q, 0 ≤ x)
    {τ : Tau} {ds : List Deferred} {Kr kx : WK} (t3 : τ 3 = ptr G) (t12 : τ 12 = clo X Y) (t13 : τ 13 = .int .i64 i) (t94 : τ 94 = .agg (.mk (u4 q))) (t95 : τ 95 = .int .i64 0)
    (hk : ∀ τ' s', Kp τ τ' → RgI ro g ur s0 G A B X Y s' (it (runN q (rowAt g.rows (i + 1))) 4 c) → kx τ' ds s') :
    WLoop P ro 160 none c13_11111111010011001010100 τ ds s Kr [(5, kx)] := by
  have hn := hL.next hi h3
  have hrl := hL.2.2.2.2.2.2.2.1
  refine wloop l13_11111111010011001010100 m13_11111111010011001010100 (fun (k : Nat) τ' ds' s' => k ≤ 4 ∧ Kp τ τ' ∧ τ' 13 = .int .i64 i ∧ τ' 94 = .agg (.mk (u4 q)) ∧ τ' 95 = .int .i64 k ∧ ds' = ds ∧ RgI ro g ur s0 G A B X Y s' (it (runN q (rowAt g.rows (i + 1))) k c)) (fun k => 4 - k) ?_ 0 ⟨by omega, .refl _, t13, t94, t95, rfl, hI⟩
  rintro k τ' ds' s' ⟨hk4', kp, a13, a94, a95, rfl, hI'⟩
  rw [n13_11111111010011001010100]
  unfold v13_11111111010011001010100
  have a3 := kp.a3.trans t3
  have a12 := kp.a12.trans t12
  by_cases hk4 : k < 4
  · have hx := hn.2 k hk4
    obtain ⟨A2, o2, c2, y1, y2⟩ := hI'.run.rs.ix (rowAt_get hn.1)
    have hiw : IntKind.i64.wrap ((i : Int) + 1) = ((i + 1 : Nat) : Int) := by rw [wrap_i64 (by omega) (by omega)]; rfl
    have hkw : IntKind.i64.wrap ((k : Int) + 1) = ((k + 1 : Nat) : Int) := by rw [wrap_i64 (by omega) (by omega)]; rfl
    have hwk := y2.wire hk4
    simp (maxSteps := 10000000) only [wW, reduceCtorEq, Nat.reduceEqDiff, wL, Nat.reduceAdd, a3, a12, a13, a94, a95, hI'.run.gc, hiw, y1, y2.blk, wix _ _ hk4, aiU hq hk4, hwk]
    rw [if_pos (by omega)]
    refine hI'.set hx.1 hx.2 (at0_nn hqn _) fun s2 hI2 _ => ?_
    rw [hkw]
    refine ⟨k + 1, by omega, by omega, ?_, ?_, ?_, ?_, trivial, hI2⟩
    · refine kp.trans ⟨?_, ?_, ?_, ?_, ?_, ?_, ?_⟩ <;> simp only [U, tset_eq, wW, reduceCtorEq, Nat.reduceEqDiff, a3, a12]
    · simp only [U, tset_eq, wW, reduceCtorEq, Nat.reduceEqDiff, a13]
    · simp only [U, tset_eq, wW, reduceCtorEq, Nat.reduceEqDiff, a94]
    · simp only [U, tset_eq, wW, reduceCtorEq, Nat.reduceEqDiff]
  · obtain rfl : k = 4 := by omega
    simp (maxSteps := 10000000) only [wW, reduceCtorEq, Nat.reduceEqDiff, a95]
    rw [if_neg (by omega)]
    refine hk _ _ (kp.trans ⟨?_, ?_, ?_, ?_, ?_, ?_, ?_⟩) hI' <;> simp only [U, tset_eq, wW, reduceCtorEq, Nat.reduceEqDiff]
theorem rgArith (hL : Limits g) (hF : FieldsAt s0) (hI : RgI ro g ur s0 G A B X Y s c) {i : Nat} (hi : i < g.rows.length) (hfit : RowFit g.nv.toNat (rowAt g.rows i)) (hk1 : (rowAt g.rows i).qo ≠ 0 → (rowAt g.rows i).k = 1) {R : Nat} (hR : s.at R = some (.cells (rowAt g.rows i).cells 43 false))
    {τ : Tau} {ds : List Deferred} {Qe : Ex → XK} (t3 : τ 3 = ptr G) (t9 : τ 9 = ptr X) (t12 : τ 12 = clo X Y) (t14 : τ 14 = ptr R)
    {b : Bool} (t112 : τ 112 = .bool b) (hb : b = true ↔ (rowAt g.rows i).qo ≠ 0 ∧ atB c.2 (rowAt g.rows i).w2 = false)
    (hk : ∀ al s', Kp τ (U τ al) → RgI ro g ur s0 G A B X Y s' (runA g.f (rowAt g.rows i) c) → Qe .normal τ al ds s') :
    xp (prims P ro) none 160 k13_111111110100 c13_111111110100110010111 [1, 1, 1, 0, 1, 0, 0, 1, 1] τ [] ds s Qe := by
  rw [n13_111111110100110010111]
  unfold v13_111111110100110010111
  have hRc : acells (s.at R) = some (rowAt g.rows i).cells := acells_some hR
  rw [t112, t3, t9, t12, t14]
  have hXc := acells_some hI.x
  have hF1 : FieldsAt s := FieldsAt.grew hF hI.run.vv.grew
  have hgn := hI.run.vv.grew.n
  have hro := hI.run.ro
  have hl1 := hI.run.l1
  have hvs : veq (slc A g.nv.toNat) (slc A g.nv.toNat) = true := by simp [veq]
  have hi1 : ∀ z : Int, veq (.int .u64 z) (.int .u64 z) = true := fun z => by simp [veq]
  have hi2 : ∀ z : Int, veq (.int .i64 z) (.int .i64 z) = true := fun z => by simp [veq]
  simp (maxSteps := 10000000) only [wW, reduceCtorEq, Nat.reduceEqDiff, wL, Nat.reduceAdd, hRc, hI.run.gc, hXc, load1 ap_25, List.getElem?_cons_zero, hvs, hi1, hi2, rcVeq, true_and]
  by_cases hbt : b = true
  · rw [if_pos hbt]
    have hc := hb.1 hbt
    have k1 := hk1 hc.1
    have hw2 : 0 ≤ (rowAt g.rows i).w2 ∧ (rowAt g.rows i).w2 < g.nv := hL.reads hi (rds_2 k1 hc.1)
    have hs0 : 0 ≤ sumM g.f (rowAt g.rows i) c.1 := (fAdd_bounds _ _ _).1
    have hd0 : 0 ≤ fDiv g.f (sumM g.f (rowAt g.rows i) c.1) (rowAt g.rows i).qo := (fMul_bounds _ _ _).1
    have hn0 : 0 ≤ fNeg g.f (fDiv g.f (sumM g.f (rowAt g.rows i) c.1) (rowAt g.rows i).qo) := (fSub_bounds _ _ _).1
    show CallWP P ro 32 [.int .i64 g.f, .agg (.mk (rowAt g.rows i).cells), slc A g.nv.toNat] s _
    rw [wTotal g.f k1 hfit.nn hI.run.sl hI.run.nn (fun hq => by have := hfit.a k1 hq; rw [hl1]; exact this) (fun hq => by have := hfit.b k1 hq; rw [hl1]; exact this) hI.run.vv.wf (by omega) hF1]
    refine ⟨.refl _, ?_⟩
    rw [wfDiv g.f hs0 hfit.nn.qo hI.run.vv.wf (by omega) hF1]
    refine ⟨.refl _, ?_⟩
    rw [wfNeg g.f hd0 hI.run.vv.wf (by omega) hF1]
    refine ⟨.refl _, ?_⟩
    refine hI.set hw2.1 hw2.2 hn0 fun s2 hI2 _ => ?_
    refine hk _ _ ?_ ?_
    · constructor <;> simp only [U, tset_eq, wW, reduceCtorEq, Nat.reduceEqDiff, t3, t9, t12]
    · unfold runA
      rw [if_pos ⟨k1, hc.1, hc.2⟩]
      unfold setIf at hI2
      rw [if_pos hc.2] at hI2
      exact hI2
  · rw [if_neg hbt]
    refine hk _ _ ?_ ?_
    · constructor <;> simp only [U, tset_eq, wW, reduceCtorEq, Nat.reduceEqDiff]
    · unfold runA
      rw [if_neg (fun h => hbt (hb.2 ⟨h.2.1, h.2.2⟩))]
      exact hI
end
end Go.VE
/- The program's gates: Run's loops. -/
namespace Go.VE
open Go Go.Proofs
set_option maxRecDepth 20000
section
variable {ro : Nat} {K : Value → St → Prop} {g : Gp} {ur : Value} {G A B X Y : Nat}
theorem rgOk {s s2 : St} (hL : Limits g) (hnn : ∀ r ∈ g.rows, r.Nn) (hw : Wf s) (hF : FieldsAt s) (hr0 : 0 < ro) (hlen : g.rows.length < 2 ^ 60) {c : List Int × List Bool} (hI : RgI ro g ur (ent s) G A B X Y s2 c)
    (h1 : ∀ v s', Grew s s' → U64s s' v c.1 → K (.tuple (.mk [v, .bool (okM g c.1 g.rows.length), .int .i64 0])) s')
    {τ : Tau} {Kr : WK} (t3 : τ 3 = ptr G) (t9 : τ 9 = ptr X) (t17 : τ 17 = .bool true) (t146 : τ 146 = .int .i64 g.rows.length) (t147 : τ 147 = .int .i64 0) :
    WLoop P ro 160 none c13_11111111110100 τ [] s2 Kr
      [(7, fun τ50 ds50 s50 => wopt (aload P s50 25 (τ50 9)) fun v => wdefers P ro ds50 s50 fun s52 => wfin s K (Value.tuple { toList := [v, τ50 17, Value.int IntKind.i64 0] }) s52)] := by
  have hrl := hL.2.2.2.2.2.2.2.1
  refine wloop l13_11111111110100 m13_11111111110100 (fun (i : Nat) τ ds s' => i ≤ g.rows.length ∧ τ 3 = ptr G ∧ τ 9 = ptr X ∧ τ 17 = .bool (okM g c.1 i) ∧ τ 146 = .int .i64 g.rows.length ∧ τ 147 = .int .i64 i ∧ ds = [] ∧ s2 = s') (fun i => g.rows.length - i) ?_ 0 ⟨by omega, t3, t9, t17, t146, t147, rfl, rfl⟩
  clear t3 t9 t17 t146 t147
  rintro i τ ds s' ⟨hi, t3, t9, t17, t146, t147, rfl, rfl⟩
  rw [n13_11111111110100]
  unfold v13_11111111110100
  have hXc := acells_some hI.x
  have hRun := hI.run
  by_cases hlt : i < g.rows.length
  · have hl1 := hRun.l1
    have hfit := hL.fit hlt (hnn _ (List.mem_of_getElem? (rowAt_get hlt)))
    have hF2 : FieldsAt s2 := FieldsAt.grew (s := ent s) hF hRun.vv.grew
    have hgn := hRun.vv.grew.n
    have hro := hRun.ro
    simp (maxSteps := 10000000) only [wW, reduceCtorEq, Nat.reduceEqDiff, wL, Nat.reduceAdd, t3, t9, t17, t146, t147, hRun.gc, load1 ap_25, hXc, List.getElem?_cons_zero]
    rw [if_pos (by omega)]
    have hkw : IntKind.i64.wrap ((i : Int) + 1) = ((i + 1 : Nat) : Int) := by rw [wrap_i64 (by omega) (by omega)]; rfl
    cases hok : okM g c.1 i with
    | true =>
      rw [if_pos rfl]
      show CallWP P ro 23 [.agg (.mk (g.cells ur)), slc A g.nv.toNat, .int .i64 i] s2 _
      rw [wGholds g hL.1 hRun.vv.wf (by omega) hF2 hr0 hRun.rs hRun.sl hRun.nn (rowAt_get hlt) hlen (by rw [hl1]; exact hfit) (fun h3 => ⟨(hL.next hlt h3).1, fun k hk4 => by have := (hL.next hlt h3).2 k hk4; rw [nxt_eq]; omega⟩), hkw]
      refine ⟨i + 1, by omega, by omega, ?_, ?_, ?_, ?_, ?_, by first | trivial | rfl, by first | trivial | rfl⟩
      · simp only [U, tset_eq, wW, reduceCtorEq, Nat.reduceEqDiff, t3]
      · simp only [U, tset_eq, wW, reduceCtorEq, Nat.reduceEqDiff, t9]
      · simp only [U, tset_eq, wW, reduceCtorEq, Nat.reduceEqDiff]
        rw [okM, hok, Bool.true_and, nxt_eq]
      · simp only [U, tset_eq, wW, reduceCtorEq, Nat.reduceEqDiff, t146]
      · simp only [U, tset_eq, wW, reduceCtorEq, Nat.reduceEqDiff]
    | false =>
      rw [if_neg (by decide), hkw]
      refine ⟨i + 1, by omega, by omega, ?_, ?_, ?_, ?_, ?_, by first | trivial | rfl, by first | trivial | rfl⟩
      · simp only [U, tset_eq, wW, reduceCtorEq, Nat.reduceEqDiff, t3]
      · simp only [U, tset_eq, wW, reduceCtorEq, Nat.reduceEqDiff, t9]
      · simp only [U, tset_eq, wW, reduceCtorEq, Nat.reduceEqDiff]
        rw [okM, hok, Bool.false_and]
      · simp only [U, tset_eq, wW, reduceCtorEq, Nat.reduceEqDiff, t146]
      · simp only [U, tset_eq, wW, reduceCtorEq, Nat.reduceEqDiff]
  · obtain rfl : i = g.rows.length := by omega
    simp (maxSteps := 10000000) only [wW, reduceCtorEq, Nat.reduceEqDiff, t146, t147]
    rw [if_neg (by omega)]
    simp (maxSteps := 10000000) only [U, tset_eq, wW, reduceCtorEq, Nat.reduceEqDiff, t9, t17, load1 ap_25, hXc, List.getElem?_cons_zero]
    exact wfin_new hw hRun.vv.grew rfl fun s9 hg9 _ hat => h1 _ s9 hg9 (Sl.sameAt hRun.sl fun C o sp n cc e => hat C)
theorem rgRows {s s2 : St} (hL : Limits g) (hnn : ∀ r ∈ g.rows, r.Nn) (hw : Wf s) (hF : FieldsAt s) (hr0 : 0 < ro) (hlen : g.rows.length < 2 ^ 60) (hr : RowsS s ur g.rows) {c0 : List Int × List Bool} (hI : RgI ro g ur (ent s) G A B X Y s2 c0)
    (h1 : ∀ v s', Grew s s' → U64s s' v (it (runR g) g.rows.length c0).1 → K (.tuple (.mk [v, .bool (okM g (it (runR g) g.rows.length c0).1 g.rows.length), .int .i64 0])) s')
    {τ : Tau} {Kr Kr2 : WK} (t3 : τ 3 = ptr G) (t9 : τ 9 = ptr X) (t10 : τ 10 = ptr Y) (t12 : τ 12 = clo X Y) (t79 : τ 79 = ur) (t80 : τ 80 = .int .i64 g.rows.length) (t81 : τ 81 = .int .i64 0) :
    WLoop P ro 160 none c13_111111110100 τ [] s2 Kr
      [(2, fun τ46 ds46 s46 =>
          wopt (afieldAddr P 24 (τ46 3) 4) fun v =>
            wopt (aload P s46 22 v) fun v_2 =>
              wop P ro (Op.call { callee := Callee.builtin Builtin.len, args := { toList := [Operand.const v_2] }, argTypes := #[22] }) 3 s46 fun v146_49 s49 =>
                WLoop P ro 160 none c13_11111111110100 (U τ46 [(147, Value.int IntKind.i64 0), (146, v146_49), (145, v_2), (144, v), (17, Value.bool true)]) ds46 s49 Kr2
                  [(7, fun τ50 ds50 s50 => wopt (aload P s50 25 (τ50 9)) fun v => wdefers P ro ds50 s50 fun s52 => wfin s K (Value.tuple { toList := [v, τ50 17, Value.int IntKind.i64 0] }) s52)]),
        (5, fun _ _ _ => False)] := by
  have hrl := hL.2.2.2.2.2.2.2.1
  have hgl : ∀ s' K, wop P ro (.call ⟨.builtin .len, ⟨[.const ur]⟩, #[22]⟩) 3 s' K = K (.int .i64 (g.rows.length : Nat)) s' := fun s' K => Sl.wlen hr se_22 _ K
  refine wloop l13_111111110100 m13_111111110100 (fun (i : Nat) τ ds s' => i ≤ g.rows.length ∧ τ 3 = ptr G ∧ τ 9 = ptr X ∧ τ 10 = ptr Y ∧ τ 12 = clo X Y ∧ τ 79 = ur ∧ τ 80 = .int .i64 g.rows.length ∧ τ 81 = .int .i64 i ∧ ds = [] ∧ RgI ro g ur (ent s) G A B X Y s' (it (runR g) i c0)) (fun i => g.rows.length - i) ?_ 0 ⟨by omega, t3, t9, t10, t12, t79, t80, t81, rfl, hI⟩
  clear t3 t9 t10 t12 t79 t80 t81 hI
  rintro i τ ds s' ⟨hi, t3, t9, t10, t12, t79, t80, t81, rfl, hI⟩
  rw [n13_111111110100]
  unfold v13_111111110100
  by_cases hlt : i < g.rows.length
  · obtain ⟨A5, o5, c5, q1, q2⟩ := hI.run.rs.ix (rowAt_get hlt)
    simp (maxSteps := 10000000) only [wW, reduceCtorEq, Nat.reduceEqDiff, wL, Nat.reduceAdd, t3, t79, t80, t81, q1, q2.blk, q2.all]
    rw [if_pos (by omega)]
    refine alloc_rule ty_43 hI.run.vv.wf fun R s4 m4 => ?_
    have e4 := m4.eq
    have n4 := m4.n
    have gn := hI.run.vv.grew.n
    have hA4 := St.at_lt hI.run.vv.here
    have hB4 := St.at_lt hI.run.vb.here
    have hG4 := St.at_lt hI.run.gat
    have hX4 := St.at_lt hI.x
    have hY4 := St.at_lt hI.y
    have hI4 := hI.grew m4.grew
    refine storeAll_rule isz_43 m4.here (l := (rowAt g.rows i).cells) rfl (by decide) m4.wf (by have := hI.run.ro; omega) rfl rfl fun s5 p5 => ?_
    have g5 := p5.grew _ hI.run.w0 hI4.run.vv.grew (by omega)
    have hI5 : RgI ro g ur (ent s) G A B X Y s5 (it (runR g) i c0) := ⟨⟨⟨(p5.rest A (by omega)).trans hI4.run.vv.here, hI.run.vv.new, p5.wf, g5⟩, ⟨(p5.rest B (by omega)).trans hI4.run.vb.here, hI.run.vb.new, p5.wf, g5⟩, (p5.rest G (by omega)).trans hI4.run.gat, hI.run.l1, hI.run.l2, hI.run.w0, hI.run.ro, hI.run.rows, hI.run.ga, hI.run.gb, hI.run.ab, hI.run.nn⟩, (p5.rest X (by omega)).trans hI4.x, (p5.rest Y (by omega)).trans hI4.y, hI.xa, hI.xb, hI.ya, hI.yb⟩
    have hR5 : s5.at R = some (.cells (rowAt g.rows i).cells 43 false) := p5.here
    have hRc := acells_some hR5
    have hfit := hL.fit hlt (hnn _ (List.mem_of_getElem? (rowAt_get hlt)))
    have hqo : (rowAt g.rows i).qo ≠ 0 → (rowAt g.rows i).k = 1 := fun h => Decidable.byContradiction fun h1 => h (((hL.row hlt).1.2.2.2.2.1 _ (by simp [Row.qs])).2 h1)
    have hF5 : FieldsAt s5 := FieldsAt.grew (s := ent s) hF hI5.run.vv.grew
    have n5 := p5.n
    have hro := hI.run.ro
    have hkw : IntKind.i64.wrap ((i : Int) + 1) = ((i + 1 : Nat) : Int) := by rw [wrap_i64 (by omega) (by omega)]; rfl
    have hXc := acells_some hI5.x
    have hYc := acells_some hI5.y
    have hnext : ∀ {τ2 : Tau} {s6 : St}, Kp τ τ2 → RgI ro g ur (ent s) G A B X Y s6 (runB g.f (rowAt g.rows i) (rowAt g.rows (i + 1)) (runA g.f (rowAt g.rows i) (it (runR g) i c0))) → ∀ al : AL, U τ2 al 3 = τ2 3 → U τ2 al 9 = τ2 9 → U τ2 al 10 = τ2 10 → U τ2 al 12 = τ2 12 → U τ2 al 79 = τ2 79 → U τ2 al 80 = τ2 80 → U τ2 al 81 = .int .i64 ((i + 1 : Nat) : Int) →
        ∃ y, g.rows.length - y < g.rows.length - i ∧ y ≤ g.rows.length ∧ U τ2 al 3 = ptr G ∧ U τ2 al 9 = ptr X ∧ U τ2 al 10 = ptr Y ∧ U τ2 al 12 = clo X Y ∧ U τ2 al 79 = ur ∧ U τ2 al 80 = .int .i64 g.rows.length ∧ U τ2 al 81 = .int .i64 (y : Nat) ∧ RgI ro g ur (ent s) G A B X Y s6 (it (runR g) y c0) := fun {τ2 s6} kp h al b3 b9 b10 b12 b79 b80 b81 =>
      ⟨i + 1, by omega, by omega, b3.trans (kp.a3.trans t3), b9.trans (kp.a9.trans t9), b10.trans (kp.a10.trans t10), b12.trans (kp.a12.trans t12), b79.trans (kp.a79.trans t79), b80.trans (kp.a80.trans t80), b81, h⟩
    simp (maxSteps := 10000000) only [wW, reduceCtorEq, Nat.reduceEqDiff, wL, Nat.reduceAdd, t3, t9, t10, hRc, hI5.run.gc, hXc, hYc, load1 ap_25, load1 ap_52, load1 ap_4, List.getElem?_cons_zero]
    generalize hc : it (runR g) i c0 = c at hI5 hnext
    by_cases k3 : (rowAt g.rows i).k = 3
    · rw [if_pos k3]
      have hx := hfit.round k3
      show CallWP P ro 29 [.int .i64 g.f, .agg (.mk (rowAt g.rows i).cells), slc A g.nv.toNat] s5 _
      rw [wTurned g.f hL.1 hx.1 p5.wf (by omega) hF5 hr0 hI5.run.sl hI5.run.nn (fun k hk4 => by have := hx.2 k hk4; have := hI5.run.l1; omega)]
      have hA : runA g.f (rowAt g.rows i) c = c := by unfold runA; rw [if_neg (fun h => by have := h.1; omega)]
      rw [hA] at hnext
      unfold runB at hnext
      rw [if_pos k3] at hnext
      have hl2 := roundM_len g.f (rowAt g.rows i).rd (wv c.1 (rowAt g.rows i))
      have hn2 := roundM_nn g.f (rowAt g.rows i).rd (wv c.1 (rowAt g.rows i))
      generalize roundM g.f (rowAt g.rows i).rd (wv c.1 (rowAt g.rows i)) = q at hl2 hn2 hnext ⊢
      refine rgNext hL hI5 hlt k3 hl2 hn2 ?_ ?_ ?_ ?_ ?_ fun τ3 s6 kp hI6 => ?_
      · simp only [U, tset_eq, wW, reduceCtorEq, Nat.reduceEqDiff, t3]
      · simp only [U, tset_eq, wW, reduceCtorEq, Nat.reduceEqDiff, t12]
      · simp only [U, tset_eq, wW, reduceCtorEq, Nat.reduceEqDiff]
      · simp only [U, tset_eq, wW, reduceCtorEq, Nat.reduceEqDiff]
      · simp only [U, tset_eq, wW, reduceCtorEq, Nat.reduceEqDiff]
      · have kp' : Kp τ τ3 := by
          refine Kp.trans ?_ kp
          constructor <;> simp only [U, tset_eq, wW, reduceCtorEq, Nat.reduceEqDiff]
        have a81 := kp'.a81.trans t81
        simp (maxSteps := 10000000) only [wW, reduceCtorEq, Nat.reduceEqDiff, a81, hkw]
        obtain ⟨y, b1, b2, b3, b9, b10, b12, b79, b80, b81, bI⟩ := hnext kp' hI6 [(81, Value.int IntKind.i64 ((i + 1 : Nat) : Int)), (143, Value.int IntKind.i64 ((i + 1 : Nat) : Int))] rfl rfl rfl rfl rfl rfl rfl
        exact ⟨y, b1, b2, b3, b9, b10, b12, b79, b80, b81, by first | trivial | rfl, bI⟩
    · rw [if_neg k3]
      unfold runB at hnext
      rw [if_neg k3] at hnext
      have row : ∀ {b : Bool} {τ2 : Tau} {Q : Ex → WK}, τ2 112 = .bool b → (b = true ↔ (rowAt g.rows i).qo ≠ 0 ∧ atB c.2 (rowAt g.rows i).w2 = false) → Kp τ τ2 → τ2 14 = ptr R →
          (∀ τ' s', (∃ y, g.rows.length - y < g.rows.length - i ∧ y ≤ g.rows.length ∧ τ' 3 = ptr G ∧ τ' 9 = ptr X ∧ τ' 10 = ptr Y ∧ τ' 12 = clo X Y ∧ τ' 79 = ur ∧ τ' 80 = .int .i64 g.rows.length ∧ τ' 81 = .int .i64 (y : Nat) ∧ ([] : List Deferred) = [] ∧ RgI ro g ur (ent s) G A B X Y s' (it (runR g) y c0)) → Q .normal τ' [] s') →
          xp (prims P ro) none 160 k13_111111110100 c13_111111110100110010111 [1, 1, 1, 0, 1, 0, 0, 1, 1] τ2 [] [] s5 (blkX 4 (blkX 3 (sX (prims P ro) none 160 k13_111111110100 c13_111111110100111 [1, 1, 1] (lift Q)))) := fun {b τ2 Q} h112 hb kp h14 hQ => by
        refine rgArith hL (s0 := ent s) hF hI5 hlt hfit hqo hR5 (kp.a3.trans t3) (kp.a9.trans t9) (kp.a12.trans t12) h14 h112 hb fun al s6 kp2 hI6 => ?_
        have kp3 := kp.trans kp2
        have a81 := kp3.a81.trans t81
        rw [blkX_n, blkX_n, sX_n (.lift _), n13_111111110100111]
        unfold v13_111111110100111
        rw [a81]
        simp (maxSteps := 10000000) only [wW, reduceCtorEq, Nat.reduceEqDiff, hkw]
        unfold lift
        obtain ⟨y, b1, b2, b3, b9, b10, b12, b79, b80, b81, bI⟩ := hnext kp3 hI6 [(81, Value.int IntKind.i64 ((i + 1 : Nat) : Int)), (143, Value.int IntKind.i64 ((i + 1 : Nat) : Int))] rfl rfl rfl rfl rfl rfl rfl
        exact hQ _ _ ⟨y, b1, b2, b3, b9, b10, b12, b79, b80, b81, rfl, bI⟩
      by_cases kq : (rowAt g.rows i).qo = 0
      · rw [if_neg (by simpa using kq)]
        refine row (b := false) ?_ ⟨fun h => (by cases h), fun h => absurd kq h.1⟩ ?_ ?_ (fun _ _ h => h)
        · simp only [U, tset_eq, wW, reduceCtorEq, Nat.reduceEqDiff]
        · constructor <;> simp only [U, tset_eq, wW, reduceCtorEq, Nat.reduceEqDiff]
        · simp only [U, tset_eq, wW, reduceCtorEq, Nat.reduceEqDiff]
      · rw [if_pos kq]
        have hw2 : 0 ≤ (rowAt g.rows i).w2 ∧ (rowAt g.rows i).w2 < g.nv := hL.reads hlt (rds_2 (hqo kq) kq)
        have hixB := ixc se_52 isz_4 (A := B) (n := g.nv.toNat) (c := g.nv.toNat) (i := (rowAt g.rows i).w2) hw2.1 (by omega)
        have hgt := hI5.run.getB hw2.1 hw2.2
        rw [hixB, wopt_some, load1 ap_4, hI5.run.bc, Option.bind_some, hgt, wopt_some, wop_not]
        refine row (b := !(atB c.2 (rowAt g.rows i).w2)) ?_ ⟨fun h => ⟨kq, by simpa using h⟩, fun h => by simpa using h.2⟩ ?_ ?_ (fun _ _ h => h)
        · simp only [U, tset_eq, wW, reduceCtorEq, Nat.reduceEqDiff]
        · constructor <;> simp only [U, tset_eq, wW, reduceCtorEq, Nat.reduceEqDiff]
        · simp only [U, tset_eq, wW, reduceCtorEq, Nat.reduceEqDiff]
  · obtain rfl : i = g.rows.length := by omega
    simp (maxSteps := 10000000) only [wW, reduceCtorEq, Nat.reduceEqDiff, t80, t81]
    rw [if_neg (by omega)]
    simp (maxSteps := 10000000) only [U, tset_eq, wW, reduceCtorEq, Nat.reduceEqDiff, wL, Nat.reduceAdd, t3, hI.run.gc, hgl]
    refine rgOk hL hnn hw hF hr0 hlen hI h1 ?_ ?_ ?_ ?_ ?_
    · simp only [tset_eq, wW, reduceCtorEq, Nat.reduceEqDiff, t3]
    · simp only [tset_eq, wW, reduceCtorEq, Nat.reduceEqDiff, t9]
    · simp only [tset_eq, wW, reduceCtorEq, Nat.reduceEqDiff]
    · simp only [tset_eq, wW, reduceCtorEq, Nat.reduceEqDiff]
    · simp only [tset_eq, wW, reduceCtorEq, Nat.reduceEqDiff]
end
end Go.VE
/- The program's gates: Run. -/
namespace Go.VE
open Go Go.Proofs
set_option maxRecDepth 20000
theorem rep_set {α : Type} {x z : α} {N i : Nat} (hi : i < N) : (List.replicate i x ++ List.replicate (N - i) z).set i x = List.replicate (i + 1) x ++ List.replicate (N - (i + 1)) z := by
  rw [List.set_append_right _ _ (by simp), List.length_replicate, Nat.sub_self, show N - i = (N - (i + 1)) + 1 by omega, List.replicate_succ, List.set_cons_zero, List.replicate_succ', List.append_assoc]
  rfl
theorem cp_first {p : List Int} {N : Nat} (h : p.length ≤ N) : (List.replicate N (0 : Int)).take 0 ++ p.take (min p.length N) ++ (List.replicate N (0 : Int)).drop (0 + min p.length N) = p ++ List.replicate (N - p.length) 0 := by
  rw [List.take_zero, List.nil_append, Nat.min_eq_left h, List.take_length, Nat.zero_add, List.drop_replicate]
theorem cp_second {p q : List Int} {N : Nat} (h : p.length + q.length ≤ N) : (p ++ List.replicate (N - p.length) (0 : Int)).take p.length ++ q.take (min q.length (N - p.length)) ++ (p ++ List.replicate (N - p.length) (0 : Int)).drop (p.length + min q.length (N - p.length)) = p ++ q ++ List.replicate (N - (p.length + q.length)) 0 := by
  rw [List.take_left' rfl, Nat.min_eq_left (by omega), List.take_length, List.drop_append, List.drop_of_length_le (by omega), List.nil_append, List.drop_replicate]
  congr 2
  omega
def c0 (g : Gp) (pub sec : List Int) : List Int × List Bool := (pub ++ sec ++ List.replicate (g.nv.toNat - (pub.length + sec.length)) 0, List.replicate (pub.length + sec.length) true ++ List.replicate (g.nv.toNat - (pub.length + sec.length)) false)
theorem runI_get {pub sec : List Int} {N : Nat} (hN : pub.length + sec.length ≤ N) : ∀ {k : Nat}, k ≤ pub.length + sec.length →
    it (runI pub sec) k (List.replicate N 0, List.replicate N false) = ((pub ++ sec).take k ++ List.replicate (N - k) 0, List.replicate k true ++ List.replicate (N - k) false)
  | 0, _ => by rw [it, List.take_zero, List.nil_append]; rfl
  | k + 1, hk => by
    rw [it, runI_get hN (by omega), runI, setV, Int.toNat_natCast, rep_set (by omega)]
    have hl : k < (pub ++ sec).length := by rw [List.length_append]; omega
    have e : inp pub sec k = (pub ++ sec)[k] := by
      unfold inp
      by_cases h : k < pub.length
      · rw [if_pos h, List.getElem_append_left h]
        have := at0_get (l := pub) (i := (k : Int)) (by omega) (by omega)
        rw [Int.toNat_natCast, List.getElem?_eq_getElem h] at this
        exact (Option.some.inj this).symm
      · rw [if_neg h, List.getElem_append_right (by omega)]
        have := at0_get (l := sec) (i := (k : Int) - pub.length) (by omega) (by omega)
        rw [show ((k : Int) - pub.length).toNat = k - pub.length by omega, List.getElem?_eq_getElem (by omega)] at this
        exact (Option.some.inj this).symm
    have e2 : ((pub ++ sec).take k ++ List.replicate (N - k) 0).set k (inp pub sec k) = (pub ++ sec).take (k + 1) ++ List.replicate (N - (k + 1)) 0 := by
      have ht : ((pub ++ sec).take k).length = k := by rw [List.length_take]; omega
      rw [List.set_append_right _ _ (by omega), ht, Nat.sub_self, show N - k = (N - (k + 1)) + 1 by omega, List.replicate_succ, List.set_cons_zero, take_succ_eq (List.getElem?_eq_getElem hl), e, List.append_assoc]
      rfl
    rw [e2]
theorem runI_eq {g : Gp} {pub sec : List Int} (hp : (pub.length : Int) = g.pub) (hs : (sec.length : Int) = g.sec) (hN : g.pub + g.sec ≤ g.nv) : it (runI pub sec) (g.pub + g.sec).toNat (run0 g) = c0 g pub sec := by
  have e : (g.pub + g.sec).toNat = pub.length + sec.length := by omega
  rw [e]
  unfold run0
  rw [runI_get (by omega) (Nat.le_refl _), List.take_of_length_le (by rw [List.length_append]; exact Nat.le_refl _)]
  rfl
theorem Vc.lift {α : Type} {e : TypeId} {mk : α → Value} {s0 s1 s : St} {A : Nat} {l : List α} (h : Vc e mk s1 s A l) (hg : Grew s0 s1) : Vc e mk s0 s A l := ⟨h.here, Nat.le_trans hg.n h.new, h.wf, hg.trans h.grew⟩
section
variable {ro : Nat} {K : Value → St → Prop}
theorem slu_from (A n c : Nat) (hc : c ≤ n) : asliceOp P 25 (slc A n) (some (.int .i64 (c : Int))) none none = some (.slice (some ⟨A, if n = c then 0 else c, none⟩) (n - c) (n - c)) := by
  have hlo : abound (some (.int .i64 (c : Int))) 0 n = some c := by
    simp only [abound]
    rw [if_pos (by omega)]; rfl
  have hhi : abound none n n = some n := rfl
  simp only [asliceOp, sliceElem_un se_25, isz_38, sliceTwo, hhi, hlo, Option.bind_some, Nat.mul_one, Nat.zero_add]
  by_cases h : n = c
  · rw [if_pos h, if_pos h]
  · rw [if_neg h, if_neg h]
def U64w (s : St) (v : Value) (l : List Int) : Prop := U64s s v l ∨ (l = [] ∧ ∃ A o, v = .slice (some ⟨A, o, some 1⟩) 0 0)
theorem U64w.ent {s : St} {v : Value} {l : List Int} (h : U64w s v l) : U64w (ent s) v l := h.elim (fun h => .inl (Sl.ent h)) .inr
theorem U64w.grew {s s' : St} {v : Value} {l : List Int} (h : U64w s v l) (hg : ∀ A, A < s.n → s'.at A = s.at A) : U64w s' v l := h.elim (fun h => .inl (Sl.grew h hg)) .inr
theorem U64w.wlen {s s' : St} {v : Value} {l : List Int} (h : U64w s v l) (ty : TypeId) (K : Value → St → Prop) : wop P ro (.call ⟨.builtin .len, ⟨[.const v]⟩, #[25]⟩) ty s' K = K (.int .i64 l.length) s' := by
  rcases h with h | ⟨rfl, A, o, rfl⟩
  · exact Sl.wlen h se_25 ty K
  · exact wop_len se_25 _ 0 0 ty s' K
theorem wElementsW (f : Int) {s : St} {u : Value} {l : List Int} (hu : U64w s u l) (hlen : l.length < 2 ^ 60) (hw : Wf s) (hro : ro ≤ s.n) (hG : FieldsAt s) : CallWP P ro 22 [.int .i64 f, u] s K = K (.bool (below f l)) s := by
  rcases hu with hu | ⟨rfl, A, o, rfl⟩
  · exact wElements f hu hlen hw hro hG
  · refine callEq (call_wp b22 rfl ?_) K
    rw [n22]
    unfold v22
    simp (maxSteps := 10000000) only [wW, reduceCtorEq, Nat.reduceEqDiff, wop_len se_25]
    rw [if_pos (by decide)]
    exact fin_flat rfl (.refl _) ⟨rfl, rfl⟩
theorem Vc.copyW {s0 s : St} {A : Nat} {l : List Int} (h : Vc 38 (.int .u64) s0 s A l) (hw0 : Wf s0) (hro : ro ≤ s0.n) {o n c : Nat} {m : Option Nat} (hfit : o + n ≤ l.length) {w : Value} {cs : List Int} (hsrc : U64w s w cs) {ty : TypeId} {K : Value → St → Prop}
    (hk : ∀ s', Vc 38 (.int .u64) s0 s' A (l.take o ++ cs.take (min cs.length n) ++ l.drop (o + min cs.length n)) → (∀ B, B ≠ A → s'.at B = s.at B) → s'.n = s.n → K (.int .i64 (min cs.length n : Nat)) s') :
    wop P ro (.call ⟨.builtin .copy, ⟨[.const (.slice (some ⟨A, o, m⟩) n c), .const w]⟩, #[25, 25]⟩) ty s K := by
  rcases hsrc with hs | ⟨rfl, A2, o2, rfl⟩
  · exact h.copy se_25 isz_38 hw0 hro hfit hs (fun _ => rfl) hk
  · rw [wop_copy]
    have e : acopy P ro s #[25, 25] [.slice (some ⟨A, o, m⟩) n c, .slice (some ⟨A2, o2, some 1⟩) 0 0] = some (.int .i64 ((0 : Nat) : Int), s) := by
      simp only [acopy, se_25, isz_38, alen, Nat.zero_min, afirst, Nat.zero_mul, Option.bind_some, awrite, Option.map_some]
      rfl
    rw [e, wopt_some]
    have hz : min ([] : List Int).length n = 0 := Nat.zero_min _
    have := hk s (by rw [hz, Nat.add_zero, List.take_nil, List.append_nil, List.take_append_drop]; exact h) (fun _ _ => rfl) rfl
    rw [hz] at this
    exact this
theorem wGRunW (g : Gp) (hnn : ∀ r ∈ g.rows, r.Nn) {s : St} {ur pv sv : Value} {pub sec : List Int} (hw : Wf s) (hro : ro ≤ s.n) (hF : FieldsAt s) (hr0 : 0 < ro) (hr : RowsS s ur g.rows) (hlen : g.rows.length < 2 ^ 60) (hp : U64s s pv pub) (hs : U64w s sv sec) (hpn : ∀ x ∈ pub, 0 ≤ x) (hsn : ∀ x ∈ sec, 0 ≤ x)
    (h0 : ¬ runOk g pub sec → K (.tuple (.mk [.slice none 0 0, .bool false, .int .i64 1])) s)
    (h1 : runOk g pub sec → ∀ v s', Grew s s' → U64s s' v (runV g pub sec).1 → K (.tuple (.mk [v, .bool (okM g (runV g pub sec).1 g.rows.length), .int .i64 0])) s') :
    CallWP P ro 13 [.agg (.mk (g.cells ur)), pv, sv] s K := by
  refine call_wp b13 rfl ?_
  rw [n13]
  unfold v13
  simp (maxSteps := 10000000) only [wW, reduceCtorEq, Nat.reduceEqDiff]
  refine box_rule hw.ent fun G s1 m1 => ?_
  have e1 := m1.eq
  have n1 := m1.n
  have hn0 : (ent s).n = s.n := rfl
  have hG1 : s1.at G = some (.cells (g.cells ur) 24 false) := m1.here
  have hG := acells_some hG1
  have hF1 : FieldsAt s1 := FieldsAt.grew (s := ent s) hF m1.grew
  have hr1 : RowsS s1 ur g.rows := (Sl.ent hr).grew m1.grew.same
  have hp1 : U64s s1 pv pub := (Sl.ent hp).grew m1.grew.same
  have hs1 : U64w s1 sv sec := hs.ent.grew m1.grew.same
  have no : ¬ runOk g pub sec → wfin s K (.tuple (.mk [.slice none 0 0, .bool false, .int .i64 1])) s1 := fun hf => fin_flat rfl m1.grew (h0 hf)
  simp (maxSteps := 10000000) only [wW, reduceCtorEq, Nat.reduceEqDiff, wL, Nat.reduceAdd, hG]
  show CallWP P ro 16 [.agg (.mk (g.cells ur))] s1 _
  rw [wGvalid g hnn m1.wf (by omega) hF1 hr1]
  simp (maxSteps := 10000000) only [wW, reduceCtorEq, Nat.reduceEqDiff, wL, Nat.reduceAdd, hG, hp1.wlen se_25, U64w.wlen hs1]
  by_cases c1 : validM g = true
  · have hL0 : Limits g := by
      unfold validM at c1
      simp only [Bool.and_eq_true, decide_eq_true_eq] at c1
      exact c1.1
    have hpl := hL0.2.2.1
    have hsl := hL0.2.2.2.2.1
    rw [if_neg (by simp [c1])]
    by_cases c2 : (pub.length : Int) = g.pub
    · rw [if_neg (by simpa using c2)]
      by_cases c3 : (sec.length : Int) = g.sec
      · rw [if_neg (by simpa using c3), wElements g.f hp1 (by omega) m1.wf (show ro ≤ s1.n by omega) hF1]
        simp (maxSteps := 10000000) only [wW, reduceCtorEq, Nat.reduceEqDiff, wL, Nat.reduceAdd, hG]
        by_cases c4 : below g.f pub = true
        · rw [if_neg (by simp [c4]), wElementsW g.f hs1 (by omega) m1.wf (show ro ≤ s1.n by omega) hF1]
          simp (maxSteps := 10000000) only [wW, reduceCtorEq, Nat.reduceEqDiff, wL, Nat.reduceAdd, hG]
          by_cases c5 : below g.f sec = true
          · rw [if_neg (by simp [c5])]
            have hOk : runOk g pub sec := ⟨c1, c2, c3, c4, c5⟩
            have hL : Limits g := by
              unfold validM at c1
              simp only [Bool.and_eq_true, decide_eq_true_eq] at c1
              exact c1.1
            clear no c1 c4 c5
            have hnv := hL.nv
            have hrl := hL.2.2.2.2.2.2.2.1
            have hps5 := hL.2.2.2.2.2.1
            refine make_rule (mk := Value.int .u64) (x := 0) se_25 ty_38 rfl m1.wf hnv.1 (by omega) (by decide) fun A s2 m2 => ?_
            have e2 := m2.eq
            have n2 := m2.n
            refine alloc_rule ty_25 m2.wf fun X s3 m3 => ?_
            have e3 := m3.eq
            have n3 := m3.n
            refine store1_rule isz_25 m3.here m3.wf (by omega) (by decide) rfl fun s4 p4 => ?_
            have n4 := p4.n
            have g3 := (m1.grew.trans m2.grew).trans m3.grew
            have g4 := p4.grew _ hw.ent g3 (by omega)
            have hG4 : s4.at G = some (.cells (g.cells ur) 24 false) := (p4.rest G (by omega)).trans ((m3.grew.same G (by omega)).trans ((m2.grew.same G (by omega)).trans hG1))
            rw [acells_some hG4, wopt_some, gc1, wopt_some]
            refine make_rule (mk := Value.bool) (x := false) se_52 ty_4 rfl p4.wf hnv.1 (by omega) (by decide) fun B s5 m5 => ?_
            have e5 := m5.eq
            have n5 := m5.n
            refine alloc_rule ty_52 m5.wf fun Y s6 m6 => ?_
            have e6 := m6.eq
            have n6 := m6.n
            refine store1_rule isz_52 m6.here m6.wf (by omega) (by decide) rfl fun s7 p7 => ?_
            have n7 := p7.n
            have g7 := p7.grew _ hw.ent ((g4.trans m5.grew).trans m6.grew) (by omega)
            have to7 : ∀ C, C < s5.n → s7.at C = s5.at C := fun C hC => (p7.rest C (by omega)).trans (m6.grew.same C hC)
            have to7' : ∀ C, C < s4.n → s7.at C = s4.at C := fun C hC => (to7 C (by omega)).trans (m5.grew.same C hC)
            have hG7 := (to7' G (by omega)).trans hG4
            have hX7 : s7.at X = some (.cells [slc A g.nv.toNat] 25 false) := (to7' X (by omega)).trans p4.here
            have hY7 : s7.at Y = some (.cells [slc B g.nv.toNat] 52 false) := p7.here
            have V7 : Vc 38 (.int .u64) (ent s) s7 A (List.replicate g.nv.toNat 0) := ⟨(to7' A (by omega)).trans ((p4.rest A (by omega)).trans ((m3.grew.same A (by omega)).trans m2.here)), by omega, p7.wf, g7⟩
            have B7 : s7.at B = some (.cells ((List.replicate g.nv.toNat false).map .bool) 4 false) := (to7 B (by omega)).trans m5.here
            simp (maxSteps := 10000000) only [load1 ap_25, acells_some hX7, Option.bind_some, List.getElem?_cons_zero, wopt_some]
            refine V7.copy se_25 isz_38 hw.ent hro (by simp) ((Sl.ent hp).grew g7.same) (fun _ => rfl) fun s8 V8 r8 n8 => ?_
            rw [cp_first (by omega)] at V8
            have hX8 := (r8 X (by omega)).trans hX7
            have hG8 := (r8 G (by omega)).trans hG7
            have hsl8 : asliceOp P 25 (slc A g.nv.toNat) (some (.int .i64 g.pub)) none none = some (.slice (some ⟨A, if g.nv.toNat = pub.length then 0 else pub.length, none⟩) (g.nv.toNat - pub.length) (g.nv.toNat - pub.length)) := by
              rw [← c2]
              exact slu_from _ _ _ (by omega)
            simp (maxSteps := 10000000) only [wW, reduceCtorEq, Nat.reduceEqDiff, wL, Nat.reduceAdd, load1 ap_25, acells_some hX8, acells_some hG8, Option.bind_some, List.getElem?_cons_zero, wopt_some, wop_slice, aval, Option.map_some, Option.map_none, hsl8]
            have hl8 : (pub ++ List.replicate (g.nv.toNat - pub.length) (0 : Int)).length = g.nv.toNat := by rw [List.length_append, List.length_replicate]; omega
            refine V8.copyW hw.ent hro (by rw [hl8]; split <;> omega) (hs.ent.grew V8.grew.same) fun s9 V9 r9 n9 => ?_
            have e9 : (pub ++ List.replicate (g.nv.toNat - pub.length) (0 : Int)).take (if g.nv.toNat = pub.length then 0 else pub.length) ++ sec.take (min sec.length (g.nv.toNat - pub.length)) ++ (pub ++ List.replicate (g.nv.toNat - pub.length) (0 : Int)).drop ((if g.nv.toNat = pub.length then 0 else pub.length) + min sec.length (g.nv.toNat - pub.length)) = (c0 g pub sec).1 := by
              by_cases hq : g.nv.toNat = pub.length
              · have hsec : sec = [] := List.length_eq_zero_iff.1 (by omega)
                subst hsec
                rw [if_pos hq]
                unfold c0
                simp
              · rw [if_neg hq]
                exact cp_second (by omega)
            rw [e9] at V9
            have hG9 := (r9 G (by omega)).trans hG8
            have hI0 : RgI ro g ur (ent s) G A B X Y s9 ((c0 g pub sec).1, List.replicate 0 true ++ List.replicate (g.nv.toNat - 0) false) :=
              ⟨⟨V9, ⟨(r9 B (by omega)).trans ((r8 B (by omega)).trans B7), by omega, V9.wf, V9.grew⟩, hG9, by unfold c0; simp; omega, by simp, hw.ent, hro, Sl.ent hr, by omega, by omega, by omega, fun x hx => ?_⟩, (r9 X (by omega)).trans hX8, (r9 Y (by omega)).trans ((r8 Y (by omega)).trans hY7), by omega, by omega, by omega, by omega⟩
            · simp (maxSteps := 10000000) only [wW, reduceCtorEq, Nat.reduceEqDiff, wL, Nat.reduceAdd, acells_some hG9]
              rw [wrap_i64 (n := g.pub + g.sec) (by omega) (by omega)]
              have hpsn : ((g.pub + g.sec).toNat : Int) = g.pub + g.sec := by omega
              have hpsl : (g.pub + g.sec).toNat = pub.length + sec.length := by omega
              have h1' := h1 hOk
              have hV : runV g pub sec = it (runR g) g.rows.length (c0 g pub sec) := by unfold runV; rw [runI_eq c2 c3 hps5]
              rw [hV] at h1'
              have hgl : ∀ s' K, wop P ro (.call ⟨.builtin .len, ⟨[.const ur]⟩, #[22]⟩) 3 s' K = K (.int .i64 (g.rows.length : Nat)) s' := fun s' K => Sl.wlen hr se_22 _ K
              refine wloop l13_1111110100 m13_1111110100 (fun (i : Nat) τ ds s' => i ≤ (g.pub + g.sec).toNat ∧ τ 3 = ptr G ∧ τ 9 = ptr X ∧ τ 10 = ptr Y ∧ τ 69 = .int .i64 (g.pub + g.sec) ∧ τ 70 = .int .i64 i ∧ ds = [] ∧ RgI ro g ur (ent s) G A B X Y s' ((c0 g pub sec).1, List.replicate i true ++ List.replicate (g.nv.toNat - i) false)) (fun i => (g.pub + g.sec).toNat - i) ?_ 0 ⟨by omega, rfl, rfl, rfl, rfl, rfl, rfl, hI0⟩
              clear hI0 V9 V8 V7 r9 r8 hX8 hX7 hY7 hG9 hG8 hG7 hG4 to7 to7' B7 p7 m6 m5 p4 m3 m2
              rintro i τ ds s' ⟨hi, t3, t9, t10, t69, t70, rfl, hI⟩
              rw [n13_1111110100]
              unfold v13_1111110100
              have hYc := acells_some hI.y
              by_cases hlt : i < (g.pub + g.sec).toNat
              · have hix := ixc se_52 isz_4 (A := B) (n := g.nv.toNat) (c := g.nv.toNat) (i := (i : Int)) (by omega) (by omega)
                simp (maxSteps := 10000000) only [wW, reduceCtorEq, Nat.reduceEqDiff, wL, Nat.reduceAdd, t10, t69, t70, load1 ap_52, hYc, List.getElem?_cons_zero, hix]
                rw [if_pos (by omega)]
                refine hI.run.storeB (i := (i : Int)) (by omega) (by omega) fun s2 hI2 r2 => ?_
                rw [wrap_i64 (by omega) (by omega)]
                refine ⟨i + 1, by omega, by omega, ?_, ?_, ?_, ?_, ?_, trivial, ?_, (r2 X hI.xb).trans hI.x, (r2 Y hI.yb).trans hI.y, hI.xa, hI.xb, hI.ya, hI.yb⟩
                · simp only [U, tset_eq, wW, reduceCtorEq, Nat.reduceEqDiff, t3]
                · simp only [U, tset_eq, wW, reduceCtorEq, Nat.reduceEqDiff, t9]
                · simp only [U, tset_eq, wW, reduceCtorEq, Nat.reduceEqDiff, t10]
                · simp only [U, tset_eq, wW, reduceCtorEq, Nat.reduceEqDiff, t69]
                · simp only [U, tset_eq, wW, reduceCtorEq, Nat.reduceEqDiff]; rfl
                · rw [Int.toNat_natCast, rep_set (by omega)] at hI2
                  exact hI2
              · obtain rfl : i = (g.pub + g.sec).toNat := by omega
                simp (maxSteps := 10000000) only [wW, reduceCtorEq, Nat.reduceEqDiff, t69, t70]
                rw [if_neg (by omega)]
                simp (maxSteps := 10000000) only [U, tset_eq, wW, reduceCtorEq, Nat.reduceEqDiff, wL, Nat.reduceAdd, t3, t9, t10, hI.run.gc, hgl]
                rw [hpsl] at hI
                refine rgRows hL hnn hw hF hr0 hlen hr hI h1' ?_ ?_ ?_ ?_ ?_ ?_ ?_
                · simp only [tset_eq, wW, reduceCtorEq, Nat.reduceEqDiff, t3]
                · simp only [tset_eq, wW, reduceCtorEq, Nat.reduceEqDiff, t9]
                · simp only [tset_eq, wW, reduceCtorEq, Nat.reduceEqDiff, t10]
                · simp only [tset_eq, wW, reduceCtorEq, Nat.reduceEqDiff]; rfl
                · simp only [tset_eq, wW, reduceCtorEq, Nat.reduceEqDiff]
                · simp only [tset_eq, wW, reduceCtorEq, Nat.reduceEqDiff]
                · simp only [tset_eq, wW, reduceCtorEq, Nat.reduceEqDiff]
            · unfold c0 at hx
              rw [List.mem_append, List.mem_append] at hx
              rcases hx with (hx | hx) | hx
              · exact hpn x hx
              · exact hsn x hx
              · rw [List.eq_of_mem_replicate hx]; exact Int.le_refl 0
          · rw [if_pos (by simpa using c5)]
            exact no fun h => c5 h.2.2.2.2
        · rw [if_pos (by simpa using c4)]
          exact no fun h => c4 h.2.2.2.1
      · rw [if_pos (by simpa using c3)]
        exact no fun h => c3 h.2.2.1
    · rw [if_pos (by simpa using c2)]
      exact no fun h => c2 h.2.1
  · rw [if_pos (by simpa using c1)]
    exact no fun h => c1 h.1
end
end Go.VE
/- GatesFunction: rows that hold determine the values. -/
namespace Go.VE
open Go Go.Proofs
set_option maxRecDepth 20000
theorem q_inv {f : Int} (hv : fV f = true) {q : Int} (h0 : 0 < q) (h1 : q < fP f) : q * fInv f q % fP f = 1 := by
  have hp := fP_pos hv
  have hpr := fP_prime hv
  have hP : ((fP f).toNat : Int) = fP f := by omega
  have ha : ((q.toNat : Nat) : Int) = q := by omega
  have hne : q.toNat % (fP f).toNat ≠ 0 := by
    rw [Nat.mod_eq_of_lt (by omega)]
    omega
  have hF := fermat hpr hne
  have hp1 := hpr.1
  unfold fInv fPow
  rw [if_pos hv, Int.mul_comm, mulL, Int.mul_comm, show q * q ^ (fP f - 2).toNat = q ^ ((fP f).toNat - 1) by
    rw [show (fP f).toNat - 1 = (fP f - 2).toNat + 1 by omega, Int.pow_succ, Int.mul_comm]]
  rw [← hP, ← ha]
  have e : ((q.toNat : Int) ^ ((fP f).toNat - 1)) = ((q.toNat ^ ((fP f).toNat - 1) : Nat) : Int) := by simp
  simp only [Int.toNat_natCast]
  rw [e, ← Int.natCast_emod, hF]
  rfl
theorem fsolve {f : Int} (hv : fV f = true) {S q v : Int} (hq0 : 0 < q) (hq1 : q < fP f) (hv0 : 0 ≤ v) (hv1 : v < fP f) (h : fAdd f S (fMul f q v) = 0) : v = fNeg f (fDiv f S q) := by
  have hI := q_inv hv hq0 hq1
  have hp := fP_pos hv
  unfold fAdd fMul at h
  rw [if_pos hv, if_pos hv] at h
  unfold fNeg fSub fDiv fMul
  rw [if_pos hv, if_pos hv]
  generalize fInv f q = I at hI ⊢
  generalize fP f = p at *
  have d1 : p ∣ S + q * v := by
    refine Int.dvd_of_emod_eq_zero ?_
    rw [← h]
    exact (Int.add_emod_emod _ _ _).symm
  have d2 : p ∣ q * I - 1 := by
    refine Int.dvd_of_emod_eq_zero ?_
    rw [Int.sub_emod, hI]
    rcases Int.lt_or_le 1 p with h | h
    · rw [Int.emod_eq_of_lt (by omega) h]; rfl
    · obtain rfl : p = 1 := by omega
      rfl
  have d3 : p ∣ v - (0 - S * I % p) := by
    have e1 : S * I % p = S * I - p * (S * I / p) := Int.emod_def _ _
    obtain ⟨x, hx⟩ := d1
    obtain ⟨y, hy⟩ := d2
    refine ⟨I * x - v * y - S * I / p, ?_⟩
    rw [e1]
    have e2 : v - (0 - (S * I - p * (S * I / p))) = I * (S + q * v) - v * (q * I - 1) - p * (S * I / p) := by
      rw [Int.mul_add, Int.mul_sub, Int.mul_one]
      have e3 : I * (q * v) = v * (q * I) := by rw [← Int.mul_assoc, Int.mul_comm, Int.mul_comm I q]
      have e4 : I * S = S * I := Int.mul_comm _ _
      omega
    rw [e2, hx, hy, Int.mul_sub, Int.mul_sub]
    have e5 : I * (p * x) = p * (I * x) := by rw [← Int.mul_assoc, Int.mul_comm I p, Int.mul_assoc]
    have e6 : v * (p * y) = p * (v * y) := by rw [← Int.mul_assoc, Int.mul_comm v p, Int.mul_assoc]
    rw [e5, e6]
  have : v % p = (0 - S * I % p) % p := Int.emod_eq_emod_iff_emod_sub_eq_zero.2 (Int.emod_eq_zero_of_dvd d3)
  rw [← this, Int.emod_eq_of_lt hv0 hv1]
end Go.VE
/- GatesFunction: rows that hold determine the values. -/
namespace Go.VE
open Go Go.Proofs
set_option maxRecDepth 20000
structure Syn (g : Gp) (V D : List Int) (c : List Int × List Bool) : Prop where
  l1 : c.1.length = g.nv.toNat
  l2 : c.2.length = g.nv.toNat
  lD : D.length = g.nv.toNat
  k : ∀ w : Nat, w < g.nv.toNat → (atB c.2 w = true ↔ 0 ≤ at0 D w)
  v : ∀ w : Nat, w < g.nv.toNat → atB c.2 w = true → at0 c.1 w = at0 V w
theorem at0_setE {l : List Int} {i : Nat} {x : Int} (h : i < l.length) : at0 (l.set i x) (i : Int) = x := by
  unfold at0
  rw [Int.toNat_natCast, List.getElem?_set_self h]; rfl
theorem at0_setN {l : List Int} {i j : Nat} {x : Int} (h : i ≠ j) : at0 (l.set i x) (j : Int) = at0 l (j : Int) := by
  unfold at0
  rw [Int.toNat_natCast, List.getElem?_set_ne h]
theorem atB_setE {l : List Bool} {i : Nat} {x : Bool} (h : i < l.length) : atB (l.set i x) (i : Int) = x := by
  unfold atB
  rw [Int.toNat_natCast, List.getElem?_set_self h]; rfl
theorem atB_setN {l : List Bool} {i j : Nat} {x : Bool} (h : i ≠ j) : atB (l.set i x) (j : Int) = atB l (j : Int) := by
  unfold atB
  rw [Int.toNat_natCast, List.getElem?_set_ne h]
theorem Syn.set {g : Gp} {V D : List Int} {c : List Int × List Bool} (h : Syn g V D c) {w : Int} (h0 : 0 ≤ w) (h1 : w < g.nv) {m : Int} (hm : 0 ≤ m + 1) {x : Int} (hx : x = at0 V w) : Syn g V (D.set w.toNat (m + 1)) (setV w x c) := by
  have hl1 := h.l1
  have hl2 := h.l2
  have hlD := h.lD
  obtain ⟨n, rfl⟩ : ∃ n : Nat, w = n := ⟨w.toNat, by omega⟩
  rw [Int.toNat_natCast]
  refine ⟨by unfold setV; simp [hl1], by unfold setV; simp [hl2], by simp [hlD], fun j hj => ?_, fun j hj hb => ?_⟩
  · unfold setV
    rw [Int.toNat_natCast]
    by_cases e : n = j
    · subst e
      rw [atB_setE (by omega), at0_setE (by omega)]
      exact ⟨fun _ => hm, fun _ => rfl⟩
    · rw [atB_setN e, at0_setN e]
      exact h.k j hj
  · unfold setV at hb ⊢
    rw [Int.toNat_natCast] at hb ⊢
    by_cases e : n = j
    · subst e
      rw [at0_setE (by omega)]
      exact hx
    · rw [atB_setN e] at hb
      rw [at0_setN e]
      exact h.v j hj hb
theorem most_spec {r : Row} {D : List Int} : ∀ {l : List Int} {m0 m : Int}, 0 ≤ m0 → mostM r D l m0 = some m → 0 ≤ m ∧ ∀ j ∈ l, 0 ≤ at0 D (r.w j.toNat) ∨ (r.k = 1 ∧ j = 2)
  | [], m0, m, h0, h => by cases h; exact ⟨h0, fun j hj => by cases hj⟩
  | j :: l, m0, m, h0, h => by
    rw [mostM] at h
    by_cases hc : at0 D (r.w j.toNat) < 0 ∧ ¬ (r.k = 1 ∧ j = 2)
    · rw [if_pos hc] at h; cases h
    · rw [if_neg hc] at h
      obtain ⟨a, b⟩ := most_spec (by split <;> omega) h
      refine ⟨a, fun i hi => ?_⟩
      rcases List.mem_cons.1 hi with rfl | hi
      · rcases Int.lt_or_le (at0 D (r.w i.toNat)) 0 with h1 | h1
        · exact .inr (Decidable.byContradiction fun h2 => hc ⟨h1, h2⟩)
        · exact .inl h1
      · exact b i hi
section
variable {g : Gp} {V D : List Int} {c : List Int × List Bool}
theorem Syn.known (h : Syn g V D c) {w : Int} (h0 : 0 ≤ w) (h1 : w < g.nv) (hd : 0 ≤ at0 D w) : at0 c.1 w = at0 V w := by
  obtain ⟨n, rfl⟩ : ∃ n : Nat, w = n := ⟨w.toNat, by omega⟩
  exact h.v n (by omega) ((h.k n (by omega)).2 hd)
theorem Syn.kb (h : Syn g V D c) {w : Int} (h0 : 0 ≤ w) (h1 : w < g.nv) : atB c.2 w = false ↔ at0 D w < 0 := by
  obtain ⟨n, rfl⟩ : ∃ n : Nat, w = n := ⟨w.toNat, by omega⟩
  have := h.k n (by omega)
  cases hb : atB c.2 n with
  | true =>
    rw [hb] at this
    have := this.1 rfl
    exact ⟨fun h => (by cases h), fun h => by omega⟩
  | false =>
    rw [hb] at this
    exact ⟨fun _ => Int.not_le.1 fun hh => (by have := this.2 hh; cases this), fun _ => rfl⟩
theorem Syn.arith (hL : Limits g) (hV0 : ∀ x ∈ V, 0 ≤ x) (hlV : V.length = g.nv.toNat) (hbV : below g.f V = true) (h : Syn g V D c) {i : Nat} (hi : i < g.rows.length) (hnn : (rowAt g.rows i).Nn) (hh : holdsR g.f (rowAt g.rows i) (rowAt g.rows (i + 1)) V = true) {m : Int} (hm : mostM (rowAt g.rows i) D (rds (rowAt g.rows i)) 0 = some m) : Syn g V (dArith (rowAt g.rows i) m D) (runA g.f (rowAt g.rows i) c) := by
  obtain ⟨hm0, hrd⟩ := most_spec (Int.le_refl 0) hm
  have hreads : ∀ {j : Int}, j ∈ rds (rowAt g.rows i) → 0 ≤ (rowAt g.rows i).w j.toNat ∧ (rowAt g.rows i).w j.toNat < g.nv := fun hj => hL.reads hi hj
  have hq := (hL.row hi).1.2.2.2.2.1
  generalize rowAt g.rows i = r at *
  by_cases hc : r.k = 1 ∧ r.qo ≠ 0
  · have hw2 : 0 ≤ r.w2 ∧ r.w2 < g.nv := hreads (rds_2 hc.1 hc.2)
    by_cases hn : at0 D r.w2 < 0
    · have hb := (h.kb hw2.1 hw2.2).2 hn
      unfold dArith runA
      rw [if_pos ⟨hc.1, hc.2, hn⟩, if_pos ⟨hc.1, hc.2, hb⟩]
      refine h.set hw2.1 hw2.2 (by omega) ?_
      have sA : sumA r c.1 = sumA r V := by
        unfold sumA
        split
        · rename_i hx
          have hmem := rds_0 hc.1 hx
          have hr := hreads hmem
          refine h.known hr.1 hr.2 ?_
          rcases hrd 0 hmem with h1 | h1
          · exact h1
          · exact absurd h1.2 (by decide)
        · rfl
      have sB : sumB r c.1 = sumB r V := by
        unfold sumB
        split
        · rename_i hx
          have hmem := rds_1 hc.1 hx
          have hr := hreads hmem
          refine h.known hr.1 hr.2 ?_
          rcases hrd 1 hmem with h1 | h1
          · exact h1
          · exact absurd h1.2 (by decide)
        · rfl
      have sM : sumM g.f r c.1 = sumM g.f r V := by unfold sumM; rw [sA, sB]
      rw [sM]
      unfold holdsR at hh
      rw [if_pos hc.1, if_pos hc.2, decide_eq_true_eq] at hh
      have hmemV : at0 V r.w2 ∈ V := List.mem_of_getElem? (at0_get hw2.1 (by omega))
      have hlt : at0 V r.w2 < fP g.f := of_decide_eq_true (List.all_eq_true.1 hbV _ hmemV)
      have hqp : r.qo < fP g.f := (hq r.qo (by simp [Row.qs])).1
      have hqn := hnn.qo
      exact (fsolve hL.1 (by have := hc.2; omega) hqp (hV0 _ hmemV) hlt hh).symm
    · have hb : ¬ atB c.2 r.w2 = false := fun hb => hn ((h.kb hw2.1 hw2.2).1 hb)
      unfold dArith runA
      rw [if_neg (fun h => hn h.2.2), if_neg (fun h => hb h.2.2)]
      exact h
  · unfold dArith runA
    rw [if_neg (fun h => hc ⟨h.1, h.2.1⟩), if_neg (fun h => hc ⟨h.1, h.2.1⟩)]
    exact h
theorem Syn.nexts {nx : Row} {q : List Int} {m : Int} (hm : 0 ≤ m) (hw : ∀ k : Nat, k < 4 → 0 ≤ nx.w k ∧ nx.w k < g.nv) (hq : ∀ k : Nat, k < 4 → at0 q k = at0 V (nx.w k)) (h : Syn g V D c) : ∀ {k : Nat}, k ≤ 4 → Syn g V (it (dNext m nx) k D) (it (runN q nx) k c)
  | 0, _ => h
  | k + 1, hk => by
    have ih := Syn.nexts hm hw hq h (k := k) (by omega)
    rw [it, it]
    have hx := hw k (by omega)
    generalize it (dNext m nx) k D = E at ih ⊢
    generalize it (runN q nx) k c = e at ih ⊢
    unfold dNext runN
    by_cases hn : at0 E (nx.w k) < 0
    · rw [if_pos hn, if_pos ((ih.kb hx.1 hx.2).2 hn)]
      exact ih.set hx.1 hx.2 (by omega) (hq k (by omega))
    · rw [if_neg hn, if_neg (fun hb => hn ((ih.kb hx.1 hx.2).1 hb))]
      exact ih
theorem Syn.row (hL : Limits g) (hV0 : ∀ x ∈ V, 0 ≤ x) (hlV : V.length = g.nv.toNat) (hbV : below g.f V = true) (h : Syn g V D c) {i : Nat} (hi : i < g.rows.length) (hnn : (rowAt g.rows i).Nn) (hh : holdsR g.f (rowAt g.rows i) (rowAt g.rows (i + 1)) V = true) {D' : List Int} (hD : stepD g i D = some D') : Syn g V D' (runR g i c) := by
  unfold stepD at hD
  cases hm : mostM (rowAt g.rows i) D (rds (rowAt g.rows i)) 0 with
  | none => rw [hm] at hD; cases hD
  | some m =>
    rw [hm] at hD
    cases hD
    have ha := h.arith hL hV0 hlV hbV hi hnn hh hm
    obtain ⟨hm0, hrd⟩ := most_spec (Int.le_refl 0) hm
    show Syn g V (dRow (rowAt g.rows i) (rowAt g.rows (i + 1)) m D) _
    unfold dRow runR runB
    by_cases k3 : (rowAt g.rows i).k = 3
    · rw [if_pos k3, if_pos k3]
      have hA : runA g.f (rowAt g.rows i) c = c := by unfold runA; rw [if_neg (fun h => by have := h.1; omega)]
      have hn := hL.next hi k3
      have hreads : ∀ k : Nat, k < 4 → at0 c.1 ((rowAt g.rows i).w k) = at0 V ((rowAt g.rows i).w k) := fun k hk => by
        have hmem : ((k : Nat) : Int) ∈ rds (rowAt g.rows i) := (rdB_mem _ hk).1 (by
          match k, hk with
          | 0, _ => simp [rdB, rd0, k3]
          | 1, _ => simp [rdB, rd1, k3]
          | 2, _ => simp [rdB, rd2, k3]
          | 3, _ => simp [rdB, rd3, k3])
        have hr := hL.reads hi hmem
        rw [Int.toNat_natCast] at hr
        refine h.known hr.1 hr.2 ?_
        rcases hrd _ hmem with h1 | h1
        · rwa [Int.toNat_natCast] at h1
        · have := h1.1
          omega
      have hwv : wv c.1 (rowAt g.rows i) = wv V (rowAt g.rows i) := by
        rw [eq4 rfl rfl]
        intro k hk
        rw [wv_get _ _ hk, wv_get _ _ hk, hreads k hk]
      unfold holdsR at hh
      rw [if_neg (by omega), if_neg (by omega), if_pos k3, decide_eq_true_eq] at hh
      refine Syn.nexts hm0 hn.2 (fun k hk => ?_) ha (Nat.le_refl 4)
      rw [hA, hwv, ← hh, wv_get _ _ hk]
    · rw [if_neg k3, if_neg k3]
      exact ha
theorem Syn.init (hL : Limits g) (hlV : V.length = g.nv.toNat) : Syn g V (it (dInit (g.pub + g.sec)) g.nv.toNat (List.replicate g.nv.toNat 0)) (c0 g (V.take g.pub.toNat) ((V.drop g.pub.toNat).take g.sec.toNat)) := by
  have h1 := hL.2.1
  have h2 := hL.2.2.2.1
  have h3 := hL.2.2.2.2.2.1
  have hl1 : (V.take g.pub.toNat).length = g.pub.toNat := by rw [List.length_take]; omega
  have hl2 : ((V.drop g.pub.toNat).take g.sec.toNat).length = g.sec.toNat := by rw [List.length_take, List.length_drop]; omega
  have hcat : V.take g.pub.toNat ++ (V.drop g.pub.toNat).take g.sec.toNat = V.take (g.pub.toNat + g.sec.toNat) := (List.take_add).symm
  unfold c0
  rw [hcat, hl1, hl2]
  refine ⟨by simp; omega, by simp; omega, by rw [it_len (fun n l => by unfold dInit; split <;> simp)]; simp, fun w hw => ?_, fun w hw hb => ?_⟩
  · unfold atB at0
    rw [Int.toNat_natCast, dInit_get (Nat.le_refl _) w hw, if_pos hw]
    by_cases hp : w < g.pub.toNat + g.sec.toNat
    · rw [List.getElem?_append_left (by simpa using hp), List.getElem?_replicate, if_pos hp, if_pos (by omega)]
      exact ⟨fun _ => Int.le_refl 0, fun _ => rfl⟩
    · rw [List.getElem?_append_right (by simpa using hp), List.getElem?_replicate, if_pos (by simp; omega), if_neg (by omega)]
      exact ⟨fun h => (by cases h), fun h => absurd h (by decide)⟩
  · have hp : w < g.pub.toNat + g.sec.toNat := by
      refine Nat.lt_of_not_le fun hge => ?_
      unfold atB at hb
      rw [Int.toNat_natCast, List.getElem?_append_right (by simpa using hge), List.getElem?_replicate, if_pos (by simp; omega)] at hb
      cases hb
    unfold at0
    rw [Int.toNat_natCast, List.getElem?_append_left (by rw [List.length_take]; omega), List.getElem?_take, if_pos hp]
theorem run_det (hnn : ∀ r ∈ g.rows, r.Nn) (hval : validM g = true) (hV0 : ∀ x ∈ V, 0 ≤ x) (hlV : (V.length : Int) = g.nv) (hbV : g.rows.length = 0 ∨ below g.f V = true) (hok : okM g V g.rows.length = true) : (runV g (V.take g.pub.toNat) ((V.drop g.pub.toNat).take g.sec.toNat)).1 = V := by
  have hv := hval
  unfold validM at hv
  rw [Bool.and_eq_true, decide_eq_true_eq] at hv
  have hL := hv.1
  have hlV' : V.length = g.nv.toNat := by omega
  have h1 := hL.2.1
  have h2 := hL.2.2.2.1
  have h3 := hL.2.2.2.2.2.1
  have hholds : ∀ i, i < g.rows.length → holdsR g.f (rowAt g.rows i) (rowAt g.rows (i + 1)) V = true := by
    have : ∀ n, okM g V n = true → ∀ i, i < n → holdsR g.f (rowAt g.rows i) (rowAt g.rows (i + 1)) V = true := fun n => by
      induction n with
      | zero => exact fun _ i hi => by omega
      | succ n ih =>
        intro h i hi
        rw [okM, Bool.and_eq_true] at h
        rcases Nat.lt_or_ge i n with hlt | hge
        · exact ih h.1 i hlt
        · obtain rfl : i = n := by omega
          exact h.2
    exact this _ hok
  have hs : ∀ {n : Nat}, n ≤ g.rows.length → ∀ {D : List Int}, orderD g n = some D → Syn g V D (it (runR g) n (c0 g (V.take g.pub.toNat) ((V.drop g.pub.toNat).take g.sec.toNat))) := fun {n} => by
    induction n with
    | zero =>
      intro _ D hD
      rw [orderD] at hD
      cases hD
      exact Syn.init hL hlV'
    | succ n ih =>
      intro hn D hD
      rw [orderD] at hD
      cases ho : orderD g n with
      | none => rw [ho] at hD; cases hD
      | some E =>
        rw [ho, Option.bind_some] at hD
        rw [it]
        exact (ih (by omega) ho).row hL hV0 hlV' (hbV.resolve_left (by omega)) (by omega) (hnn _ (List.mem_of_getElem? (rowAt_get (by omega)))) (hholds n (by omega)) hD
  have hc0 : runV g (V.take g.pub.toNat) ((V.drop g.pub.toNat).take g.sec.toNat) = it (runR g) g.rows.length (c0 g (V.take g.pub.toNat) ((V.drop g.pub.toNat).take g.sec.toNat)) := by
    unfold runV
    rw [runI_eq (by rw [List.length_take]; omega) (by rw [List.length_take, List.length_drop]; omega) h3]
  have hsome := hv.2
  unfold orderM at hsome
  cases ho : orderD g g.rows.length with
  | none => rw [ho] at hsome; cases hsome
  | some D =>
    rw [ho, Option.bind_some] at hsome
    have hall : D.all (fun x => decide (0 ≤ x)) = true := by
      cases hx : D.all (fun x => decide (0 ≤ x)) with
      | true => rfl
      | false => rw [hx, if_neg (by decide)] at hsome; cases hsome
    have hS := hs (Nat.le_refl _) ho
    rw [hc0]
    generalize it (runR g) g.rows.length (c0 g (V.take g.pub.toNat) ((V.drop g.pub.toNat).take g.sec.toNat)) = c at hS ⊢
    have hl1 := hS.l1
    have hlD := hS.lD
    refine List.ext_getElem (by omega) fun w hw1 hw2 => ?_
    have hmem : at0 D (w : Int) ∈ D := List.mem_of_getElem? (at0_get (by omega) (by omega))
    have hd := of_decide_eq_true (List.all_eq_true.1 hall _ hmem)
    have hv2 := hS.v w (by omega) ((hS.k w (by omega)).2 hd)
    unfold at0 at hv2
    rw [Int.toNat_natCast, List.getElem?_eq_getElem hw1, List.getElem?_eq_getElem hw2] at hv2
    exact hv2
end
end Go.VE
/- GatesFunction: what a run gives is below the order. -/
namespace Go.VE
open Go Go.Proofs
set_option maxRecDepth 20000
def Bel (f : Int) (c : List Int × List Bool) : Prop := ∀ x ∈ c.1, 0 ≤ x ∧ x < fP f
theorem Bel.set {f : Int} {c : List Int × List Bool} (h : Bel f c) {w x : Int} (hx : 0 ≤ x ∧ x < fP f) : Bel f (setV w x c) := fun y hy => by
  rcases List.mem_or_eq_of_mem_set hy with h1 | rfl
  · exact h y h1
  · exact hx
theorem roundM_lt {f : Int} (hv : fV f = true) (r : Int) (s : List Int) : ∀ x ∈ roundM f r s, 0 ≤ x ∧ x < fP f := by
  have h0 := fP_pos hv
  have hset : ∀ {l : List Int} {i : Nat} {y : Int}, (∀ x ∈ l, 0 ≤ x ∧ x < fP f) → (0 ≤ y ∧ y < fP f) → ∀ x ∈ l.set i y, 0 ≤ x ∧ x < fP f := fun {l i y} hl hy x hx => by
    rcases List.mem_or_eq_of_mem_set hx with h | rfl
    · exact hl x h
    · exact hy
  have hadd : ∀ a b, 0 ≤ fAdd f a b ∧ fAdd f a b < fP f := fun a b => by
    unfold fAdd
    rw [if_pos hv]
    exact ⟨Int.emod_nonneg _ (by omega), Int.emod_lt_of_pos _ h0⟩
  have hit : ∀ {g : Nat → List Int → List Int}, (∀ n l, (∀ x ∈ l, 0 ≤ x ∧ x < fP f) → ∀ x ∈ g n l, 0 ≤ x ∧ x < fP f) → ∀ (n : Nat) (l : List Int), (∀ x ∈ l, 0 ≤ x ∧ x < fP f) → ∀ x ∈ it g n l, 0 ≤ x ∧ x < fP f := fun {g} hg n => by
    induction n with
    | zero => exact fun l hl => hl
    | succ n ih => exact fun l hl => hg n _ (ih l hl)
  unfold roundM
  refine hit (fun n l hl => ?_) 4 _ (by simp; omega)
  unfold rnD
  refine hit (fun k l hl => ?_) 4 _ hl
  unfold rnC
  exact hset hl (hadd _ _)
theorem at0_lt {f : Int} (hv : fV f = true) {l : List Int} (h : ∀ x ∈ l, 0 ≤ x ∧ x < fP f) (i : Int) : 0 ≤ at0 l i ∧ at0 l i < fP f := by
  have h0 := fP_pos hv
  unfold at0
  cases hx : l[i.toNat]? with
  | none => exact ⟨Int.le_refl 0, h0⟩
  | some x => exact h x (List.mem_of_getElem? hx)
theorem Bel.run {g : Gp} (hv : fV g.f = true) {c : List Int × List Bool} (h : Bel g.f c) (i : Nat) : Bel g.f (runR g i c) := by
  have h0 := fP_pos hv
  have ha : Bel g.f (runA g.f (rowAt g.rows i) c) := by
    unfold runA
    split
    · refine h.set ?_
      unfold fNeg fSub
      rw [if_pos hv]
      exact ⟨Int.emod_nonneg _ (by omega), Int.emod_lt_of_pos _ h0⟩
    · exact h
  unfold runR runB
  split
  · have hq := roundM_lt hv (rowAt g.rows i).rd (wv (runA g.f (rowAt g.rows i) c).1 (rowAt g.rows i))
    generalize roundM g.f (rowAt g.rows i).rd (wv (runA g.f (rowAt g.rows i) c).1 (rowAt g.rows i)) = q at hq ⊢
    have : ∀ n, Bel g.f (it (runN q (rowAt g.rows (i + 1))) n (runA g.f (rowAt g.rows i) c)) := fun n => by
      induction n with
      | zero => exact ha
      | succ n ih =>
        rw [it]
        generalize it (runN q (rowAt g.rows (i + 1))) n (runA g.f (rowAt g.rows i) c) = e at ih ⊢
        unfold runN
        split
        · exact ih.set (at0_lt hv hq _)
        · exact ih
    exact this 4
  · exact ha
theorem run_below {g : Gp} {pub sec : List Int} (hok : runOk g pub sec) (hp : ∀ x ∈ pub, 0 ≤ x) (hs : ∀ x ∈ sec, 0 ≤ x) : below g.f (runV g pub sec).1 = true ∧ ∀ x ∈ (runV g pub sec).1, 0 ≤ x := by
  have hv := hok.1
  unfold validM at hv
  rw [Bool.and_eq_true, decide_eq_true_eq] at hv
  have hL := hv.1
  have h0 := fP_pos hL.1
  have hb : Bel g.f (runV g pub sec) := by
    unfold runV
    rw [runI_eq hok.2.1 hok.2.2.1 hL.2.2.2.2.2.1]
    have : ∀ n, Bel g.f (it (runR g) n (c0 g pub sec)) := fun n => by
      induction n with
      | zero =>
        intro x hx
        unfold it c0 at hx
        rw [List.mem_append, List.mem_append] at hx
        rcases hx with (hx | hx) | hx
        · exact ⟨hp x hx, of_decide_eq_true (List.all_eq_true.1 hok.2.2.2.1 x hx)⟩
        · exact ⟨hs x hx, of_decide_eq_true (List.all_eq_true.1 hok.2.2.2.2 x hx)⟩
        · rw [List.eq_of_mem_replicate hx]; exact ⟨Int.le_refl 0, h0⟩
      | succ n ih =>
        rw [it]
        exact ih.run hL.1 n
    exact this _
  exact ⟨List.all_eq_true.2 fun x hx => decide_eq_true (hb x hx).2, fun x hx => (hb x hx).1⟩
end Go.VE
/- The arguments of the laws of the gates; small. -/
namespace Go.VE
open Go Go.Proofs
set_option maxRecDepth 20000
theorem mn_int {n : Nat} {a : List Value} {s : St} (h : Mean P (n + 1) 3 a s) : ∃ i, a = [.int .i64 i] ∧ -(2 ^ 63) ≤ i ∧ i < 2 ^ 63 := by
  rw [me_3] at h
  obtain ⟨i, rfl, hi⟩ := h
  exact ⟨i, rfl, wf_i64 hi⟩
theorem mn_u64 {n : Nat} {a : List Value} {s : St} (h : Mean P (n + 1) 38 a s) : ∃ i, a = [.int .u64 i] ∧ 0 ≤ i ∧ i < 2 ^ 64 := by
  rw [me_38] at h
  obtain ⟨i, rfl, hi⟩ := h
  exact ⟨i, rfl, wf_u64 hi⟩
theorem row_of {n : Nat} {a : List Value} {s : St} (h : Mean P (n + 3) 43 a s) : ∃ r : Row, a = r.cells ∧ r.Nn := by
  rw [me_43] at h
  simp only [Parts] at h
  obtain ⟨x0, y0, rfl, h0, x1, y1, rfl, h1, x2, y2, rfl, h2, x3, y3, rfl, h3, x4, y4, rfl, h4, x5, y5, rfl, h5, x6, y6, rfl, h6, x7, y7, rfl, h7, rfl⟩ := h
  rw [me_40] at h0
  obtain ⟨k, rfl, hk⟩ := h0
  rw [me_41] at h1
  obtain ⟨l, rfl, hl, hm⟩ := h1
  obtain ⟨q1, rfl, z1, _⟩ := mn_u64 h2
  obtain ⟨q2, rfl, z2, _⟩ := mn_u64 h3
  obtain ⟨q3, rfl, z3, _⟩ := mn_u64 h4
  obtain ⟨q4, rfl, z4, _⟩ := mn_u64 h5
  obtain ⟨q5, rfl, z5, _⟩ := mn_u64 h6
  obtain ⟨rd, rfl, _⟩ := mn_int h7
  match l, hl, hm with
  | [a0, a1, a2, a3], _, hm =>
    obtain ⟨w0, rfl, _⟩ := mn_int (hm a0 (by simp)).2
    obtain ⟨w1, rfl, _⟩ := mn_int (hm a1 (by simp)).2
    obtain ⟨w2, rfl, _⟩ := mn_int (hm a2 (by simp)).2
    obtain ⟨w3, rfl, _⟩ := mn_int (hm a3 (by simp)).2
    exact ⟨⟨k, w0, w1, w2, w3, q1, q2, q3, q4, q5, rd⟩, rfl, ⟨z1, z2, z3, z4, z5⟩⟩
theorem rows_of : ∀ {l : List (List Value)} (_ : ∀ c ∈ l, ∃ r : Row, c = r.cells ∧ r.Nn), ∃ L : List Row, l.flatten = rowCells L ∧ L.length = l.length ∧ ∀ r ∈ L, r.Nn
  | [], _ => ⟨[], rfl, rfl, fun q hq => by cases hq⟩
  | c :: l, h => by
    obtain ⟨p, rfl, hp⟩ := h c (by simp)
    obtain ⟨L, h1, h2, h3⟩ := rows_of (l := l) fun c hc => h c (by simp [hc])
    refine ⟨p :: L, ?_, by simp [h2], fun q hq => ?_⟩
    · rw [List.flatten_cons, h1]; rfl
    · rcases List.mem_cons.1 hq with rfl | hq
      · exact hp
      · exact h3 q hq
theorem gates_of {n : Nat} {a : List Value} {s : St} (h : Mean P (n + 5) 24 a s) : ∃ (g : Gp) (ur : Value), a = g.cells ur ∧ RowsS s ur g.rows ∧ (∀ r ∈ g.rows, r.Nn) ∧ g.rows.length ≤ maxLen := by
  rw [me_24] at h
  simp only [Parts] at h
  obtain ⟨x0, y0, rfl, h0, x1, y1, rfl, h1, x2, y2, rfl, h2, x3, y3, rfl, h3, x4, y4, rfl, h4, rfl⟩ := h
  obtain ⟨f, rfl, _⟩ := mn_int h0
  obtain ⟨nv, rfl, _⟩ := mn_int h1
  obtain ⟨pub, rfl, _⟩ := mn_int h2
  obtain ⟨sec, rfl, _⟩ := mn_int h3
  rw [me_22] at h4
  obtain ⟨u, l, rfl, hlen, hs, hl⟩ := h4
  obtain ⟨L, hL, hn, hnn⟩ := rows_of (l := l) fun c hc => row_of (hl c hc).2
  refine ⟨⟨f, nv, pub, sec, L⟩, u, rfl, ?_, hnn, by rw [hn]; exact hlen⟩
  unfold RowsS
  rw [hn, ← hL]
  exact hs
theorem u64s_of {n : Nat} {a : List Value} {s : St} (h : Mean P (n + 2) 25 a s) : ∃ (u : Value) (l : List Int), a = [u] ∧ U64s s u l ∧ (∀ x ∈ l, 0 ≤ x) ∧ l.length ≤ maxLen := by
  rw [me_25] at h
  obtain ⟨u, l, rfl, hlen, hs, hl⟩ := h
  simp only [me_38] at hl
  obtain ⟨V, hV, hn, hVw⟩ := ints_flat hl
  refine ⟨u, V, rfl, ?_, fun i hi => (wf_u64 (hVw i hi)).1, by rw [hn]; exact hlen⟩
  unfold U64s
  rw [hn, ← hV]
  exact hs
section
variable {ro : Nat} {s : St} {K : Value → St → Prop}
theorem wSmall (g : Gp) {ur : Value} (hw : Wf s) (hr : RowsS s ur g.rows) : CallWP P ro 8 [.agg (.mk (g.cells ur))] s K = K (.bool (decide (g.nv ≤ 300 ∧ g.rows.length ≤ 300))) s := by
  refine callEq (call_wp b8 rfl ?_) K
  rw [n8]
  unfold v8
  simp (maxSteps := 10000000) only [wW, reduceCtorEq, Nat.reduceEqDiff]
  refine box_rule hw.ent fun G s1 m1 => ?_
  have hG := acells_some (show s1.at G = some (.cells (g.cells ur) 24 false) from m1.here)
  have hr1 : RowsS s1 ur g.rows := (Sl.ent hr).grew m1.grew.same
  have hgl : ∀ s' K, wop P ro (.call ⟨.builtin .len, ⟨[.const ur]⟩, #[22]⟩) 3 s' K = K (.int .i64 (g.rows.length : Nat)) s' := fun s' K => Sl.wlen hr1 se_22 _ K
  simp (maxSteps := 10000000) only [wW, reduceCtorEq, Nat.reduceEqDiff, wL, Nat.reduceAdd, hG, hgl]
  by_cases c : g.nv ≤ 300
  · rw [if_pos c]
    refine fin_flat rfl m1.grew ⟨?_, rfl⟩
    congr 1
    exact decide_eq_decide.2 ⟨fun h => ⟨c, by omega⟩, fun h => by have := h.2; omega⟩
  · rw [if_neg c]
    refine fin_flat rfl m1.grew ⟨?_, rfl⟩
    rw [decide_eq_false (fun h => c h.1)]
end
end Go.VE
/- GatesFunction: parts of the values. -/
namespace Go.VE
open Go Go.Proofs
set_option maxRecDepth 20000
section
variable {ro : Nat} {s : St} {K : Value → St → Prop}
theorem slu_front {u : Value} {V : List Int} (h : U64s s u V) {k : Int} (h0 : 0 ≤ k) (hk : k ≤ V.length) : ∃ w, U64s s w (V.take k.toNat) ∧ ∀ (ty : TypeId) (s' : St) (K : Value → St → Prop), wop P ro (.slice 25 (.const u) none (some (.const (.int .i64 k))) none) ty s' K = K w s' := by
  obtain ⟨n, rfl⟩ : ∃ n : Nat, k = n := ⟨k.toNat, by omega⟩
  rw [Int.toNat_natCast]
  obtain ⟨w, hw, hop⟩ := Sl.front h (k := n) (by omega)
  rw [Nat.mul_one] at hw
  have hw' : U64s s w (V.take n) := by
    unfold U64s
    rw [List.map_take, List.length_take, Nat.min_eq_left (by omega)]
    exact hw
  refine ⟨w, hw', fun ty s' K => ?_⟩
  rcases hop se_25 isz_38 with ⟨rfl, rfl⟩ | ⟨a, n', c, rfl, e⟩
  · have hz : n = 0 := by
      have hl := h.len
      obtain ⟨_, _, e, _⟩ := h
      injection e with _ e2 _
      omega
    subst hz
    have e : wop P ro (.slice 25 (.const (.slice none 0 0)) none (some (.const (.int .i64 ((0 : Nat) : Int)))) none) ty s' K = K (.slice none 0 0) s' := by kernel_rfl
    exact e
  · rw [wop_slice]
    simp only [Option.map_some, Option.map_none, aval, e, wopt_some]
theorem slu_mid {u : Value} {V : List Int} (h : U64s s u V) {a b : Int} (h0 : 0 ≤ a) (hab : a ≤ b) (hb : b ≤ V.length) : ∃ w, U64w s w ((V.drop a.toNat).take (b.toNat - a.toNat)) ∧ ∀ (ty : TypeId) (s' : St) (K : Value → St → Prop), wop P ro (.slice 25 (.const u) (some (.const (.int .i64 a))) (some (.const (.int .i64 b))) none) ty s' K = K w s' := by
  obtain ⟨x, c, rfl, hl, ⟨hc, hnone, hsp⟩, hbk⟩ := h
  rw [Nat.mul_one] at hbk
  have hhi : abound (some (.int .i64 b)) V.length c = some b.toNat := by
    simp only [abound]
    rw [if_pos ⟨by omega, by omega⟩]
  have hlo : abound (some (.int .i64 a)) 0 b.toNat = some a.toNat := by
    simp only [abound]
    rw [if_pos ⟨by omega, by omega⟩]
  have hund := sliceElem_un se_25
  have hs := isz_38
  have hlen : ((V.drop a.toNat).take (b.toNat - a.toNat)).length = b.toNat - a.toNat := by rw [List.length_take, List.length_drop]; omega
  cases x with
  | none =>
    obtain rfl := hnone rfl
    have hV : V.length = 0 := by omega
    have ha : a = 0 := by omega
    have hb0 : b = 0 := by omega
    subst ha hb0
    rw [hV]
    refine ⟨.slice none 0 0, .inl ?_, fun ty s' K => by kernel_rfl⟩
    have : (V.drop (0 : Int).toNat).take ((0 : Int).toNat - (0 : Int).toNat) = [] := List.take_zero
    rw [this]
    exact Sl.nil _ _
  | some x =>
    obtain ⟨A, o, m⟩ := x
    have hm := hsp _ rfl
    simp only at hm
    have view : ∀ (o' : Nat) (sp : Option Nat) (c' : Nat), mkOk sp = true → (sp = none ∨ (sp = some 0 ∧ 0 < c')) → b.toNat - a.toNat ≤ c' → (b.toNat - a.toNat ≠ 0 → o' = o + a.toNat) → U64w s (.slice (some ⟨A, o', sp⟩) (b.toNat - a.toNat) c') ((V.drop a.toNat).take (b.toNat - a.toNat)) := fun o' sp c' h1 h2 h3 h4 => by
      refine .inl ⟨_, _, by rw [hlen], by simp, ⟨by omega, fun h => (by cases h), fun x hx => by cases hx; exact h2⟩, fun hne => ?_⟩
      rw [Nat.mul_one, hlen] at hne
      obtain ⟨A', oo, mm, cells, t, op, e, _, hA, hcs⟩ := hbk (by omega)
      cases e
      refine ⟨A, o', sp, cells, t, op, rfl, h1, hA, ?_⟩
      rw [h4 hne, Nat.mul_one, hlen, ← List.drop_drop, List.map_take, List.map_drop, ← hcs, List.drop_take, List.take_take, Nat.min_eq_left (by omega)]
    rcases hm with rfl | ⟨rfl, hpos⟩
    · refine ⟨.slice (some ⟨A, if c = a.toNat then o else o + a.toNat * 1, none⟩) (b.toNat - a.toNat) (c - a.toNat), view _ none _ rfl (.inl rfl) (by omega) (fun hne => by rw [if_neg (by omega)]; omega), fun ty s' K => ?_⟩
      rw [wop_slice]
      simp only [asliceOp, hund, hs, sliceTwo, Option.map_some, Option.map_none, aval, hhi, hlo, Option.bind_some]
      by_cases hx : c = a.toNat
      · rw [if_pos hx, if_pos hx, wopt_some]
      · rw [if_neg hx, if_neg hx, wopt_some]
    · by_cases hx : a.toNat < c
      · refine ⟨.slice (some ⟨A, o + a.toNat * 1, some 0⟩) (b.toNat - a.toNat) (c - a.toNat), view _ (some 0) _ rfl (.inr ⟨rfl, by omega⟩) (by omega) (fun hne => by omega), fun ty s' K => ?_⟩
        rw [wop_slice]
        simp only [asliceOp, hund, hs, sliceTwo, Option.map_some, Option.map_none, aval, hhi, hlo, Option.bind_some, hx, if_true, wopt_some]
      · have hba : b.toNat = a.toNat := by omega
        have hca : c = a.toNat := by omega
        refine ⟨.slice (some ⟨A, o, some 1⟩) 0 0, .inr ⟨?_, A, o, rfl⟩, fun ty s' K => ?_⟩
        · rw [hba, Nat.sub_self, List.take_zero]
        · have e : asliceOp P 25 (.slice (some ⟨A, o, some 0⟩) V.length c) (some (.int .i64 a)) (some (.int .i64 b)) none = some (.slice (some ⟨A, o, some 1⟩) 0 0) := by
            simp only [asliceOp, hund, hs, sliceTwo, hhi, hlo, Option.bind_some]
            rw [if_neg hx, if_pos ⟨hba, hca⟩]
          rw [wop_slice]
          simp only [Option.map_some, Option.map_none, aval, e, wopt_some]
end
end Go.VE
/- GatesRun at every start. -/
namespace Go.VE
open Go Go.Proofs
set_option maxRecDepth 20000
theorem it_inv {α : Type} {p : α → Nat} {f : Nat → α → α} (h : ∀ n x, p (f n x) = p x) : ∀ (n : Nat) (x : α), p (it f n x) = p x
  | 0, _ => rfl
  | n + 1, x => by rw [it, h, it_inv h n]
theorem setV_len (w x : Int) (c : List Int × List Bool) : (setV w x c).1.length = c.1.length := by unfold setV; simp
theorem runA_len (f : Int) (r : Row) (c : List Int × List Bool) : (runA f r c).1.length = c.1.length := by
  unfold runA
  split
  · exact setV_len _ _ _
  · rfl
theorem runN_len (l : List Int) (nx : Row) (k : Nat) (c : List Int × List Bool) : (runN l nx k c).1.length = c.1.length := by
  unfold runN
  split
  · exact setV_len _ _ _
  · rfl
theorem runR_len (g : Gp) (i : Nat) (c : List Int × List Bool) : (runR g i c).1.length = c.1.length := by
  unfold runR runB
  split
  · rw [it_inv (p := fun c : List Int × List Bool => c.1.length) (fun n x => runN_len _ _ n x), runA_len]
  · exact runA_len _ _ _
theorem runI_len (pub sec : List Int) (i : Nat) (c : List Int × List Bool) : (runI pub sec i c).1.length = c.1.length := setV_len _ _ _
theorem runV_len (g : Gp) (pub sec : List Int) : (runV g pub sec).1.length = g.nv.toNat := by
  unfold runV
  rw [it_inv (p := fun c : List Int × List Bool => c.1.length) (runR_len g), it_inv (p := fun c : List Int × List Bool => c.1.length) (runI_len pub sec)]
  simp [run0]
section
variable {ro : Nat} {s : St} {K : Value → St → Prop}
end
end Go.VE
